import PyProof.Rows.All
import Wide.All
import OpenK.AllK
import Wide.FinOn
import KE.KStateDown
import HandS.Words
import KE.KExcInit
import HandS.Defaults
import HandS.Head0
import HandS.Head1
import HandS.Head2
import HandS.HeadHook1
import HandS.HeadHook2
import HandS.HeadHook3
import PySem.Challenge.RW_deedscale_k20_texts_refused
import KE.KExcSuper
import HandS.ForMost
import HandS.ForExc
import HandS.ExcInit
import HandS.ClsMeth
import HandS.More
import HandS.Wide
import HandS.Flow
import HandS.IsInst
import HandS.Dict
import HandS.Star
import HandS.DictComp
import HandS.FStr
import HandS.Walk
import HandS.MakeKwOnly
import HandS.WordsExc
import HandS.Conv
import KE.KIndexOf
import PyProof.SeqIndex
import HandS.ExcIs
import HandS.ExcOwn
import HandS.Text
import HandS.ExcValue
import PyProof.StrOps2
import HandS.Deep
import PyProof.StrBlock2
import PyProof.StrBlockL
import HandS.Iter
import PyProof.Rows.StrMul
import HandS.CallLocal
import HandS.TupAny
import HandS.SlotsOwn
import HandS.Property
import HandS.Codes
import KE.KFmtOwn
import KE.KOpsOwn
import PyProof.InstEq
import HandS.ReplaceLit
import HandS.ReplaceDef
import HandS.ReplaceList
import PyProof.Rows.StrSplitJoin
import HandS.TryOnly
import KE.KCallOwn
import HandS.TupLe
import HandS.RaiseMore
import HandS.StrMore
import HandS.HeadEnd
set_option Elab.async false
set_option linter.all false
set_option maxRecDepth 100000
set_option maxHeartbeats 4000000
/-! The head by one run of the kernel, with a look of one's own: facts as Bools of what the top has left, functions and tables by their texts. -/
namespace L2.DS
open PySem PySem.Spec PyProof.Rows
abbrev Fg := PySem.W.Frag
/-- a function as its text has it -/
abbrev FnU : Type := Option (Str × Str × Arguments × FuncBody × Scope × Addr × Addr)
def fnU (K : Fg) (f : Addr) : FnU := match K.lookup f with
  | some ⟨_, _, .func fd, _⟩ => some (fd.name, fd.qualname, fd.params, fd.body, fd.scope, fd.globals, fd.builtins)
  | _ => none
def fdA (K : Fg) (f : Addr) : FuncData := match K.lookup f with
  | some ⟨_, _, .func fd, _⟩ => fd
  | _ => default
structure Df where
  at_ : Fg → Addr
  name : Str
  qual : Str
  st : Stmt
def Df.val (d : Df) : FnU := some (d.name, d.qual, defArgs d.st, .stmts (defBody d.st), defScope d.st, mainGlobals, builtinsNs)
/-- all that is reached of some addresses: each once, told by a mask -/
def reachG (g : Addr → Option Obj) : Nat → List Addr → Nat → Fg
  | 0, _, _ => []
  | n + 1, as, M => match as with
    | [] => []
    | a :: q => match Nat.beq (Nat.mod (Nat.shiftRight M a) 2) 1 with
      | true => reachG g n q M
      | false => match g a with
        | none => reachG g n q M
        | some o => HandSHeadRun.frNat (Nat.lor M (Nat.shiftLeft 1 a)) fun M' => (a, o) :: reachG g n (He.refsD o ++ q) M'
theorem reachG_in {g : Addr → Option Obj} : ∀ {n : Nat} {as : List Addr} {M : Nat} {a : Addr} {o : Obj}, (a, o) ∈ reachG g n as M → g a = some o
  | 0, _, _, _, _, h => by cases h
  | n + 1, [], _, _, _, h => by cases h
  | n + 1, b :: q, M, a, o, h => by
    unfold reachG at h
    dsimp only at h
    split at h
    · exact reachG_in h
    · cases hb : g b with
      | none =>
        rw [hb] at h
        exact reachG_in h
      | some ob =>
        rw [hb] at h
        dsimp only at h
        rw [HandSHeadRun.frNat_eq] at h
        rcases List.mem_cons.mp h with e | e
        · cases e
          exact hb
        · exact reachG_in e
theorem look_mem {K : Fg} {a : Addr} {o : Obj} : K.lookup a = some o → (a, o) ∈ K := fun h => by
  induction K with
  | nil => cases h
  | cons p r ih =>
    obtain ⟨b, u⟩ := p
    rw [List.lookup_cons] at h
    split at h
    · rename_i e
      cases h
      rw [beq_iff_eq.mp e]
      exact List.mem_cons_self
    · exact List.mem_cons_of_mem _ (ih h)
def fragB (n : Nat) (g : Addr → Option Obj) : Fg := reachG g n [mainGlobals, cStatics] 0
theorem fragB_in {n : Nat} {h : Heap} : (fragB n h.get?).In h := fun _ _ e => reachG_in (look_mem e)
/-! ### the look -/
abbrev AlB : Type := (Bool × List FnU) × List (Option (List (Option (Str × Int))))
def obsB (fs : List (Fg → Bool)) (dfs : List Df) (ts : List He.Tab) (K : Fg) : AlB := ((fs.all fun f => f K, dfs.map fun d => fnU K (d.at_ K)), ts.map fun t => He.dicW K (t.1 K))
def valB (dfs : List Df) (ts : List He.Tab) (w : World) : AlB := ((true, dfs.map Df.val), ts.map fun t => some (He.keysIn w.params t.2))
def SaysB (fs : List (Fg → Bool)) (dfs : List Df) (ts : List He.Tab) (w : World) (K : Fg) : Prop := obsB fs dfs ts K = valB dfs ts w
def obsBG (n : Nat) (fs : List (Fg → Bool)) (dfs : List Df) (ts : List He.Tab) (g : Addr → Option Obj) : AlB := obsB fs dfs ts (fragB n g)
def hookB (n : Nat) (fs : List (Fg → Bool)) (dfs : List Df) (ts : List He.Tab) : PySem.W.Hook where
  α := AlB
  obs := fun s => obsBG n fs dfs ts s.heap.get?
  val := fun w => valB dfs ts w
  says := fun w h => ∃ K : Fg, K.In h ∧ SaysB fs dfs ts w K
  of := fun _ _ e => ⟨_, fragB_in, e⟩
  keeps := fun _ _ _ ⟨K, hK, c⟩ k => ⟨K, PySem.W.Frag.In.keeps hK k, c⟩
theorem obsBG_eq {n : Nat} {fs : List (Fg → Bool)} {dfs : List Df} {ts : List He.Tab} {g : Addr → Option Obj} {s : Shared} (h : ∀ a, g a = s.heap.get? a) : obsBG n fs dfs ts g = (hookB n fs dfs ts).obs s := by
  have e : g = s.heap.get? := funext h
  rw [e] <;> rfl
section
variable {fs : List (Fg → Bool)} {dfs : List Df} {ts : List He.Tab} {w : World} {K : Fg}
theorem SaysB.all (c : SaysB fs dfs ts w K) : (fs.all fun f => f K) = true := congrArg (fun z : AlB => z.1.1) c
theorem SaysB.fact (c : SaysB fs dfs ts w K) (i : Nat) {f : Fg → Bool} (h : fs[i]? = some f := by rfl) : f K = true := List.all_eq_true.mp c.all f (List.mem_of_getElem? h)
theorem SaysB.fn (c : SaysB fs dfs ts w K) (i : Nat) {d : Df} (h : dfs[i]? = some d := by rfl) : fnU K (d.at_ K) = d.val := by
  have e : dfs.map (fun d => fnU K (d.at_ K)) = dfs.map Df.val := congrArg (fun z : AlB => z.1.2) c
  have e2 : (dfs.map fun d => fnU K (d.at_ K))[i]? = (dfs.map Df.val)[i]? := by rw [e]
  rw [List.getElem?_map, List.getElem?_map, h] at e2
  exact Option.some.inj e2
theorem SaysB.tab (c : SaysB fs dfs ts w K) (i : Nat) {t : He.Tab} (h : ts[i]? = some t := by rfl) : ∃ es n, KDict K w (t.1 K) es n := by
  have e : ts.map (fun t => He.dicW K (t.1 K)) = ts.map fun t => some (He.keysIn w.params t.2) := congrArg (fun z : AlB => z.2) c
  have e2 : (ts.map fun t => He.dicW K (t.1 K))[i]? = (ts.map fun t => some (He.keysIn w.params t.2))[i]? := by rw [e]
  rw [List.getElem?_map, List.getElem?_map, h] at e2
  exact He.dicW_ok (Option.some.inj e2)
end
/-! ### checks -/
def isNon : Value → Bool
  | .none => true
  | _ => false
theorem isNon_ok {v : Value} (h : isNon v = true) : v = .none := by
  cases v <;> first | rfl | cases h
/-- a plain def: no closure, no defaults -/
def ckFn (K : Fg) (f : Addr) (qual : Str) : Bool := PySem.W.keepIn K (.ref f) && (match K.lookup f with
  | some ⟨_, _, .func fd, _⟩ => fd.closure.isEmpty && (isNon fd.defaults && PySem.W.codeIn K fd.code qual)
  | _ => false)
/-- a def with a closure over its class -/
def ckFile (file : Str) (vs : Array Value) : Bool := match (vs[2]? : Option Value) with
  | some (.str fi _) => file == fi
  | _ => false
def ckCell (D : Addr) : Option Obj → Bool
  | some ⟨_, _, .cell (some (.ref D')), _⟩ => decide (D' = D)
  | _ => false
def ckClo (K : Fg) (D : Addr) : List (Str × Addr) → Bool
  | [(x, cc)] => decide (x = ("__class__" : Str)) && ckCell D (K.lookup cc)
  | _ => false
def ckFlds (file : Str) : Option Obj → Bool
  | some ⟨_, _, .fields vs, _⟩ => ckFile file vs
  | _ => false
def ckCode (file : Str) (K : Fg) (qual : Str) : Value → Bool
  | .ref cda => PySem.W.codeIn K (.ref cda) qual && ckFlds file (K.lookup cda)
  | _ => false
def ckSup (file : Str) (K : Fg) (f D : Addr) (qual : Str) : Bool := PySem.W.keepIn K (.ref f) && (PySem.W.fnIn K f && (decide (PySem.W.typeIn K (.ref f) = some (.type "function")) && (match K.lookup f with
  | some ⟨_, _, .func fd, _⟩ => isNon fd.defaults && (ckClo K D fd.closure && ckCode file K qual fd.code)
  | _ => false)))
def ckKw0 (K : Fg) (f : Addr) : Bool := isNon (fdA K f).kwdefaults
/-- a module's number, text -/
def ckInt (K : Fg) (x : Str) (i : Int) : Bool := match PySem.W.nsIn K mainGlobals x with
  | some (some (.int j _)) => decide (j = i)
  | _ => false
def ckStr (K : Fg) (x z : Str) : Bool := match PySem.W.nsIn K mainGlobals x with
  | some (some (.str y _)) => decide (y = z)
  | _ => false
/-- a tuple of known things -/
inductive PV where
  | ref (a : Addr)
  | str (z : Str)
  | int (i : Int)
def pvOk : PV → Value → Bool
  | .ref a, .ref b => decide (b = a)
  | .str z, .str y _ => decide (y = z)
  | .int i, .int j _ => decide (j = i)
  | _, _ => false
def pvsOk : List PV → List Value → Bool
  | [], [] => true
  | p :: ps, v :: vs => pvOk p v && pvsOk ps vs
  | _, _ => false
def ckTupO (ps : List PV) : Option Obj → Bool
  | some ⟨c, _, .seq vs _, _⟩ => decide (c = .type "tuple") && pvsOk ps vs.toList
  | _ => false
def ckTup (K : Fg) (a : Addr) (ps : List PV) : Bool := ckTupO ps (K.lookup a)
def PvIs : PV → Value → Prop
  | .ref a, v => v = .ref a
  | .str z, v => ∃ t, v = .str z t
  | .int i, v => ∃ t, v = .int i t
def PvsIs : List PV → List Value → Prop
  | [], vs => vs = []
  | p :: ps, vs => ∃ v r, vs = v :: r ∧ PvIs p v ∧ PvsIs ps r
/-! ### what they say -/
section
variable {K : Fg} {f D : Addr} {x qual file z : Str} {st : Stmt} {i : Int}
theorem fnU_ok (e : fnU K f = some (x, qual, defArgs st, .stmts (defBody st), defScope st, mainGlobals, builtinsNs)) : ∃ oc od osl cl dV kV doc pm an cdv ct, K.lookup f = some ⟨oc, od, .func ⟨x, qual, defArgs st, .stmts (defBody st), defScope st, mainGlobals, cl, dV, kV, doc, pm, an, cdv, ct, builtinsNs⟩, osl⟩ := by
  unfold fnU at e
  split at e
  · rename_i oc od fd osl h
    obtain ⟨n1, n2, n3, n4, n5, n6, n7, n8, n9, n10, n11, n12, n13, n14, n15⟩ := fd
    have eu : (some (n1, n2, n3, n4, n5, n6, n15) : FnU) = some (x, qual, defArgs st, .stmts (defBody st), defScope st, mainGlobals, builtinsNs) := e
    simp only [Prod.mk.injEq, Option.some.injEq] at eu
    obtain ⟨u1, u2, u3, u4, u5, u6, u7⟩ := eu
    subst u1 u2 u3 u4 u5 u6 u7
    exact ⟨oc, od, osl, n7, n8, n9, n10, n11, n12, n13, n14, h⟩
  · cases e
theorem and2 {a b : Bool} (h : (a && b) = true) : a = true ∧ b = true := Bool.and_eq_true_iff.mp h
theorem fun_of (e : fnU K f = some (x, qual, defArgs st, .stmts (defBody st), defScope st, mainGlobals, builtinsNs)) (c : ckFn K f qual = true) : ∃ fd, Fun K x qual st f fd := by
  obtain ⟨oc, od, osl, cl, dV, kV, doc, pm, an, cdv, ct, l⟩ := fnU_ok e
  obtain ⟨k, c⟩ := and2 c
  rw [l] at c
  obtain ⟨c1, c⟩ := and2 (show (cl.isEmpty && (isNon dV && PySem.W.codeIn K cdv qual)) = true from c)
  obtain ⟨c2, c3⟩ := and2 c
  obtain rfl := List.isEmpty_iff.mp c1
  obtain rfl := isNon_ok c2
  exact ⟨_, ⟨oc, od, kV, doc, pm, an, cdv, ct, osl, rfl, l, c3⟩, k⟩
end
theorem pvOk_ok : ∀ {p : PV} {v : Value}, pvOk p v = true → PvIs p v
  | .ref a, .ref b, h => by rw [show b = a from of_decide_eq_true h]; rfl
  | .str z, .str y t, h => by rw [show y = z from of_decide_eq_true h]; exact ⟨t, rfl⟩
  | .int i, .int j t, h => by rw [show j = i from of_decide_eq_true h]; exact ⟨t, rfl⟩
theorem pvsOk_ok : ∀ {ps : List PV} {vs : List Value}, pvsOk ps vs = true → PvsIs ps vs
  | [], [], _ => rfl
  | p :: ps, v :: vs, h => by
    have h : (pvOk p v && pvsOk ps vs) = true := h
    rw [Bool.and_eq_true] at h
    exact ⟨v, vs, rfl, pvOk_ok h.1, pvsOk_ok h.2⟩
  | [], _ :: _, h => by cases h
  | _ :: _, [], h => by cases h
theorem tup_of {K : Fg} {a : Addr} {ps : List PV} (h : ckTup K a ps = true) : ∃ d n sl vs, PvsIs ps vs ∧ K.lookup a = some ⟨.type "tuple", d, .seq vs.toArray n, sl⟩ := by
  unfold ckTup ckTupO at h
  split at h
  · rename_i c d vs n sl e
    rw [Bool.and_eq_true] at h
    refine ⟨d, n, sl, vs.toList, pvsOk_ok h.2, ?_⟩
    rw [e, show c = .type "tuple" from of_decide_eq_true h.1]
  · cases h
end L2.DS
/-! Tables of the top with text keys: what the look holds. -/
namespace L2.DS
open PySem PySem.Spec PyProof.Rows
/-- a table's value, a tuple of texts -/
def ckTabT (K : Fg) (a : Addr) (z : Str) (ws : List Str) : Bool := match PySem.W.nsIn K a z with
  | some (some (.ref u)) => ckTup K u (ws.map .str)
  | _ => false
def formTab : List (Str × List Str) := [("deed", ["name"]), ("call", ["name"]), ("leave", ["name"]), ("loop", ["term"]), ("times", ["count", "term"]), ("then", ["term", "term"]), ("either", ["term", "term"]), ("clean", ["term", "term"]), ("catch", ["name", "term", "term"])]
def formKH : List Str := ["deed", "call", "leave", "loop", "times", "then", "either", "clean", "catch"]
def ckForms (K : Fg) (a : Addr) : Bool := formTab.all fun p => ckTabT K a p.1 p.2
def otherKH : List Str := ["skip", "program", "to", "end"]
def TupTx (K : Fg) (a : Addr) (ws : List Str) : Prop := ∀ H, SqT K H a (ws.map V.str)
def ckTupT (K : Fg) (a : Addr) (ws : List Str) : Bool := ckTup K a (ws.map .str)
end L2.DS
namespace L2.DS
open PySem PySem.Spec PyProof.Rows
def topH (i : Nat) : Stmt := PySem.Challenge.pw_deedscale_k20_texts_refused.main.body.getD i (.Pass ⟨0, 0, 0, 0⟩)
def dfsH : List Df := ([⟨fun K => He.ga K "_law_source", "_law_source", "_law_source", topH 18⟩, ⟨fun K => He.ga K "_law_pick", "_law_pick", "_law_pick", topH 19⟩, ⟨fun K => He.ga K "is_name", "is_name", "is_name", topH 10⟩, ⟨fun K => He.ga K "is_count", "is_count", "is_count", topH 11⟩, ⟨fun K => He.ga K "split_text", "split_text", "split_text", topH 12⟩, ⟨fun K => He.ga K "read_all", "read_all", "read_all", topH 14⟩, ⟨fun K => He.ga K "read_term", "read_term", "read_term", topH 15⟩, ⟨fun K => He.ga K "read_procedures", "read_procedures", "read_procedures", topH 16⟩, ⟨fun K => He.ma K (He.ga K "BadText") "__init__", "__init__", "BadText.__init__", inClass (topH 2) 0⟩, ⟨fun K => He.ma K (He.ga K "Pile") "__init__", "__init__", "Pile.__init__", inClass (topH 13) 0⟩, ⟨fun K => He.ma K (He.ga K "Pile") "wish", "wish", "Pile.wish", inClass (topH 13) 1⟩, ⟨fun K => He.ma K (He.ga K "Pile") "settle", "settle", "Pile.settle", inClass (topH 13) 2⟩, ⟨fun K => He.ma K (He.ga K "Pile") "meets_bracket", "meets_bracket", "Pile.meets_bracket", inClass (topH 13) 4⟩, ⟨fun K => He.ma K (He.ga K "Pile") "meets", "meets", "Pile.meets", inClass (topH 13) 3⟩, ⟨fun K => He.ga K "_law_name", "_law_name", "_law_name", topH 20⟩, ⟨fun K => He.ga K "_law_names", "_law_names", "_law_names", topH 21⟩, ⟨fun K => He.ga K "_law_term", "_law_term", "_law_term", topH 22⟩, ⟨fun K => He.ga K "_law_text", "_law_text", "_law_text", topH 23⟩, ⟨fun K => He.ga K "_law_tokens", "_law_tokens", "_law_tokens", topH 24⟩, ⟨fun K => He.ga K "_law_fits", "_law_fits", "_law_fits", topH 25⟩, ⟨fun K => He.ga K "_law_read", "_law_read", "_law_read", topH 26⟩, ⟨fun K => He.ga K "_law_read_program", "_law_read_program", "_law_read_program", topH 27⟩, ⟨fun K => He.ga K "_law_bent", "_law_bent", "_law_bent", topH 28⟩, ⟨fun K => He.ga K "_law_laid", "_law_laid", "_law_laid", topH 29⟩, ⟨fun K => He.ga K "_law_right", "_law_right", "_law_right", topH 30⟩, ⟨fun K => He.ga K "law", "law", "law", topH 31⟩] : List Df)
def ckH0 (K : Fg) : Bool := ckFn K (He.ga K "_law_source") "_law_source" && (ckFn K (He.ga K "_law_pick") "_law_pick" && (ckFn K (He.ga K "is_name") "is_name" && (ckFn K (He.ga K "is_count") "is_count" && (ckFn K (He.ga K "split_text") "split_text" && (ckFn K (He.ga K "read_all") "read_all" && (ckFn K (He.ga K "read_term") "read_term" && (ckFn K (He.ga K "read_procedures") "read_procedures" && (ckSup PySem.Challenge.pw_deedscale_k20_texts_refused.main.file K (He.ma K (He.ga K "BadText") "__init__") (He.ga K "BadText") "BadText.__init__" && (ckKw0 K (He.ma K (He.ga K "BadText") "__init__") && (ckFn K (He.ma K (He.ga K "Pile") "__init__") "Pile.__init__" && (ckFn K (He.ma K (He.ga K "Pile") "wish") "Pile.wish")))))))))))
def ckH1 (K : Fg) : Bool := ckFn K (He.ma K (He.ga K "Pile") "settle") "Pile.settle" && (ckFn K (He.ma K (He.ga K "Pile") "meets_bracket") "Pile.meets_bracket" && (ckFn K (He.ma K (He.ga K "Pile") "meets") "Pile.meets" && (ckFn K (He.ga K "_law_name") "_law_name" && (ckFn K (He.ga K "_law_names") "_law_names" && (ckFn K (He.ga K "_law_term") "_law_term" && (ckFn K (He.ga K "_law_text") "_law_text" && (ckFn K (He.ga K "_law_tokens") "_law_tokens" && (ckFn K (He.ga K "_law_fits") "_law_fits" && (ckFn K (He.ga K "_law_read") "_law_read" && (ckFn K (He.ga K "_law_read_program") "_law_read_program" && (ckFn K (He.ga K "_law_bent") "_law_bent")))))))))))
def ckH2 (K : Fg) : Bool := ckFn K (He.ga K "_law_laid") "_law_laid" && (ckFn K (He.ga K "_law_right") "_law_right" && (ckFn K (He.ga K "law") "law" && (decide (PySem.W.nsIn K mainGlobals "int" = some none) && (decide (PySem.W.nsIn K mainGlobals "abs" = some none) && (decide (PySem.W.nsIn K mainGlobals "range" = some none) && (decide (PySem.W.nsIn K mainGlobals "len" = some none) && (decide (PySem.W.nsIn K mainGlobals "isinstance" = some none) && (decide (PySem.W.nsIn K mainGlobals "bool" = some none) && (decide (PySem.W.nsIn K mainGlobals "str" = some none) && (decide (PySem.W.nsIn K mainGlobals "list" = some none) && (decide (PySem.W.nsIn K mainGlobals "tuple" = some none))))))))))))
def ckH3 (K : Fg) : Bool := decide (PySem.W.nsIn K mainGlobals "dict" = some none) && (decide (PySem.W.nsIn K mainGlobals "enumerate" = some none) && (decide (PySem.W.nsIn K mainGlobals "zip" = some none) && (decide (PySem.W.nsIn K mainGlobals "reversed" = some none) && (decide (PySem.W.nsIn K mainGlobals "ValueError" = some none) && (decide (PySem.W.nsIn K mainGlobals "LookupError" = some none) && (decide (PySem.W.nsIn K mainGlobals "KeyError" = some none) && (decide (PySem.W.nsIn K mainGlobals "Exception" = some none) && (decide (PySem.W.nsIn K mainGlobals "super" = some none) && (decide (PySem.W.nsIn K mainGlobals "sum" = some none) && (decide (PySem.W.nsIn K mainGlobals "any" = some none) && (decide (PySem.W.nsIn K mainGlobals "all" = some none))))))))))))
def ckH4 (K : Fg) : Bool := decide (PySem.W.nsIn K mainGlobals "sorted" = some none) && (decide (PySem.W.nsIn K mainGlobals "max" = some none) && (decide (PySem.W.nsIn K mainGlobals "min" = some none) && (decide (PySem.W.nsIn K mainGlobals "NotImplementedError" = some none) && (decide (PySem.W.nsIn K mainGlobals "set" = some none) && (decide (PySem.W.nsIn K mainGlobals "repr" = some none) && (decide (PySem.W.nsIn K cStatics "thirdparty.any" = some none) && (decide (PySem.W.nsIn K mainGlobals "_law_source" = some (some (.ref (He.ga K "_law_source")))) && (decide (PySem.W.nsIn K mainGlobals "_law_pick" = some (some (.ref (He.ga K "_law_pick")))) && (decide (PySem.W.nsIn K mainGlobals "is_name" = some (some (.ref (He.ga K "is_name")))) && (decide (PySem.W.nsIn K mainGlobals "is_count" = some (some (.ref (He.ga K "is_count")))) && (decide (PySem.W.nsIn K mainGlobals "split_text" = some (some (.ref (He.ga K "split_text")))))))))))))))
def ckH5 (K : Fg) : Bool := decide (PySem.W.nsIn K mainGlobals "read_all" = some (some (.ref (He.ga K "read_all")))) && (decide (PySem.W.nsIn K mainGlobals "read_term" = some (some (.ref (He.ga K "read_term")))) && (decide (PySem.W.nsIn K mainGlobals "read_procedures" = some (some (.ref (He.ga K "read_procedures")))) && (decide (PySem.W.nsIn K mainGlobals "FORMS" = some (some (.ref (He.ga K "FORMS")))) && (decide (PySem.W.nsIn K mainGlobals "OTHER_WORDS" = some (some (.ref (He.ga K "OTHER_WORDS")))) && (ckForms K (He.ga K "FORMS") && (ckTupT K (He.ga K "OTHER_WORDS") otherKH && (ckStr K "SMALL" "abcdefghijklmnopqrstuvwxyz" && (ckStr K "FIGURES" "0123456789" && (ckInt K "MOST_OPEN" 40 && (ckInt K "MOST_FIGURES" 60 && (decide (PySem.W.specialIn K (.builtin "object.__class__") "__get__" = some (some (.builtin "getset_descriptor.__get__"))))))))))))))
def ckH6 (K : Fg) : Bool := decide (PySem.W.takesIn K (.builtin "object.__class__") = some true) && (decide (PySem.W.nsIn K mainGlobals "BadText" = some (some (.ref (He.ga K "BadText")))) && ((PySem.W.hasDictIn K (He.ga K "BadText")) && (decide (PySem.W.subIn K (.ref (He.ga K "BadText")) (.type "BaseException") = some true) && ((PySem.W.keepIn K (.ref (He.ga K "BadText"))) && (decide (PySem.W.findIn K (.ref (He.ga K "BadText")) "__getattribute__" = some (some (.builtin "BaseException.__getattribute__"))) && (decide (PySem.W.findIn K (.ref (He.ga K "BadText")) "__getattr__" = some none) && (decide (PySem.W.findIn K (.ref (He.ga K "BadText")) "__class__" = some (some (.builtin "object.__class__"))) && (decide (PySem.W.mroIn K (He.ga K "BadText") (.type "object") = some true) && (decide (PySem.W.typeIn K (.ref (He.ga K "BadText")) = some (.type "type")) && (decide (PySem.W.exmOne K (.ref (He.ga K "BadText")) (.ref (He.ga K "BadText")) = some true) && ((PySem.W.excInitIn K (He.ga K "BadText") [.type "ValueError", .type "Exception", .type "BaseException", .type "object"] "ValueError.__new__"))))))))))))
def ckH7 (K : Fg) : Bool := (PySem.W.excOver K (He.ga K "BadText") [.type "ValueError", .type "Exception", .type "BaseException", .type "object"]) && (decide (PySem.W.findIn K (.ref (He.ga K "BadText")) "__setattr__" = some (some (.builtin "object.__setattr__"))) && (decide (PySem.W.subIn K (.ref (He.ga K "BadText")) (.type "ValueError") = some true) && (decide (PySem.W.findIn K (.ref (He.ga K "BadText")) "at" = some none) && (decide (PySem.W.mroIn K (He.ga K "BadText") (.ref (He.ga K "BadText")) = some true) && (decide (PySem.W.ks_superIn K (He.ga K "BadText") (He.ga K "BadText") "__init__" = some (some (.builtin "ValueError.__init__"))) && (decide (PySem.W.findIn K (.ref (He.ga K "BadText")) "__init__" = some (some (.ref (He.ma K (He.ga K "BadText") "__init__")))) && (decide (PySem.W.nsIn K mainGlobals "Pile" = some (some (.ref (He.ga K "Pile")))) && ((PySem.W.plainGet K (He.ga K "Pile") Str.empty) && ((PySem.W.hasDictIn K (He.ga K "Pile")) && ((PySem.W.plainOver K (He.ga K "Pile")) && (decide (PySem.W.findIn K (.ref (He.ga K "Pile")) "__setattr__" = some (some (.builtin "object.__setattr__"))))))))))))))
def ckH8 (K : Fg) : Bool := decide (PySem.W.findIn K (.ref (He.ga K "Pile")) "wishes" = some none) && (decide (PySem.W.findIn K (.ref (He.ga K "Pile")) "read_values" = some none) && (decide (PySem.W.findIn K (.ref (He.ga K "Pile")) "open_count" = some none) && (decide (PySem.W.findIn K (.ref (He.ga K "Pile")) "__init__" = some (some (.ref (He.ma K (He.ga K "Pile") "__init__")))) && ((PySem.W.isFn K (.ref (He.ma K (He.ga K "Pile") "__init__"))) && ((PySem.W.makesIn K (He.ga K "Pile")) && ((PySem.W.keepIn K (.ref (He.ga K "Pile"))) && (decide (PySem.W.findIn K (.ref (He.ga K "Pile")) "wish" = some (some (.ref (He.ma K (He.ga K "Pile") "wish")))) && ((PySem.W.isFn K (.ref (He.ma K (He.ga K "Pile") "wish"))) && (decide (PySem.W.findIn K (.ref (He.ga K "Pile")) "settle" = some (some (.ref (He.ma K (He.ga K "Pile") "settle")))) && ((PySem.W.isFn K (.ref (He.ma K (He.ga K "Pile") "settle"))) && (decide (PySem.W.findIn K (.ref (He.ga K "Pile")) "meets_bracket" = some (some (.ref (He.ma K (He.ga K "Pile") "meets_bracket")))))))))))))))
def ckH9 (K : Fg) : Bool := (PySem.W.isFn K (.ref (He.ma K (He.ga K "Pile") "meets_bracket"))) && (decide (PySem.W.findIn K (.ref (He.ga K "Pile")) "meets" = some (some (.ref (He.ma K (He.ga K "Pile") "meets")))) && ((PySem.W.isFn K (.ref (He.ma K (He.ga K "Pile") "meets"))) && (decide (PySem.W.nsIn K mainGlobals "_law_name" = some (some (.ref (He.ga K "_law_name")))) && (decide (PySem.W.nsIn K mainGlobals "_law_names" = some (some (.ref (He.ga K "_law_names")))) && (decide (PySem.W.nsIn K mainGlobals "_law_term" = some (some (.ref (He.ga K "_law_term")))) && (decide (PySem.W.nsIn K mainGlobals "_law_text" = some (some (.ref (He.ga K "_law_text")))) && (decide (PySem.W.nsIn K mainGlobals "_law_tokens" = some (some (.ref (He.ga K "_law_tokens")))) && (decide (PySem.W.nsIn K mainGlobals "_law_fits" = some (some (.ref (He.ga K "_law_fits")))) && (decide (PySem.W.nsIn K mainGlobals "_law_read" = some (some (.ref (He.ga K "_law_read")))) && (decide (PySem.W.nsIn K mainGlobals "_law_read_program" = some (some (.ref (He.ga K "_law_read_program")))) && (decide (PySem.W.nsIn K mainGlobals "_law_bent" = some (some (.ref (He.ga K "_law_bent")))))))))))))))
def ckH10 (K : Fg) : Bool := decide (PySem.W.nsIn K mainGlobals "_law_laid" = some (some (.ref (He.ga K "_law_laid")))) && (decide (PySem.W.nsIn K mainGlobals "_law_right" = some (some (.ref (He.ga K "_law_right")))) && (decide (PySem.W.nsIn K mainGlobals "law" = some (some (.ref (He.ga K "law")))) && (decide (PySem.W.nsIn K mainGlobals "DeedscaleError" = some (some (.ref (He.ga K "DeedscaleError")))) && (decide (PySem.W.kitOne K (.ref (He.ga K "BadText")) (.ref (He.ga K "DeedscaleError")) = some true)))))
def fsH : List (Fg → Bool) := ([ckH0, ckH1, ckH2, ckH3, ckH4, ckH5, ckH6, ckH7, ckH8, ckH9, ckH10] : List (Fg → Bool))
def tabsH : List He.Tab := ([(fun K => He.ga K "FORMS", formKH)] : List He.Tab)
abbrev RH : PySem.W.OpenRow := PySem.W.OpenLaw.row PySem.Challenge.rw_deedscale_k20_texts_refused
abbrev qH : Program := PySem.W.view RH.prog [31]
def namesH : List Str := (["__name__", "DeedscaleError", "BadText", "SMALL", "FIGURES", "MOST_OPEN", "MOST_FIGURES", "FORMS", "OTHER_WORDS", "is_name", "is_count", "split_text", "Pile", "read_all", "read_term", "read_procedures", "_law_source", "_law_pick", "_law_name", "_law_names", "_law_term", "_law_text", "_law_tokens", "_law_fits", "_law_read", "_law_read_program", "_law_bent", "_law_laid", "_law_right"] : List Str)
def obH (s : PySem.W.SharedT) : AlB := obsBG 8000 fsH dfsH tabsH (HandSHeadRun.getT s)
theorem obH_eq (s : PySem.W.SharedT) : obH s = (hookB 8000 fsH dfsH tabsH).obs s.abs := obsBG_eq (HandSHeadRun.getT_eq s)
theorem runH_false (w : World) : HandSHeadRun.RunEq RH qH (hookB 8000 fsH dfsH tabsH) obH 9000 namesH (w.withFollow "special-get-raises" false) := by
  intro os
  kernel_rfl
theorem runH_true (w : World) : HandSHeadRun.RunEq RH qH (hookB 8000 fsH dfsH tabsH) obH 9000 namesH (w.withFollow "special-get-raises" true) := by
  intro os
  kernel_rfl
theorem runH (w : World) : HandSHeadRun.RunEq RH qH (hookB 8000 fsH dfsH tabsH) obH 9000 namesH w := PySem.W.byRow2 "special-get-raises" (P := fun w => HandSHeadRun.RunEq RH qH (hookB 8000 fsH dfsH tabsH) obH 9000 namesH w) runH_false runH_true w
end L2.DS
/-! Defs whose body says super().__init__(..): their frame bears a cell of the class. -/
namespace L2.DS
open PySem PySem.Spec PyProof.Rows
/-! ### the frame -/
abbrev envS (qual : Str) (scope : Scope) (L f : Addr) (cd : Value) (cc : Addr) : Env :=
  PySem.W.envX qual scope L f cd (cellsFrom (L + 1) scope.names [("__class__", cc)])
theorem cells_acc : ∀ (names : List (Str × NameKind)) (n : Nat) (acc : List (Str × Addr)), cellsFrom n names acc = cellsFrom n names [] ++ acc
  | [], _, _ => rfl
  | (x, kd) :: r, n, acc => by
    unfold cellsFrom
    split
    · rw [cells_acc r (n + 1) ((x, n) :: acc), cells_acc r (n + 1) [(x, n)], List.append_assoc]
      rfl
    · exact cells_acc r n acc
/-- the scope of such a def: N its names, the parameters ps first -/
structure ScS (N ps : List Str) (sc : Scope) : Prop where
  kind : sc.kind = .function
  co : sc.isCoroutine = false
  gen : sc.isGenerator = false
  nd : N.Nodup
  pre : N.take ps.length = ps
  par : ∀ x ∈ ps, sc.names.lookup x = some .local ∨ sc.names.lookup x = some .cell
  fre : ∀ y ∈ sc.names, y.2 = .free → y.1 = ("__class__" : Str)
  cls : sc.names.lookup ("__class__" : Str) = some .free
  ncl : ∀ y ∈ sc.names, y.2 = .cell → y.1 ≠ ("__class__" : Str)
  sup : sc.names.lookup ("super" : Str) = some .globalImplicit
/-- which names a list of cells made at the entry has -/
theorem own_name : ∀ (names : List (Str × NameKind)) (n : Nat) (acc : List (Str × Addr)) (x : Str) (c : Addr), (x, c) ∈ cellsFrom n names acc → (x, c) ∈ acc ∨ (x, NameKind.cell) ∈ names
  | [], _, _, _, _, h => .inl h
  | (y, kd) :: r, n, acc, x, c, h => by
    unfold cellsFrom at h
    split at h
    · rename_i hk
      rcases own_name r (n + 1) _ x c h with q | q
      · rcases List.mem_cons.mp q with e | q
        · cases e
          refine .inr (List.mem_cons.mpr (.inl ?_))
          rw [show kd = NameKind.cell from beq_iff_eq.mp hk]
        · exact .inl q
      · exact .inr (List.mem_cons_of_mem _ q)
    · rcases own_name r n acc x c h with q | q
      · exact .inl q
      · exact .inr (List.mem_cons_of_mem _ q)
section
variable {M : Model} {A : Around} {E : Value → Shared → Prop} {s₀ s : Shared} {m cm : Str → Option Value} {env : Env} {own : List (Str × Addr)}
theorem put_local {n : Str} {v : Value} {Q : Unit → Shared → Prop} (x : InCallC s₀ env.locals m own cm s) (hk : env.scope.kind = .function) (hl : env.kindOf n = some .local)
    (h : ∀ s', InCallC s₀ env.locals (fun y => if y = n then some v else m y) own cm s' → Q () s') : wpAny M A (storeName env n v) Q E s := by
  refine wpAny_storeName_local hl x.toInCall.ns (fun g ng sg => h _ ⟨⟨?c1, ng, fun b o e => ?c2, x.toInCall.fresh⟩, fun k c hc => ?c3, x.apart, x.above⟩) (by rw [hk]; rfl)
  case c1 =>
    obtain ⟨h1, tk, rfl⟩ := x.toInCall.same
    exact ⟨g, _, rfl⟩
  case c2 =>
    have lt := Nat.lt_of_lt_of_le (Heap.lt_size e) x.toInCall.fresh
    exact sg.extBut b o (Nat.ne_of_lt lt) (x.toInCall.keep b o e)
  case c3 =>
    have gt := x.above k c (PySem.mem_of_lookup hc)
    exact (x.cell k c hc).sameBut sg (Nat.ne_of_gt gt)
theorem put_cell {n : Str} {c : Addr} {v : Value} {Q : Unit → Shared → Prop} (x : InCallC s₀ env.locals m own cm s) (hk : env.scope.kind = .function) (hl : env.kindOf n = some .cell)
    (hc : env.cells.lookup n = some c) (ho : own.lookup n = some c) (h : ∀ s', InCallC s₀ env.locals m own (fun y => if y = n then some v else cm y) s' → Q () s') :
    wpAny M A (storeName env n v) Q E s := by
  have gt := x.above n c (PySem.mem_of_lookup ho)
  refine wpAny_storeName_cell hk hl hc (x.cell n c ho) fun g cg sg => h _ ⟨⟨?c1, x.toInCall.ns.sameBut sg (Nat.ne_of_lt gt), fun b o e => ?c2, x.toInCall.fresh⟩, fun k c' hk' => ?c3, x.apart, x.above⟩
  case c1 =>
    obtain ⟨h1, tk, rfl⟩ := x.toInCall.same
    exact ⟨g, _, rfl⟩
  case c2 =>
    have lt := Nat.lt_of_lt_of_le (Heap.lt_size e) x.toInCall.fresh
    exact sg.extBut b o (Nat.ne_of_lt (Nat.lt_trans lt gt)) (x.toInCall.keep b o e)
  case c3 =>
    by_cases hkn : k = n
    · subst hkn
      rw [ho] at hk'
      cases hk'
      simpa using cg
    · rw [if_neg hkn]
      refine (x.cell k c' hk').sameBut sg fun e => hkn ?_
      have h1 := PySem.mem_of_lookup ho
      rw [← e] at h1
      exact name_of_addr x.apart (PySem.mem_of_lookup hk') h1
theorem put_all (f : Str × Value → PUnit → Sem (ForInStep PUnit)) (hf : ∀ n v u, f (n, v) u = (do storeName env n v; pure (.yield ⟨⟩))) (hk : env.scope.kind = .function)
    (sub : ∀ n c, own.lookup n = some c → env.cells.lookup n = some c) :
    ∀ (bs : List (Str × Value)) (m cm : Str → Option Value) (s : Shared) (Q : PUnit → Shared → Prop), InCallC s₀ env.locals m own cm s →
      (∀ x ∈ bs, env.kindOf x.1 = some .local ∨ (env.kindOf x.1 = some .cell ∧ (own.lookup x.1).isSome = true)) →
      (∀ s', InCallC s₀ env.locals (bindL env.kindOf bs m) own (bindC env.kindOf bs cm) s' → Q ⟨⟩ s') → wpAny M A (forIn bs ⟨⟩ f) Q E s
  | [], m, cm, s, Q, x, _, h => by
    rw [List.forIn_nil]
    exact wpAny_pure (h s x)
  | (n, v) :: r, m, cm, s, Q, x, kd, h => by
    rw [List.forIn_cons, hf]
    have kr := fun y (hy : y ∈ r) => kd y (List.mem_cons_of_mem _ hy)
    unfold bindL bindC at h
    rcases kd (n, v) List.mem_cons_self with hl | ⟨hl, hc⟩
    · rw [if_pos hl, if_pos hl] at h
      exact wpAny_bind (wpAny_bind (put_local x hk hl fun s' x' => wpAny_pure (put_all f hf hk sub r _ _ s' Q x' kr h)))
    · obtain ⟨c, hc⟩ := Option.isSome_iff_exists.mp hc
      have hnl : ¬ env.kindOf n = some .local := fun z => by
        rw [hl] at z
        cases z
      rw [if_neg hnl, if_neg hnl] at h
      exact wpAny_bind (wpAny_bind (put_cell x hk hl (sub n c hc) hc fun s' x' => wpAny_pure (put_all f hf hk sub r _ _ s' Q x' kr h)))
end
section
variable {M : Model} {A : Around} {E : Value → Shared → Prop} {s : Shared}
theorem new_envS {scope : Scope} {binds : List (Str × Value)} {qual : Str} {f cc : Addr} {cd : Value} {Q : Env → Shared → Prop} (hk : scope.kind = .function)
    (kd : ∀ x ∈ binds, scope.names.lookup x.1 = some .local ∨ (scope.names.lookup x.1 = some .cell ∧ ((cellsFrom (s.heap.objs.size + 1) scope.names []).lookup x.1).isSome = true))
    (hQ : ∀ s', InCallC s s.heap.objs.size (bindL (envS qual scope s.heap.objs.size f cd cc).kindOf binds fun _ => none) (cellsFrom (s.heap.objs.size + 1) scope.names [])
      (bindC (envS qual scope s.heap.objs.size f cd cc).kindOf binds fun _ => none) s' → Q (envS qual scope s.heap.objs.size f cd cc) s') :
    wpAny M A (newFunctionEnv scope mainGlobals [("__class__", cc)] binds (qual ++ ".<locals>.") (some f) cd none builtinsNs) Q E s := by
  simp only [newFunctionEnv, Option.isSome_none, Bool.false_eq_true, if_false]
  refine wpAny_bind (wpAny_alloc ?_)
  refine wpAny_bind (wpAny_layCells _ (fun nm kd cells => by cases e : kd == NameKind.cell <;> simp [e]) _ _ _ _ ?_)
  have ok := cellsFrom_ok scope.names (s.heap.push { cls := .type "frame", data := .dict #[] }) (s.heap.objs.size + 1) [] ⟨fun _ _ z => (nomatch z), List.Pairwise.nil⟩ (by rw [Heap.size_push]; exact Nat.le_refl _)
  rw [Heap.size_push] at ok
  rw [show (Shared.heap { s with heap := s.heap.push { cls := .type "frame", data := .dict #[] } }).objs.size = s.heap.objs.size + 1 from Heap.size_push ..]
  refine wpAny_bind (put_all (s₀ := s) (env := envS qual scope s.heap.objs.size f cd cc) (own := cellsFrom (s.heap.objs.size + 1) scope.names []) _ (fun _ _ _ => rfl) hk (fun n c e => ?_) binds (fun _ => none) (fun _ => none) _ _
    ⟨⟨⟨_, _, rfl⟩, (Heap.Ns.new s.heap (.type "frame")).keeps (pushCells_keeps _ _), fun b o e => pushCells_keeps _ _ b o (Heap.get?_push_of_some _ e), Nat.le_refl _⟩, fun n c z => (ok.empty n c (PySem.mem_of_lookup z)).1, ok.apart, fun n c z => (ok.empty n c z).2⟩ kd fun s' x => wpAny_pure (hQ s' x))
  show (cellsFrom (s.heap.objs.size + 1) scope.names [("__class__", cc)]).lookup n = some c
  rw [cells_acc, List.lookup_append, e]
  rfl
end
/-! ### the context -/
def cxS (CX : CXT) (P : Program) (w : World) (K : PySem.W.Frag) (mg : Str → Option Value) (base : Heap) (N : List Str) (qual : Str) (scope : Scope) (f : Addr) (cd : Value) (cc : Addr) (A : Around) (outer : List Env) (s : Shared) (H : Hp) (E : XK) : Cx where
  prog := P
  w := w
  K := K
  mg := mg
  base := base
  A := A.deeper (envS qual scope s.heap.objs.size f cd cc)
  N := N
  s_0 := s
  H_0 := H
  env := envS qual scope s.heap.objs.size f cd cc
  outer := outer
  stack := envS qual scope s.heap.objs.size f cd cc :: outer
  ex := []
  calm := true
  fn := fun x => !(x == ("__class__" : Str))
  pn := []
  xe := fun e s' => wpAny (model P w) (A.deeper (envS qual scope s.heap.objs.size f cd cc)) (leaving (envS qual scope s.heap.objs.size f cd cc) e) (fun _ s2 => CX outer H s E e s2) (fun e' s2 => CX outer H s E e' s2) s'
theorem cell_in {sc : Scope} {n : Nat} {x : Str} (h : sc.names.lookup x = some .cell) : ∃ c, (cellsFrom n sc.names []).lookup x = some c :=
  Option.isSome_iff_exists.mp (PySem.W.cellsFrom_some sc.names n [] (.inl h))
section
variable {CX : CXT} {P : Program} {w : World} {K : PySem.W.Frag} {mg : Str → Option Value} {base : Heap} {N ps : List Str} {qual : Str} {scope : Scope} {f cc D : Addr} {cd : Value} {A : Around} {outer : List Env} {s s1 : Shared} {H : Hp} {E : XK} {us : List Value} {vs : List V}
theorem look_ownS {L : Nat} {x : Str} {c : Addr} (h : (cellsFrom (L + 1) scope.names [("__class__", cc)]).lookup x = some c) (S : ScS N ps scope) :
    ((cellsFrom (L + 1) scope.names []).lookup x = some c ∧ x ≠ ("__class__" : Str)) ∨ (x = ("__class__" : Str) ∧ c = cc) := by
  rw [cells_acc, List.lookup_append] at h
  cases e : (cellsFrom (L + 1) scope.names []).lookup x with
  | some c1 =>
    rw [e] at h
    have h : c1 = c := Option.some.inj h
    subst h
    refine .inl ⟨rfl, ?_⟩
    rcases own_name _ _ _ _ _ (PySem.mem_of_lookup e) with q | q
    · cases q
    · exact S.ncl _ q rfl
  | none =>
    rw [e] at h
    have h : List.lookup x [(("__class__" : Str), cc)] = some c := h
    by_cases hx : x = ("__class__" : Str)
    · subst hx
      refine .inr ⟨rfl, ?_⟩
      have q : List.lookup ("__class__" : Str) [(("__class__" : Str), cc)] = some cc := by simp [List.lookup]
      rw [q] at h
      exact (Option.some.inj h).symm
    · have hb : (x == ("__class__" : Str)) = false := by simpa using hx
      have q : List.lookup x [(("__class__" : Str), cc)] = none := by simp [List.lookup, hb]
      rw [q] at h
      cases h
theorem look_clsS {L : Nat} (S : ScS N ps scope) : (cellsFrom (L + 1) scope.names [("__class__", cc)]).lookup ("__class__" : Str) = some cc := by
  rw [cells_acc, List.lookup_append]
  cases e : (cellsFrom (L + 1) scope.names []).lookup ("__class__" : Str) with
  | none => simp [List.lookup]
  | some c1 =>
    rcases own_name _ _ _ _ _ (PySem.mem_of_lookup e) with q | q
    · cases q
    · exact absurd rfl (S.ncl _ q rfl)
theorem inv_startS (S : ScS N ps scope) (hd : A.handled = none) (e0 : Env0 P w K mg base A outer s H) (hl : vs.length = ps.length) (r : Vals vs us)
    {ccl : Value} {ccd : Option Addr} {csl : Array (Option Value)} (hcc : K.lookup cc = some ⟨ccl, ccd, .cell (some (.ref D)), csl⟩)
    (x : InCallC s s.heap.objs.size (bindL (envS qual scope s.heap.objs.size f cd cc).kindOf (ps.zip us) fun _ => none) (cellsFrom (s.heap.objs.size + 1) scope.names []) (bindC (envS qual scope s.heap.objs.size f cd cc).kindOf (ps.zip us) fun _ => none) s1) :
    Inv (cxS CX P w K mg base N qual scope f cd cc A outer s H E) [] (start N vs) H s1 := by
  have hpl : ps.length ≤ N.length := by
    have z := congrArg List.length S.pre
    rw [List.length_take] at z
    omega
  obtain ⟨h1, tk, rfl, hk⟩ := x.done
  have bcc : base.get? cc = some ⟨ccl, ccd, .cell (some (.ref D)), csl⟩ := e0.mod.kin _ _ hcc
  have scc := (e0.bs _ _ bcc).1
  have Hcc : H cc = none := (e0.bs _ _ bcc).2
  have ltc : cc < s.heap.objs.size := Heap.lt_size scc
  have noA : ∀ b : Addr, b ∉ (cxS CX P w K mg base N qual scope f cd cc A outer s H E).ex := fun b z => absurd (show b ∈ ([] : List Addr) from z) (by simp)
  have abv : ∀ y c, (cellsFrom (s.heap.objs.size + 1) scope.names []).lookup y = some c → s.heap.objs.size < c := fun y c e => x.above y c (PySem.mem_of_lookup e)
  have own2 : ∀ y c, (cxS CX P w K mg base N qual scope f cd cc A outer s H E).env.cells.lookup y = some c → ((cellsFrom (s.heap.objs.size + 1) scope.names []).lookup y = some c ∧ y ≠ ("__class__" : Str)) ∨ (y = ("__class__" : Str) ∧ c = cc) := fun y c e => look_ownS e S
  refine ⟨⟨e0.mod, S.kind, rfl, rfl, Nat.le_refl _, fun y z c a b => ?_, fun y hy => ?_, fun y c hf h => ?_, fun _ => hd, Around.frames_deeper e0.frames, .inr ⟨rfl, rfl⟩, fun b z => absurd z (noA b), e0.bs, e0.bsz, fun b _ _ => noA b, fun b z => absurd z (noA b), e0.funs, e0.frf⟩,
    rfl, e0.bare, Un.kept hk, ⟨_, x.toInCall.ns, fun i y v a b c => ?_⟩, fun y c e => ?_, e0.hok.fresh (Nat.le_refl _), fun y c e => ?_, fun p hp => absurd (show p ∈ ([] : List (Addr × Obj)) from hp) (by simp), e0.hok.kept hk, ?_⟩
  · rcases own2 y c a with ⟨a, _⟩ | ⟨a, a2⟩ <;> rcases own2 z c b with ⟨b, _⟩ | ⟨b, b2⟩
    · exact name_of_addr x.apart (PySem.mem_of_lookup a) (PySem.mem_of_lookup b)
    · have ab := abv y c a
      rw [b2] at ab
      exact absurd (Nat.lt_trans ltc ab) (Nat.lt_irrefl _)
    · have ab := abv z c b
      rw [a2] at ab
      exact absurd (Nat.lt_trans ltc ab) (Nat.lt_irrefl _)
    · rw [a, b]
  · have hy : scope.names.lookup y = some .cell ∨ scope.names.lookup y = some .free := hy
    show ∃ c, (cellsFrom (s.heap.objs.size + 1) scope.names [("__class__", cc)]).lookup y = some c
    rcases hy with hy | hy
    · obtain ⟨c, e⟩ := cell_in (n := s.heap.objs.size + 1) hy
      refine ⟨c, ?_⟩
      rw [cells_acc, List.lookup_append, e]
      rfl
    · have ey := S.fre _ (PySem.mem_of_lookup hy) rfl
      exact ⟨cc, by rw [show y = ("__class__" : Str) from ey]; exact look_clsS S⟩
  · rcases own2 y c h with ⟨a, _⟩ | ⟨a, _⟩
    · exact Nat.le_of_lt (abv y c a)
    · have hf : (!(y == ("__class__" : Str))) = true := hf
      rw [a] at hf
      simp at hf
  · have a : N[i]? = some y := a
    by_cases hi : i < ps.length
    · have hp : ps[i]? = some y := by
        rw [← S.pre, List.getElem?_take_of_lt hi]
        exact a
      have hv : vs[i]? = some v := by
        unfold start at b
        rw [List.getElem?_append_left (by rw [List.length_map]; omega), List.getElem?_map] at b
        cases e : vs[i]? with
        | none =>
          rw [e] at b
          cases b
        | some q =>
          rw [e] at b
          cases b
          rfl
      obtain ⟨u, hu, rv⟩ := r.get hv
      have ndP : ps.Nodup := by
        have q := S.nd.sublist (List.take_sublist ps.length N)
        rw [S.pre] at q
        exact q
      refine ⟨u, rv, ?_⟩
      rcases S.par y (List.mem_of_getElem? hp) with q | q
      · exact .inl ⟨q, bindL_get ndP hp hu q⟩
      · obtain ⟨c, hc⟩ := cell_in (n := s.heap.objs.size + 1) q
        refine .inr ⟨.inl q, c, ?_, ?_⟩
        · show (cellsFrom (s.heap.objs.size + 1) scope.names [("__class__", cc)]).lookup y = some c
          rw [cells_acc, List.lookup_append, hc]
          rfl
        · have z := x.cell y c hc
          rw [bindC_get ndP hp hu (show (envS qual scope s.heap.objs.size f cd cc).kindOf y ≠ some .local from fun k => by
            have k : scope.names.lookup y = some .local := k
            rw [q] at k
            cases k)] at z
          exact z
    · unfold start at b
      rw [List.getElem?_append_right (by rw [List.length_map]; omega), List.getElem?_replicate] at b
      split at b <;> cases b
  · rcases own2 y c e with ⟨a, _⟩ | ⟨_, a⟩
    · exact ⟨_, x.cell y c a⟩
    · rw [a]
      exact ⟨_, _, hk _ _ scc, rfl⟩
  · rcases own2 y c e with ⟨a, _⟩ | ⟨_, a⟩
    · exact e0.hok.fresh (Nat.le_of_lt (abv y c a))
    · rw [a]
      exact Hcc
  · unfold start
    show _ = N.length
    rw [List.length_append, List.length_map, List.length_replicate]
    omega
end
/-! ### a body in its own activation -/
structure PSA (X : Cx) (body sts : List Stmt) (t : TS) : Prop where
  run : ∀ (pins : List (Addr × Obj)) (s : Shared) (σ : L2.St) (H : Hp) (D : Ends), Inv X pins σ H s → t D σ H → PySem.wpAt (model X.prog X.w) X.A (.func body X.env) (execs sts X.env) (SP X pins D) X.xe s
/-- what super() asks of the running def, of a class D: its cell, its code, its first parameter ar -/
structure SupAt (X : Cx) (D : Addr) (ar : Str) : Prop where
  kc : X.env.kindOf ("__class__" : Str) = some .free
  ks : X.env.kindOf ("super" : Str) = some .globalImplicit
  fn : ∃ f of fd a, X.env.func = some f ∧ X.K.lookup f = some of ∧ of.data = .func fd ∧ (fd.params.posonlyargs ++ fd.params.args).head? = some a ∧ a.arg = ar
  code : ∃ cda oc vs file tf, X.env.code = .ref cda ∧ X.K.lookup cda = some oc ∧ oc.data = .fields vs ∧ vs[2]? = some (.str file tf) ∧ ((X.prog.main.file : Str) == file) = true
  top : (X.prog.main.scope.names.lookup ("super" : Str)).isSome = false
  cell : ∃ cc oc, X.env.cells.lookup ("__class__" : Str) = some cc ∧ X.K.lookup cc = some oc ∧ oc.data = .cell (some (.ref D))
  cls : ∃ oD cd, X.K.lookup D = some oD ∧ oD.data = .cls cd
  mg : X.mg "super" = none
  opq : PySem.W.nsIn X.K cStatics "thirdparty.any" = some none
end L2.DS
/-! Own exceptions whose __init__ says super().__init__('text'); self.f = f. -/
namespace L2.DS
open PySem PySem.Spec PyProof.Rows
abbrev xBody (nm txt : Str) (j : Nat) (a b c d e f g h i k : Pos) : List Stmt :=
  [.Expr (.Call (.Attribute (.Call (.Name "super" a) [] [] b) "__init__" c) [.Constant (.str txt) j d] [] e) f, .Assign [.Attribute (.Name "self" g) nm h] (.Name nm i) k]
/-- super().__init__('text') is evaluated as a method's call -/
def xPlain (txt : Str) (j : Nat) (a b c d e : Pos) (env : Env) : Prop := eval (.Call (.Attribute (.Call (.Name "super" a) [] [] b) "__init__" c) [.Constant (.str txt) j d] [] e) env = (do
  let ov ← attributeBase (.Call (.Name "super" a) [] [] b) "__init__" env (eval (.Call (.Name "super" a) [] [] b) env)
  standAt c.atName
  let (f, first) ← holding [ov] (getMethod ov "__init__" (do return (← importBound (.Call (.Name "super" a) [] [] b) env).getD true))
  callWith e f first (backTo e (starEach [.Constant (.str txt) j d] env)) [])
abbrev eTail (B : String) : List Value := [.type B, .type "Exception", .type "BaseException", .type "object"]
/-- the built-in bases -/
structure EB (B newId initId : String) : Prop where
  F : ExcBaseFacts B newId initId (eTail B)
  S : StoreFacts B (eTail B) "object.__setattr__" "object"
  X : PySem.W.KxsFacts B initId
theorem ebV : EB "ValueError" "ValueError.__new__" "ValueError.__init__" := ⟨F.excBase_ValueError, F.store_ValueError, PySem.W.kxs_ValueError⟩
/-- an own class of error, as the top has made it -/
structure ExC (K : PySem.W.Frag) (C : Addr) (B newId : String) : Prop where
  ini : PySem.W.excInitIn K C (eTail B) newId = true
  ovr : PySem.W.excOver K C (eTail B) = true
  hdc : PySem.W.hasDictIn K C = true
  sa : PySem.W.findIn K (.ref C) "__setattr__" = some (some (.builtin "object.__setattr__"))
  exC : PySem.W.subIn K (.ref C) (.type "BaseException") = some true
  subB : PySem.W.subIn K (.ref C) (.type B) = some true
  tyC : PySem.W.typeIn K (.ref C) = some (.type "type")
  kC : PySem.W.keepIn K (.ref C) = true
/-- .. with such an __init__ at fI, of the field nm -/
structure ExI (prog : Program) (K : PySem.W.Frag) (mg : Str → Option Value) (C fI : Addr) (nm : Str) (B newId initId : String) : Prop where
  cls : ExC K C B newId
  iC : PySem.W.findIn K (.ref C) "__init__" = some (some (.ref fI))
  tI : PySem.W.typeIn K (.ref fI) = some (.type "function")
  noN : PySem.W.findIn K (.ref C) nm = some none
  supI : PySem.W.ks_superIn K C C "__init__" = some (some (.builtin initId))
  mroC : PySem.W.mroIn K C (.ref C) = some true
  mgS : mg "super" = none
  opq : PySem.W.nsIn K cStatics "thirdparty.any" = some none
  top : (prog.main.scope.names.lookup ("super" : Str)).isSome = false
  fn : ∃ (st : Stmt) (qual : Str) (oc : Value) (od : Option Addr) (doc pm : Value) (an : Option Addr) (cda : Addr) (ct : Value) (osl : Array (Option Value)) (cc : Addr) (ol : Obj) (vs : Array Value) (file : Str) (tf : Tok) (oc2 : Obj),
    K.lookup fI = some ⟨oc, od, .func (PySem.W.fnX "__init__" qual (defArgs st) (defBody st) (defScope st) [("__class__", cc)] .none .none doc pm an (.ref cda) ct), osl⟩ ∧ PySem.W.codeIn K (.ref cda) qual = true ∧
    K.lookup cda = some ol ∧ ol.data = .fields vs ∧ vs[2]? = some (.str file tf) ∧ ((prog.main.file : Str) == file) = true ∧ K.lookup cc = some oc2 ∧ oc2.data = .cell (some (.ref C)) ∧
    (∃ txt j a b c d e f g h i k, defBody st = xBody nm txt j a b c d e f g h i k ∧ (∀ env, xPlain txt j a b c d e env) ∧ (∀ env l, swapsWith (.Call (.Attribute (.Call (.Name "super" a) [] [] b) "__init__" c) [.Constant (.str txt) j d] [] e) none l env = pure false) ∧
      ∀ env l, swapsWith (.Name nm i) (some (.Attribute (.Name "self" g) nm h)) l env = pure false) ∧
    ((defScope st).kind = .function ∧ (defScope st).isCoroutine = false ∧ (defScope st).isGenerator = false ∧ (∀ x ∈ (defScope st).names, x.2 ≠ NameKind.cell)) ∧
    ((defScope st).names.lookup ("self" : Str) = some .local ∧ (defScope st).names.lookup nm = some .local ∧ (defScope st).names.lookup ("__class__" : Str) = some .free ∧ (defScope st).names.lookup ("super" : Str) = some .globalImplicit) ∧
    (∃ a, ((defArgs st).posonlyargs ++ (defArgs st).args).head? = some a ∧ a.arg = ("self" : Str)) ∧ nm ≠ ("self" : Str) ∧ (nm == ("__debug__" : Str)) = false ∧
    (∀ (fd : FuncData) (s : Shared) (x v : Value), fd.params = defArgs st → fd.scope = defScope st → fd.defaults = .none → fd.kwdefaults = .none → BindsTo s fd ⟨[x, v], []⟩ [("self", x), (nm, v)])
/-- what __init__ leaves of a fresh error at x -/
structure ExEnd (h h' : Heap) (x C dx t1 : Addr) (nm : Str) (v : Value) : Prop where
  keep : ∀ b o, b ≠ x → h.get? b = some o → h'.get? b = some o
  obj : h'.get? x = some { cls := .ref C, dict := some dx, data := .fields #[.ref t1, .none, .none, .none, .bool false, .none] }
  dbig : h.objs.size ≤ dx
  dne : dx ≠ x
  ns : h'.Ns1 dx (fun y => if y = nm then some v else none)
section
variable {prog : Program} {w : World} {A : Around} {E : Value → Shared → Prop} {R : Result → Shared → Prop} {K : PySem.W.Frag} {mg : Str → Option Value} {C fI : Addr} {nm : Str} {B newId initId : String}
/-- self.f = v on an error without a dict -/
theorem ex_set {hp : Heap} {g : Array GenState} {d : Drawn} {t : Nat} {os : OsState} {name : Str} {tk : Tok} {v : Value} {x : Addr} {fv : Array Value} (b : EB B newId initId) (T : ExC K C B newId) (X : K.In hp) (hx : hp.get? x = some { cls := .ref C, data := .fields fv })
    (ha : PySem.W.findIn K (.ref C) name = some none)
    (hq : ∀ h' tk' dx, (∀ b o, b ≠ x → hp.get? b = some o → h'.get? b = some o) → hp.objs.size ≤ dx → dx ≠ x → h'.get? x = some { cls := .ref C, dict := some dx, data := .fields fv } →
      h'.Ns1 dx (fun y => if y = name then some v else none) → R (.ok (.ret .none)) ⟨h', g, d, tk', os⟩) :
    codeAny (model prog w) A (.call (.builtin "object.__setattr__") ⟨[.ref x, .str name tk, v], []⟩) R ⟨hp, g, d, t, os⟩ := by
  refine PySem.W.osa_openX (od := none) (r := none) b.S X ⟨hx, rfl, rfl, trivial⟩ T.ovr (by unfold PySem.W.takerIn; rw [ha]; rfl) fun bb => ?_
  obtain ⟨cd, hcd, hh⟩ := PySem.W.any_some T.hdc
  have hcls : PySem.W.Looks (model prog w) hp (classData C) cd := PySem.W.looks_clsIn X hcd
  have nx : x ≠ hp.objs.size := Nat.ne_of_lt (Heap.lt_size hx)
  obtain ⟨nm, bs, mro, ns, qn, hd, sn, sb, ab, col, del⟩ := cd
  dsimp only at hh
  subst hh
  dsimp only
  unfold Builtin.ObjectAttr.storeInOwnDict Builtin.ObjectAttr.ownDictForStores
  repeat (first | (with_reducible refine PySem.HandSPX.store_in_new ?_ ?_) | (with_reducible refine wpAny_loadPart_at hx ?_) | (with_reducible refine hcls.at ?_) | wp_step)
  · refine ⟨_, #[], _, (Heap.get?_update_ne _ _ _ _ nx.symm).trans (Heap.get?_push_at rfl rfl), rfl, fun e he => absurd he (by simp), fun _ => rfl⟩
  · intro h1 tk1 hn1 sb1
    have hx1 : (hp.push { cls := .type "dict", data := .dict #[] }).get? x = some { cls := .ref C, data := .fields fv } := Heap.get?_push_of_some _ hx
    refine hq h1 tk1 hp.objs.size (fun b o hb ho => (sb1.2 b (Nat.ne_of_lt (Heap.lt_size ho))).trans ?_) (Nat.le_refl _) nx.symm ((sb1.2 x nx).trans (Heap.get?_update_self _ hx1 rfl)) hn1
    exact (Heap.get?_update_ne _ _ _ _ hb).trans (Heap.get?_push_of_some _ ho)
theorem find_none {K : PySem.W.Frag} {h : Heap} {x : Addr} (X : K.In h) (hx : h.get? x = none) : K.lookup x = none := by
  cases e : K.lookup x with
  | none => rfl
  | some o =>
    have z := X _ _ e
    rw [hx] at z
    cases z
/-- the __init__ on a fresh error at x -/
theorem exi_init {s : Shared} {x t0 : Addr} {v : Value} {mb : Str → Option Value} (b : EB B newId initId) (T : ExI prog K mg C fI nm B newId initId) (X : K.In s.heap) (hlim : s.heap.NoLimit) (G : s.heap.Ns mainGlobals mg)
    (Bl : s.heap.Ns builtinsNs mb) (hB : ∀ y : Str, y ≠ "__name__" → mb y = bootBuiltins y) (hx : s.heap.get? x = some (PySem.HandSPX.excO C t0)) (hnx : K.lookup x = none) (hroom : A.depth < recursionLimit)
    (hq : ∀ h' tk dx t1, ExEnd s.heap h' x C dx t1 nm v → R (.ok (.ret .none)) { s with heap := h', toks := tk }) :
    codeAny (model prog w) A (.call (.ref fI) ⟨[.ref x, v], []⟩) R s := by
  obtain ⟨st, qual, oc, od, doc, pm, an, cda, ct, osl, cc, ol, vs, file, tf, oc2, l1, l2, l3, l4, l5, l6, l7, l8, ⟨txt, j, p1, p2, p3, p4, p5, p6, p7, p8, p9, p10, hbody, hpl, hsw1, hsw2⟩, ⟨k1, k2, k3, k4⟩, ⟨n1, n2, n3, n4⟩, ⟨ar, a1, a2⟩, ne1, ne2, hbind⟩ := T.fn
  obtain ⟨nmC, N', qn, bs, bm, hdct, sn, sub, ab, col, dd, q0, q1, q2, q3, q5, hC, hT⟩ := PySem.W.excInit_of X T.cls.ini
  refine ks_codeAny_call_defAt (body := defBody st) (binds := [("self", .ref x), (nm, v)]) hroom (X _ _ l1) rfl hlim (PySem.W.codeRec_of X l2) rfl (hbind _ _ _ _ rfl rfl rfl rfl) k4 (fun y hy => ?_) (fun h1 hns hk1 => ?_) k2 k3 k1
  · rcases List.mem_cons.mp hy with e | hy
    · rw [e]
      exact n1
    · rw [List.mem_singleton.mp hy]
      exact n2
  rw [hbody]
  have X1 : K.In h1 := X.keeps hk1
  have hself : List.lookup ("self" : Str) [(nm, v), (("self" : Str), Value.ref x)] = some (.ref x) := by
    have z : (("self" : Str) == nm) = false := by simpa using Ne.symm ne1
    simp [List.lookup, z]
  have hname : List.lookup nm [(nm, v), (("self" : Str), Value.ref x)] = some v := by simp [List.lookup]
  have hx1 := hk1 _ _ hx
  have IA : PySem.W.InstAt h1 x (PySem.HandSPX.excO C t0) C none := ⟨hx1, rfl, rfl, trivial⟩
  refine ks_wpAt_execs_cons (ks_wpAt_Expr_any (ks_wpAt_MethodCall ?_ (hpl _)) (by simp [interactive, callEnv, newEnv, k1]) (hsw1 _ _))
  refine ks_wpAt_super_base (f := fI) n4 n3 (by decide) rfl (X1 _ _ l1) rfl a1 rfl (X1 _ _ l3) l4 l5 l6 T.top ?_
  refine PySem.W.ks_loadName_global k1 n4 (Calls.loadGlobal_builtin (mg := mg) (mb := mb) (G.keeps hk1) T.mgS (Bl.keeps hk1) ((hB _ (by decide)).trans (by decide +kernel)) ⟨rfl, ?_⟩)
  refine wpAny_loadName_free (c := cc) k1 n3 (by simp [callEnv, newEnv, List.lookup]) ⟨oc2, X1 _ _ l7, l8⟩ ?_
  rw [a2]
  refine wpAny_loadName_local k1 n1 hns hself ?_
  refine ks_wpAny_isType_cls (hk1 _ _ hC) rfl ⟨rfl, ?_⟩
  refine ks_wpAny_call_super (hk1 _ _ hC) rfl hx1 rfl (fun c z => by cases z) (PySem.W.looks_mroIn X1 T.mroC) fun h2 e2 kk2 => ?_
  have X2 : K.In h2 := X1.keeps kk2
  have hx2 := kk2 _ _ hx1
  have hxC : x ≠ C := fun z => by
    rw [z] at hx
    rw [hC] at hx
    cases hx
  have hIB : PySem.W.Looks (model prog w) h2 (isInstance (.ref x) (.type B)) true :=
    (show PySem.W.InstAt h2 x (PySem.HandSPX.excO C t0) C none from ⟨hx2, rfl, rfl, trivial⟩).type.andThen (PySem.W.looks_subIn X2 T.cls.subB)
  cases hcl : PySem.W.clsIn K C with
  | none =>
    have z := T.supI
    unfold PySem.W.ks_superIn at z
    rw [hcl] at z
    cases z
  | some cd =>
    have hal : PySem.W.alongIn K "__init__" ((cd.mro.dropWhile (· != .ref C)).drop 1) = some (some (.builtin initId)) := by
      have z := T.supI
      unfold PySem.W.ks_superIn at z
      rw [hcl] at z
      exact z
    refine PySem.W.kxs_getMethod b.X e2 (PySem.W.looks_opaque X2 T.opq) (l₀ := cd.mro) (fun A' Q' E' s' kk qq => wpAny_bind ((PySem.W.looks_clsIn X2 hcl) A' _ E' s' kk (wpAny_pure qq))) rfl X2 hal hIB hxC (by decide) ?_
    -- the method-wrapper at h2.objs.size is called with the text
    have hmw : (h2.push (PySem.W.kxs_mw initId x)).get? h2.objs.size = some (PySem.W.kxs_mw initId x) := Heap.get?_push_size h2 rfl
    have k3' : ∀ b' o, h2.get? b' = some o → (h2.push (PySem.W.kxs_mw initId x)).get? b' = some o := fun b' o e => Heap.get?_push_of_some _ e
    have hx3 := k3' _ _ hx2
    refine PySem.W.kxs_callWith (i := initId) (x := x) rfl (Calls.evalArgs_plain (Calls.spliced_cons (Calls.Constant_str (k := j) (pos := p4) (Calls.spliced_nil ⟨hmw, ?_⟩))))
    refine wpAny_call (codeAny_of_tree ?_)
    show wpAny _ _ (callAny (.ref h2.objs.size) _) _ _ _
    simp only [callAny]
    refine wpAny_bind (wpAny_load hmw ?_)
    simp only [PySem.W.kxs_mw, show (Value.type "method-wrapper" == Value.type "method" || Value.type "method-wrapper" == Value.type "builtin_function_or_method" || Value.type "method-wrapper" == Value.type "method-wrapper") = true by decide, if_true]
    refine PySem.W.KFB.if_so (by decide) ?_
    refine wpAny_bind (PySem.W.check_bound_init b.F.toExcCallFacts (k3' _ _ (kk2 _ _ (hk1 _ _ hC))) hx3 rfl ?_)
    refine wpAny_bind (wpAny_pure (wpAny_pure ?_))
    refine ⟨plainId_quiet b.F.init.plain _, codeAny_builtin b.F.initEntry ?_⟩
    refine PySem.W.exc_init_tree (cls := .ref C) (t0 := t0) (dv := none) (c2 := .none) (c3 := .none) (b4 := .bool false) hx3 (by show 1 ≤ sizeLine; rw [sizeLine_eq]; decide) fun h4 kk4 hx4 ht4 => ?_
    show PySem.wpAt _ _ _ (execs _ _) _ _ _
    refine wpAt_of_wpAny ?_
    have X4 : K.In h4 := fun a o e => kk4 a o (fun z => by rw [z, hnx] at e; cases e) (k3' _ _ (X2 a o e))
    have nxL : s.heap.objs.size ≠ x := Nat.ne_of_gt (Heap.lt_size hx)
    obtain ⟨oL, es, ep, hL1, hL2⟩ := hns
    have hns4 : h4.Ns s.heap.objs.size (fun y => List.lookup y [(nm, v), (("self" : Str), Value.ref x)]) := ⟨oL, es, ep, kk4 _ _ nxL (k3' _ _ (kk2 _ _ hL1)), hL2⟩
    refine wpAny_execs_cons (plainObj_wpAny_Assign_Attribute ?_ (hsw2 _ _))
    refine wpAny_Name (wpAny_loadName_local k1 n2 hns4 hname ?_) ne2
    refine wpAny_Name (wpAny_loadName_local k1 n1 hns4 hself ?_) (by decide)
    refine PySem.W.set_plain X4 (od := none) ⟨hx4, rfl, rfl, trivial⟩ T.cls.sa ?_
    refine ex_set b T.cls X4 hx4 T.noN fun h5 tk5 dx k5 big ne hx5 hn5 => ?_
    refine wpAny_execs_nil (hq h5 _ dx _ ⟨fun y o hy e => k5 y o hy (kk4 y o hy (k3' _ _ (kk2 _ _ (hk1 _ _ e)))), hx5, ?_, ne, hn5⟩)
    have big2 : h2.objs.size < h4.objs.size := Heap.lt_size (kk4 _ _ (fun z => ?_) hmw)
    · have z1 : s.heap.objs.size < h1.objs.size := Heap.lt_size hL1
      have z2 : s.heap.objs.size < h2.objs.size := Heap.lt_size (kk2 _ _ hL1)
      exact Nat.le_of_lt (Nat.lt_of_lt_of_le (Nat.lt_trans z2 big2) big)
    · have y := Heap.lt_size hx2
      rw [z] at y
      exact absurd y (Nat.lt_irrefl _)
end
/-! ### C(e) -/
theorem relO_one {v : V} {v' : Value} (r : RelV v v') (nm f : Str) : RelO (List.lookup f [(nm, v)]) (if f = nm then some v' else none) := by
  by_cases hw : f = nm
  · subst hw
    rw [if_pos rfl, show List.lookup f [(f, v)] = some v by simp [List.lookup]]
    exact r
  · rw [if_neg hw, show List.lookup f [(nm, v)] = none by simp [List.lookup, show (f == nm) = false by simpa using hw]]
    trivial
/-- a made error -/
structure ExMade (h h' : Heap) (e C d : Addr) (nm : Str) (v : Value) : Prop where
  keep : ∀ b o, h.get? b = some o → h'.get? b = some o
  new : h.objs.size ≤ e
  obj : ∃ t1, h'.get? e = some { cls := .ref C, dict := some d, data := .fields #[.ref t1, .none, .none, .none, .bool false, .none] }
  dbig : h.objs.size ≤ d
  dne : d ≠ e
  ns : h'.Ns1 d (fun y => if y = nm then some v else none)
section
variable {prog : Program} {w : World} {A : Around} {R : Result → Shared → Prop} {K : PySem.W.Frag} {mg : Str → Option Value} {C fI : Addr} {nm : Str} {B newId initId : String}
theorem exi_made {s : Shared} {v : Value} {mb : Str → Option Value} (b : EB B newId initId) (T : ExI prog K mg C fI nm B newId initId) (X : K.In s.heap) (hlim : s.heap.NoLimit) (G : s.heap.Ns mainGlobals mg)
    (Bl : s.heap.Ns builtinsNs mb) (hB : ∀ y : Str, y ≠ "__name__" → mb y = bootBuiltins y) (hroom : A.depth + 1 < recursionLimit)
    (hq : ∀ h' tk e d, ExMade s.heap h' e C d nm v → R (.ok (.ret (.ref e))) { s with heap := h', toks := tk }) : codeAny (model prog w) A (.call (.ref C) ⟨[v], []⟩) R s := by
  obtain ⟨nmC, N', qn, bs, bm, hdct, sn, sub, ab, col, dd, q0, q1, q2, q3, q5, hC, hT⟩ := PySem.W.excInit_of X T.cls.ini
  obtain ⟨hp, g, dr, tk, os⟩ := s
  have k : ∀ b' o, hp.get? b' = some o → ((hp.push (PySem.W.kdv_tup [v])).push (PySem.HandSPX.excO C hp.objs.size)).get? b' = some o := fun b' o e => Heap.get?_push_of_some _ (Heap.get?_push_of_some _ e)
  have hget : ((hp.push (PySem.W.kdv_tup [v])).push (PySem.HandSPX.excO C hp.objs.size)).get? (hp.objs.size + 1) = some (PySem.HandSPX.excO C hp.objs.size) := by heap_get
  have hnx : K.lookup (hp.objs.size + 1) = none := find_none X (Heap.get?_none_of_le (Nat.le_succ _))
  refine PySem.HandSPX.call_own b.F hT hC (PySem.W.looks_findIn X T.iC) (fun self => PySem.W.bind_fn X self T.tI) (by show 1 ≤ sizeLine; rw [sizeLine_eq]; decide) ?_
  refine exi_init (s := ⟨(hp.push (PySem.W.kdv_tup [v])).push (PySem.HandSPX.excO C hp.objs.size), g, dr, tk, os⟩) b T (X.keeps k) (hlim.keeps k) (G.keeps k) (Bl.keeps k) hB hget hnx ?_ fun h' tk' dx t1 M => ?_
  · show A.depth + 1 < recursionLimit
    exact hroom
  · have z : hp.objs.size + 1 + 1 ≤ dx := by
      have q := M.dbig
      rw [Heap.size_push, Heap.size_push] at q
      exact q
    refine ⟨rfl, hq h' tk' (hp.objs.size + 1) dx ⟨fun b' o e => M.keep b' o (Nat.ne_of_lt (Nat.lt_succ_of_lt (Heap.lt_size e))) (k b' o e), Nat.le_succ _, ⟨t1, M.obj⟩, Nat.le_trans (Nat.le_trans (Nat.le_succ _) (Nat.le_succ _)) z, M.dne, M.ns⟩⟩
end
section
variable {X : Cx} {C fI : Addr} {nm : Str} {B newId initId : String}
/-- C(e), C an own error with a field -/
def tMkX (C : Addr) (nm : Str) (ta : TA) : L2.St → Hp → XK → Prop := fun σ H Q => ta σ H fun vs H1 => ∃ v, vs = [v] ∧ ∀ d, H1 d = none → Q (.ref C) (some d) (upd H1 d (.xd [(nm, v)]))
theorem pmk_exi {x : Str} {a : Expr} {ta : TA} {p pos : Pos} {k : Nat} (b : EB B newId initId) (T : ExI X.prog X.K X.mg C fI nm B newId initId) (hm : X.mg x = some (.ref C)) (hr : Room k X.A) (ha : PA X [a] ta) (hg : Gl X x := by rfl)
    (hdb : (x == ("__debug__" : Str)) = false := by decide) (he : starEach (a :: []) X.env = (false, eval a X.env) :: starEach [] X.env := by rfl) (hpl : (backTo pos (starEach [] X.env)).any (·.1) = false := by rfl) :
    PMk X (.Call (.Name x p) [a] [] pos) (tMkX C nm ta) := by
  intro pins s σ H Q I h
  refine wpAny_Call_Name_kw (ld_glob I hg hm ?_ hdb)
  refine PySem.W.callWith_K (h₀ := X.base) I.ok.mod.kin T.cls.kC (thn (ha.run pos pins s σ H _ I h) fun us s1 hh => ?_) he hpl
  obtain ⟨vs, H1, I1, r1, v, ev, q1⟩ := hh
  subst ev
  refine ⟨I1.kIn, ?_⟩
  cases r1 with
  | cons rv rn =>
    rename_i v' us'
    cases rn
    show wpAny _ _ (call (.ref C) [v']) _ _ _
    obtain ⟨mb, b1, b2⟩ := I1.mod.blt
    have bk := I1.bk
    have hlim := I1.nolimit
    have hk := I1.kIn
    have gg := I1.mod.glob.keeps bk
    have bb := b1.keeps bk
    obtain ⟨hp, g, dr, tk, os⟩ := s1
    refine wpAny_call (exi_made b T hk hlim gg bb b2 (by have := hr.dp; omega) fun h' tk' e d M => ?_)
    show MkP X pins σ Q (.ref e) ⟨h', g, dr, tk', os⟩
    obtain ⟨t1, hoe⟩ := M.obj
    have hns := M.ns
    obtain ⟨G', g1, g2⟩ := restrict h' fun y => decide (y ≠ e)
    have gk : ∀ y, y ≠ e → G'.get? y = h'.get? y := fun y hb => g1 y (decide_eq_true hb)
    have ge : G'.get? e = none := g2 e (by simp)
    have old : ∀ y o, hp.get? y = some o → G'.get? y = some o := fun y o q => (gk y (Nat.ne_of_lt (Nat.lt_of_lt_of_le (Heap.lt_size q) M.new))).trans (M.keep y o q)
    have ob : ObjOk X.prog X.w (upd H1 d (.xd [(nm, v)])) G' d (.xd [(nm, v)]) := ⟨_, hns.at (fun o q => (gk d M.dne).trans q), fun f => relO_one rv nm f⟩
    have J : Inv X pins σ (upd H1 d (.xd [(nm, v)])) ⟨G', g, dr, tk', os⟩ := I1.laid (t' := tk') old M.dbig ob
    refine ⟨e, _, _, ⟨G', g, dr, tk', os⟩, _, .ref C, some d, rfl, J, fun y o q => ?_, ge, hoe, ⟨rfl, rfl⟩, rfl, rfl, ?_, rfl, I1.bare, raises_own T.cls.exC T.cls.tyC, q1 d (I1.hok.fresh M.dbig)⟩
    · by_cases hb : y = e
      · have q' : G'.get? y = some o := q
        rw [hb, ge] at q'
        cases q'
      · exact (gk y hb).symm.trans q
    · rw [upd_ne (Ne.symm M.dne)]
      exact I1.hok.fresh M.new
/-- raise C(e) -/
def tRaiseX (C : Addr) (nm : Str) (W : WX) (ta : TA) : TS := fun _ σ H => tMkX C nm ta σ H fun cls d H' => W cls d σ H'
theorem ps_raiseX {x : Str} {a : Expr} {ta : TA} {W : WX} {p pos pos2 : Pos} {k : Nat} (hc : X.calm = true) (b : EB B newId initId) (T : ExI X.prog X.K X.mg C fI nm B newId initId) (hm : X.mg x = some (.ref C)) (hr : Room k X.A) (tk : Takes X W) (ha : PA X [a] ta) (hg : Gl X x := by rfl)
    (hdb : (x == ("__debug__" : Str)) = false := by decide) (he : starEach (a :: []) X.env = (false, eval a X.env) :: starEach [] X.env := by rfl) (hpl : (backTo pos (starEach [] X.env)).any (·.1) = false := by rfl) :
    PS X (.Raise (some (.Call (.Name x p) [a] [] pos)) none pos2) (tRaiseX C nm W ta) := ps_raise hc tk (pmk_exi b T hm hr ha hg hdb he hpl)
end
/-! ### n.f, n the error that an except suite holds -/
/-- what reading a field of such an error asks of its class -/
structure ExG (K : PySem.W.Frag) (C : Addr) (nm : Str) : Prop where
  ga : PySem.W.findIn K (.ref C) "__getattribute__" = some (some (.builtin "BaseException.__getattribute__"))
  gg : PySem.W.findIn K (.ref C) "__getattr__" = some none
  exC : PySem.W.subIn K (.ref C) (.type "BaseException") = some true
  hdC : PySem.W.hasDictIn K C = true
  noN : PySem.W.findIn K (.ref C) nm = some none
section
variable {X : Cx} {C : Addr} {nm : Str}
def tFldX (C : Addr) (nm : Str) (a : Addr) (cls : Value) (d : Option Addr) (te : TE) : TE := fun σ H Q => te σ H fun x H1 => x = .ref a ∧ cls = .ref C ∧ ∃ (dd : Addr) (v : V), d = some dd ∧ H1 dd = some (.xd [(nm, v)]) ∧ Q v H1
theorem pe_fldX {a : Addr} {oe : Obj} {cls : Value} {d : Option Addr} {pn : List (Addr × Obj)} {e : Expr} {te : TE} {pos : Pos} (T : ExG X.K C nm) (hz : Zc cls d oe) (hf : ∃ vs, oe.data = .fields vs) (he : PE (X.suite a ((a, oe) :: pn)) e te)
    (hb : attributeBase e nm X.env (eval e X.env) = eval e X.env := by rfl) : PE (X.suite a ((a, oe) :: pn)) (.Attribute e nm pos) (tFldX C nm a cls d te) := by
  refine ⟨fun pins s σ H Q I h => ?_⟩
  refine attr_of hb (thn (he.run pins s σ H _ I h) fun u s1 hh => ?_)
  obtain ⟨x, H1, I1, rx, ex, ec, dd, v, ed, ea, q⟩ := hh
  subst ex
  obtain rfl : u = Value.ref a := rx
  subst ec
  subst ed
  obtain ⟨ha, _⟩ := I1.pin (a, oe) (List.mem_append_left _ List.mem_cons_self)
  obtain ⟨vs, hd⟩ := hf
  have hx : ObjOk X.prog X.w H1 s1.heap dd (.xd [(nm, v)]) := I1.hok dd _ ea
  obtain ⟨mA, hns, hr⟩ := hx
  obtain ⟨od, ho, hl⟩ := lookIn_ns hns
  have l : List.lookup nm [(nm, v)] = some v := by simp [List.lookup]
  obtain ⟨u, hu, ru⟩ := RelO.some_of (v := v) (o := mA nm) (by rw [← l]; exact hr nm)
  have J : PySem.W.InstAt s1.heap a oe C (some od) := ⟨ha, hz.1, by unfold PySem.W.notCls; rw [hd] <;> rfl, by rw [hz.2]; exact ho⟩
  exact HandSPX.exc_get I1.kIn J T.ga T.gg T.exC (PySem.W.findObj_own T.hdC T.noN rfl (by rw [hl, hu])) (handed_of ru) ⟨v, H1, I1.tok _, ru, q⟩
end
end L2.DS
/-! The rule for a def that says super().__init__. -/
namespace L2.DS
open PySem PySem.Spec PyProof.Rows
structure FunS (prog : Program) (K : PySem.W.Frag) (x qual : Str) (st : Stmt) (f : Addr) (fd : FuncData) (D : Addr) : Prop where
  ex : ∃ (oc : Value) (od : Option Addr) (dV kV doc pm : Value) (an : Option Addr) (cda : Addr) (ct : Value) (osl : Array (Option Value)) (cc : Addr) (ol : Obj) (vs : Array Value) (file : Str) (tf : Tok) (ccl : Value) (ccd : Option Addr) (csl : Array (Option Value)),
    fd = PySem.W.fnX x qual (defArgs st) (defBody st) (defScope st) [("__class__", cc)] dV kV doc pm an (.ref cda) ct ∧ K.lookup f = some ⟨oc, od, .func fd, osl⟩ ∧ PySem.W.codeIn K (.ref cda) qual = true ∧
    K.lookup cda = some ol ∧ ol.data = .fields vs ∧ vs[2]? = some (.str file tf) ∧ ((prog.main.file : Str) == file) = true ∧ K.lookup cc = some ⟨ccl, ccd, .cell (some (.ref D)), csl⟩
  cls : ∃ oD cd, K.lookup D = some oD ∧ oD.data = .cls cd
  kp : PySem.W.keepIn K (.ref f) = true
  fi : PySem.W.fnIn K f = true
  ty : PySem.W.typeIn K (.ref f) = some (.type "function")
section
variable {P : Program} {w : World} {K : PySem.W.Frag} {mg : Str → Option Value} {base : Heap}
theorem FunS.okX {x qual : Str} {st : Stmt} {f D : Addr} {fd : FuncData} {N ps : List Str} {k : Nat} {sp : Sp} {ar : Str} {a : Arg} (F : FunS P K x qual st f fd D) (S : ScS N ps (defScope st)) (hmg : mg "super" = none)
    (opq : PySem.W.nsIn K cStatics "thirdparty.any" = some none) (top : (P.main.scope.names.lookup ("super" : Str)).isSome = false) (har : ((defArgs st).posonlyargs ++ (defArgs st).args).head? = some a) (har2 : a.arg = ar)
    (len : ∀ vs H Q E, sp vs H Q E → vs.length = ps.length)
    (hbody : ∀ (cdv : Value) (cc : Addr) (A : Around) (outer : List Env) (s : Shared) (H : Hp) (vs : List V) (Q : VK) (E : XK), Room k (A.deeper (envS qual (defScope st) s.heap.objs.size f cdv cc)) → sp vs H Q E →
      SupAt (cxS (L2.CX P w) P w K mg base N qual (defScope st) f cdv cc A outer s H E) D ar →
      ∃ t, PSA (cxS (L2.CX P w) P w K mg base N qual (defScope st) f cdv cc A outer s H E) (defBody st) (defBody st) t ∧ t { nx := fun _ H' => Q .non H', rt := Q } (start N vs) H) : FnOk P w K mg base (L2.CX P w) (k + 1) f fd ps sp := by
  obtain ⟨oc, od, dV, kV, doc, pm, an, cda, ct, osl, cc, ol, vs, file, tf, ccl, ccd, csl, rfl, l1, l2, l3, l4, l5, l6, l7⟩ := F.ex
  refine ⟨len, fun A outer s H args us ws Q E hr e0 hb r hsp => ?_⟩
  have hl := len _ _ _ _ hsp
  have kb : ∀ b o, base.get? b = some o → s.heap.get? b = some o := fun b o e => (e0.bs b o e).1
  have KX : K.In s.heap := e0.mod.kin.keeps kb
  have lim : s.heap.NoLimit := e0.mod.nolimit.keeps kb
  refine codeAny_call_function hr.depth (KX _ _ l1) rfl S.co S.gen rfl (PySem.W.codeRec_of KX l2) (hb _ _ _ _ ?_)
  refine new_envS S.kind (fun y hy => ?_) fun s1 x1 => ⟨lim.keeps x1.toInCall.keep, ks_codeAny_funcAt ?_⟩
  · obtain ⟨n, v⟩ := y
    rcases S.par n (List.of_mem_zip hy).1 with q | q
    · exact .inl q
    · exact .inr ⟨q, PySem.W.cellsFrom_some _ _ _ (.inl q)⟩
  · have I := inv_startS (CX := L2.CX P w) (E := E) (N := N) (qual := qual) (f := f) (cd := .ref cda) S hr.hd e0 hl r l7 x1
    have SA : SupAt (cxS (L2.CX P w) P w K mg base N qual (defScope st) f (.ref cda) cc A outer s H E) D ar :=
      ⟨S.cls, S.sup, ⟨f, _, _, a, rfl, l1, rfl, har, har2⟩, ⟨cda, ol, vs, file, tf, rfl, l3, l4, l5, l6⟩, top, ⟨cc, _, look_clsS S, l7, rfl⟩, F.cls, hmg, opq⟩
    obtain ⟨t, ht, hq⟩ := hbody (.ref cda) cc A outer s H ws Q E (hr.deeper _) hsp SA
    refine ks_wpAt_mono (ht.run [] s1 (start N ws) H _ I hq) (fun fl s' hs => ?_) fun _ _ z => z
    have fin : ∀ {σ' : L2.St} {H' : Hp} {v : V} {u : Value}, Inv (cxS (L2.CX P w) P w K mg base N qual (defScope st) f (.ref cda) cc A outer s H E) [] σ' H' s' → RelV v u → Q v H' → CE outer P w H s Q u s' :=
      fun {σ' H' v u} J rv q => ⟨v, H', J.os, J.bare, J.base, J.hok, rv, q⟩
    cases fl with
    | ret u =>
      obtain ⟨v, σ', H', J, rv, q⟩ := hs
      exact fin J rv q
    | next =>
      obtain ⟨σ', H', J, q⟩ := hs
      exact fin (v := V.non) (u := Value.none) J rfl q
    | brk =>
      obtain ⟨_, _, _, q⟩ := hs
      exact q.elim
    | cont =>
      obtain ⟨_, _, _, q⟩ := hs
      exact q.elim
end
end L2.DS
/-! What a reading evaluates to: G what stands still, H the heap, S n what is known of both (n: how often numbers were drawn). -/
namespace L2.DS
open PySem PySem.Spec PyProof.Rows
/-- what is known of what stands still and of the heap; what may change under it -/
structure SR where
  s : Nat → Hp → Hp → Prop
  m : Addr → Prop
instance : CoeFun SR (fun _ => Nat → Hp → Hp → Prop) := ⟨SR.s⟩
/-- all stays but what may change -/
structure Kp (S : SR) (H H' : Hp) : Prop where
  k : ∀ b o, ¬ S.m b → H b = some o → H' b = some o
  v : ∀ b, H' b = none → H b = none
theorem Kp.refl {S : SR} (H : Hp) : Kp S H H := ⟨fun _ _ _ h => h, fun _ h => h⟩
theorem Kp.trans {S : SR} {H H1 H2 : Hp} (a : Kp S H H1) (b : Kp S H1 H2) : Kp S H H2 := ⟨fun c o h e => b.k c o h (a.k c o h e), fun c h => a.v c (b.v c h)⟩
theorem Kp.of {S : SR} {H H' : Hp} (s : Same H H') : Kp S H H' := ⟨fun b o _ e => s b o e, fun b h => s.free h⟩
structure Stp (S : SR) (n : Nat) (G H G' H' : Hp) : Prop where
  g : Same G G'
  k : Kp S H H'
  s : S n G' H'
  n : ∀ b o, G' b = some o → G b = some o ∨ H b = none
theorem Stp.refl {S : SR} {n : Nat} {G H : Hp} (s : S n G H) : Stp S n G H G H := ⟨Same.refl _, Kp.refl _, s, fun _ _ h => .inl h⟩
theorem Stp.trans {S : SR} {n m : Nat} {G H G1 H1 G2 H2 : Hp} (a : Stp S n G H G1 H1) (b : Stp S m G1 H1 G2 H2) : Stp S m G H G2 H2 := ⟨a.g.trans b.g, a.k.trans b.k, b.s, fun c o e => by
  rcases b.n c o e with q | q
  · exact a.n c o q
  · exact .inr (a.k.v c q)⟩
theorem Stp.up {S : SR} {n a b : Nat} {G H G1 H1 : Hp} (h : Stp S (n + a + b) G H G1 H1) : Stp S (n + (a + b)) G H G1 H1 := by
  rw [← Nat.add_assoc]
  exact h
abbrev HR := V → Hp → Prop
/-- H' grows out of H, G' out of G: what is new in G' is new in H' -/
structure Grow (G H G' H' : Hp) : Prop where
  g : Same G G'
  h : Same H H'
  s : Same G' H'
  n : ∀ b o, G' b = some o → G b = some o ∨ H b = none
theorem Grow.refl {G H : Hp} (s : Same G H) : Grow G H G H := ⟨Same.refl _, Same.refl _, s, fun _ _ h => .inl h⟩
theorem Grow.trans {G H G1 H1 G2 H2 : Hp} (a : Grow G H G1 H1) (b : Grow G1 H1 G2 H2) : Grow G H G2 H2 :=
  ⟨a.g.trans b.g, a.h.trans b.h, b.s, fun c o e => by
    rcases b.n c o e with q | q
    · exact a.n c o q
    · exact .inr (a.h.free q)⟩
theorem Grow.new {G H : Hp} {p : Addr} (s : Same G H) (hp : H p = none) (o : HO) : Grow G H (upd G p o) (upd H p o) :=
  ⟨fun b u e => by rw [upd_ne (ne_of_none e (s.free hp))]; exact e, fun b u e => by rw [upd_ne (ne_of_none e hp)]; exact e, fun b u e => by
    by_cases hb : b = p
    · subst hb
      rw [upd_same] at e ⊢
      exact e
    · rw [upd_ne hb] at e ⊢
      exact s b u e, fun b u e => by
    by_cases hb : b = p
    · rw [hb]
      exact .inr hp
    · rw [upd_ne hb] at e
      exact .inl e⟩
structure Stab (S : SR) : Prop where
  sub : ∀ {n G H}, S n G H → Same G H
  wk : ∀ {n m G H}, S n G H → n ≤ m → S m G H
  grow : ∀ {n G H G' H'}, S n G H → Grow G H G' H' → S n G' H'
  anti : ∀ {n m G H G' H'}, S n G H → S m G' H' → Same G G' → S m G H'
  /-- what is new may change while nobody tells of it -/
  chg : ∀ {n m G H G' H' D o}, S n G H → H D = none → S m G' H' → G' D = none → S m G' (upd H' D o)
  pub : ∀ {n m G H G' H' D o}, S n G H → H D = none → S m G' H' → G' D = none → H' D = some o → S m (upd G' D o) H'
  fre : ∀ {n G H D}, S n G H → H D = none → ¬ S.m D
/-- nothing but growth -/
def SP0 (G0 H0 : Hp) : SR := ⟨fun _ G H => Grow G0 H0 G H, fun _ => False⟩
theorem Stp.same {G0 H0 : Hp} {n : Nat} {G H G' H' : Hp} (s : Stp (SP0 G0 H0) n G H G' H') : Same H H' := fun b o e => s.k.k b o (fun z => z) e
theorem Stab.new {S : SR} (st : Stab S) {n : Nat} {G H : Hp} {p : Addr} {o : HO} (s : S n G H) (hp : H p = none) : Stp S n G H (upd G p o) (upd H p o) :=
  have g := Grow.new (st.sub s) hp o
  ⟨g.g, Kp.of g.h, st.grow s g, g.n⟩
theorem Stab.gro {S : SR} (st : Stab S) {n : Nat} {G H G' H' : Hp} (s : S n G H) (g : Grow G H G' H') : Stp S n G H G' H' := ⟨g.g, Kp.of g.h, st.grow s g, g.n⟩
theorem stab0 (G0 H0 : Hp) : Stab (SP0 G0 H0) where
  sub := fun h => h.s
  wk := fun h _ => h
  grow := fun h g => Grow.trans h g
  anti := fun {n m G H G' H'} h h' s => ⟨h.g, h'.h, s.trans h'.s, fun b o e => h'.n b o (s b o e)⟩
  chg := fun {n m G H G' H' D o} h d h' g => ⟨h'.g, fun b u e => by
      rw [upd_ne (ne_of_none e (h.h.free d))]
      exact h'.h b u e, fun b u e => by
      rw [upd_ne (ne_of_none e g)]
      exact h'.s b u e, h'.n⟩
  pub := fun {n m G H G' H' D o} h d h' g e => ⟨fun b u z => by
      rw [upd_ne (ne_of_none z (h'.g.free g))]
      exact h'.g b u z, h'.h, fun b u z => by
      by_cases hb : b = D
      · rw [hb, upd_same] at z
        rw [hb, ← z]
        exact e
      · rw [upd_ne hb] at z
        exact h'.s b u z, fun b u z => by
      by_cases hb : b = D
      · rw [hb]
        exact .inr (h.h.free d)
      · rw [upd_ne hb] at z
        exact h'.n b u z⟩
  fre := fun _ _ z => z
/-! ### results -/
class Mon (R : HR) : Prop where
  mon : ∀ {v : V} {G G' : Hp}, Same G G' → R v G → R v G'
def IsV (x : V) : HR := fun v _ => v = x
def IsI (P : Int → Prop) : HR := fun v _ => ∃ i, P i ∧ v = .int i
def IsB (P : Bool → Prop) : HR := fun v _ => ∃ b, P b ∧ v = .bl b
def IsS (P : Str → Prop) : HR := fun v _ => ∃ b, P b ∧ v = .str b
def IsL (K : PySem.W.Frag) (xs : List V) : HR := fun v G => ∃ p, v = .ref p ∧ SqL K G p xs
def IsT (K : PySem.W.Frag) (xs : List V) : HR := fun v G => ∃ p, v = .ref p ∧ SqT K G p xs
def IsD (K : PySem.W.Frag) (d : PyData) : HR := fun v G => Dp K G v d
abbrev HRs := List V → Hp → Prop
class Mons (R : HRs) : Prop where
  mon : ∀ {v : List V} {G G' : Hp}, Same G G' → R v G → R v G'
def RNil : HRs := fun vs _ => vs = []
def RCons (R : HR) (RA : HRs) : HRs := fun vs G => ∃ v r, vs = v :: r ∧ R v G ∧ RA r G
def IsVs (ws : List V) : HRs := fun vs _ => vs = ws
/-- a list, a tuple of things of which RA tells -/
def IsLA (K : PySem.W.Frag) (RA : HRs) : HR := fun v G => ∃ p xs, v = .ref p ∧ SqL K G p xs ∧ RA xs G
def IsTA (K : PySem.W.Frag) (RA : HRs) : HR := fun v G => ∃ p xs, v = .ref p ∧ SqT K G p xs ∧ RA xs G
theorem same_t {K : PySem.W.Frag} {H H' : Hp} {a : Addr} {xs : List V} (e : Same H H') (h : SqT K H a xs) : SqT K H' a xs := by
  rcases h with (h | ⟨o, h⟩) | h
  · exact .inl (.inl (e _ _ h))
  · exact .inl (.inr ⟨o, e _ _ h⟩)
  · exact .inr h
mutual
theorem dp_mon {K : PySem.W.Frag} {G G' : Hp} (s : Same G G') : ∀ {v : V} {d : PyData}, Dp K G v d → Dp K G' v d
  | _, _, .non => .non
  | _, _, .bl b => .bl b
  | _, _, .int i => .int i
  | _, _, .str x => .str x
  | _, _, .lst h hs => .lst (s.seq h) (dps_mon s hs)
  | _, _, .tup h hs => .tup (same_t s h) (dps_mon s hs)
theorem dps_mon {K : PySem.W.Frag} {G G' : Hp} (s : Same G G') : ∀ {vs : List V} {ds : List PyData}, DpAll K G vs ds → DpAll K G' vs ds
  | _, _, .nil => .nil
  | _, _, .cons h hs => .cons (dp_mon s h) (dps_mon s hs)
end
instance (x : V) : Mon (IsV x) := ⟨fun _ h => h⟩
instance (P : Int → Prop) : Mon (IsI P) := ⟨fun _ h => h⟩
instance (P : Bool → Prop) : Mon (IsB P) := ⟨fun _ h => h⟩
instance (P : Str → Prop) : Mon (IsS P) := ⟨fun _ h => h⟩
instance (K xs) : Mon (IsL K xs) := ⟨fun s ⟨p, e, h⟩ => ⟨p, e, s.seq h⟩⟩
instance (K xs) : Mon (IsT K xs) := ⟨fun s ⟨p, e, h⟩ => ⟨p, e, same_t s h⟩⟩
instance (K d) : Mon (IsD K d) := ⟨fun s h => dp_mon s h⟩
instance : Mons RNil := ⟨fun _ h => h⟩
instance (ws) : Mons (IsVs ws) := ⟨fun _ h => h⟩
instance (R RA) [Mon R] [Mons RA] : Mons (RCons R RA) := ⟨fun s ⟨v, r, e, h, h'⟩ => ⟨v, r, e, Mon.mon s h, Mons.mon s h'⟩⟩
instance (K RA) [Mons RA] : Mon (IsLA K RA) := ⟨fun s ⟨p, xs, e, h, h'⟩ => ⟨p, xs, e, s.seq h, Mons.mon s h'⟩⟩
instance (K RA) [Mons RA] : Mon (IsTA K RA) := ⟨fun s ⟨p, xs, e, h, h'⟩ => ⟨p, xs, e, same_t s h, Mons.mon s h'⟩⟩
/-! ### what evaluates to what -/
variable (S : SR)
def Ev (n k : Nat) (te : TE) (σ : L2.St) (G : Hp) (R : HR) : Prop := ∀ G1 H1, Same G G1 → S n G1 H1 → ∀ Q : VK, (∀ v G2 H2, Stp S (n + k) G1 H1 G2 H2 → R v G2 → Q v H2) → te σ H1 Q
def EvT (n k : Nat) (tt : TT) (σ : L2.St) (G : Hp) (P : Bool → Prop) : Prop := ∀ G1 H1, Same G G1 → S n G1 H1 → ∀ Q : Bool → Hp → Prop, (∀ b G2 H2, Stp S (n + k) G1 H1 G2 H2 → P b → Q b H2) → tt σ H1 Q
def EvA (n k : Nat) (ta : TA) (σ : L2.St) (G : Hp) (RA : HRs) : Prop := ∀ G1 H1, Same G G1 → S n G1 H1 → ∀ Q : List V → Hp → Prop, (∀ v G2 H2, Stp S (n + k) G1 H1 G2 H2 → RA v G2 → Q v H2) → ta σ H1 Q
/-- operations by values -/
def RV (r : R2) (x y : V) (G : Hp) (R : HR) : Prop := ∀ n G1 H1, Same G G1 → S n G1 H1 → ∀ Q : VK, (∀ v G2 H2, Stp S n G1 H1 G2 H2 → R v G2 → Q v H2) → r x y H1 Q
def RU (r : V → Hp → VK → Prop) (x : V) (G : Hp) (R : HR) : Prop := ∀ n G1 H1, Same G G1 → S n G1 H1 → ∀ Q : VK, (∀ v G2 H2, Stp S n G1 H1 G2 H2 → R v G2 → Q v H2) → r x H1 Q
def RC (r : List V → Hp → VK → Prop) (xs : List V) (G : Hp) (R : HR) : Prop := ∀ n G1 H1, Same G G1 → S n G1 H1 → ∀ Q : VK, (∀ v G2 H2, Stp S n G1 H1 G2 H2 → R v G2 → Q v H2) → r xs H1 Q
variable {S}
section
variable {n k ka kb kc : Nat} {te ta tb : TE} {tt tu : TT} {t tr : TA} {σ : L2.St} {G G' : Hp} {R Ra Rb : HR} {RA : HRs} {P P' : Bool → Prop} {x y : V} {r : R2}
theorem Ev.mono (h : Ev S n k te σ G R) (s : Same G G') : Ev S n k te σ G' R := fun G1 H1 a b Q q => h G1 H1 (s.trans a) b Q q
theorem EvT.mono (h : EvT S n k tt σ G P) (s : Same G G') : EvT S n k tt σ G' P := fun G1 H1 a b Q q => h G1 H1 (s.trans a) b Q q
theorem EvA.mono (h : EvA S n k t σ G RA) (s : Same G G') : EvA S n k t σ G' RA := fun G1 H1 a b Q q => h G1 H1 (s.trans a) b Q q
theorem Ev.imp (h : Ev S n k te σ G R) (i : ∀ v G', Same G G' → R v G' → Rb v G') : Ev S n k te σ G Rb := fun G1 H1 a b Q q => h G1 H1 a b Q fun v G2 H2 s e => q v G2 H2 s (i v G2 (a.trans s.g) e)
theorem EvT.imp (h : EvT S n k tt σ G P) (i : ∀ b, P b → P' b) : EvT S n k tt σ G P' := fun G1 H1 a b Q q => h G1 H1 a b Q fun v G2 H2 s e => q v G2 H2 s (i v e)
theorem Stp.wk (st : Stab S) {m : Nat} {H G1 H1 : Hp} (s : Stp S n G H G1 H1) (h : n ≤ m) : Stp S m G H G1 H1 := ⟨s.g, s.k, st.wk s.s h, s.n⟩
theorem Ev.wk (st : Stab S) (h : Ev S n ka te σ G R) (hk : ka ≤ kb) : Ev S n kb te σ G R := fun G1 H1 a b Q q => h G1 H1 a b Q fun v G2 H2 s e => q v G2 H2 (s.wk st (by omega)) e
theorem ev_var {i : Nat} (h : σ[i]? = some (some x)) : Ev S n 0 (tVar i) σ G (IsV x) := fun G1 H1 _ s Q q => ⟨x, h, q x G1 H1 (Stp.refl s) rfl⟩
theorem ev_c : Ev S n 0 (tC x) σ G (IsV x) := fun G1 H1 _ s Q q => q x G1 H1 (Stp.refl s) rfl
theorem ev_op [Mon Ra] (ha : Ev S n ka ta σ G Ra) (hb : Ev S (n + ka) kb tb σ G Rb) (hr : ∀ x y G', Same G G' → Ra x G' → Rb y G' → RV S r x y G' R) : Ev S n (ka + kb) (tOp r ta tb) σ G R := fun G1 H1 a s Q q =>
  ha G1 H1 a s _ fun x G2 H2 s2 rx => hb G2 H2 (a.trans s2.g) s2.s _ fun y G3 H3 s3 ry =>
    hr x y G3 ((a.trans s2.g).trans s3.g) (Mon.mon s3.g rx) ry _ G3 H3 (Same.refl _) s3.s Q fun v G4 H4 s4 e => q v G4 H4 ((s2.trans s3).trans s4).up e
/-- both operands known -/
theorem ev_opV (ha : Ev S n ka ta σ G (IsV x)) (hb : Ev S (n + ka) kb tb σ G (IsV y)) (hr : RV S r x y G R) : Ev S n (ka + kb) (tOp r ta tb) σ G R :=
  ev_op ha hb fun u v G' s e1 e2 => by
    rw [show u = x from e1, show v = y from e2]
    exact fun n G1 H1 a s' Q q => hr n G1 H1 (s.trans a) s' Q q
theorem ev_un [Mon Ra] {r : V → Hp → VK → Prop} (ha : Ev S n ka ta σ G Ra) (hr : ∀ x G', Same G G' → Ra x G' → RU S r x G' R) : Ev S n ka (tUn r ta) σ G R := fun G1 H1 a s Q q =>
  ha G1 H1 a s _ fun x G2 H2 s2 rx => hr x G2 (a.trans s2.g) rx _ G2 H2 (Same.refl _) s2.s Q fun v G4 H4 s4 e => q v G4 H4 (s2.trans s4) e
theorem ev_unV {r : V → Hp → VK → Prop} (ha : Ev S n ka ta σ G (IsV x)) (hr : RU S r x G R) : Ev S n ka (tUn r ta) σ G R :=
  ev_un ha fun u G' s e => by
    rw [show u = x from e]
    exact fun n G1 H1 a s' Q q => hr n G1 H1 (s.trans a) s' Q q
/-! tests -/
theorem et_test (h : Ev S n k te σ G (IsB P)) : EvT S n k (tTest te) σ G P := fun G1 H1 a s Q q => h G1 H1 a s _ fun v G2 H2 s2 ⟨b, p, e⟩ => ⟨b, e, q b G2 H2 s2 p⟩
theorem et_testV {b : Bool} (h : Ev S n k te σ G (IsV (.bl b))) : EvT S n k (tTest te) σ G (fun c => c = b) := fun G1 H1 a s Q q => h G1 H1 a s _ fun v G2 H2 s2 e => ⟨b, e, q b G2 H2 s2 rfl⟩
theorem et_B {b : Bool} (h : Ev S n k te σ G (IsV (.bl b))) : EvT S n k (tB te) σ G (fun c => c = b) := fun G1 H1 a s Q q => h G1 H1 a s _ fun v G2 H2 s2 e => ⟨b, e, q b G2 H2 s2 rfl⟩
theorem et_and (st : Stab S) {a b : Bool} (h1 : EvT S n ka tt σ G (fun c => c = a)) (h2 : a = true → EvT S (n + ka) kb tu σ G (fun c => c = b)) : EvT S n (ka + kb) (tAnd tt tu) σ G (fun c => c = (a && b)) := fun G1 H1 s0 s Q q =>
  h1 G1 H1 s0 s _ fun c G2 H2 s2 e => by
    subst e
    cases c with
    | true => exact iteT (h2 rfl G2 H2 (s0.trans s2.g) s2.s Q fun d G3 H3 s3 e => q d G3 H3 (s2.trans s3).up e)
    | false => exact iteF (q false G2 H2 (s2.wk st (by omega)) rfl)
theorem et_or (st : Stab S) {a b : Bool} (h1 : EvT S n ka tt σ G (fun c => c = a)) (h2 : a = false → EvT S (n + ka) kb tu σ G (fun c => c = b)) : EvT S n (ka + kb) (tOr tt tu) σ G (fun c => c = (a || b)) := fun G1 H1 s0 s Q q =>
  h1 G1 H1 s0 s _ fun c G2 H2 s2 e => by
    subst e
    cases c with
    | false => exact iteF (h2 rfl G2 H2 (s0.trans s2.g) s2.s Q fun d G3 H3 s3 e => q d G3 H3 (s2.trans s3).up e)
    | true => exact iteT (q true G2 H2 (s2.wk st (by omega)) rfl)
theorem et_not {a : Bool} (h : EvT S n ka tt σ G (fun c => c = a)) : EvT S n ka (tNot tt) σ G (fun c => c = !a) := fun G1 H1 s0 s Q q => h G1 H1 s0 s _ fun c G2 H2 s2 e => q (!c) G2 H2 s2 (by rw [show c = a from e])
theorem ev_andV (st : Stab S) {a b : Bool} (h1 : Ev S n ka ta σ G (IsV (.bl a))) (h2 : a = true → Ev S (n + ka) kb tb σ G (IsV (.bl b))) : Ev S n (ka + kb) (tAndV ta tb) σ G (IsV (.bl (a && b))) := fun G1 H1 s0 s Q q =>
  h1 G1 H1 s0 s _ fun c G2 H2 s2 e => ⟨a, e, by
    cases a with
    | true => exact iteT (h2 rfl G2 H2 (s0.trans s2.g) s2.s Q fun d G3 H3 s3 e => q d G3 H3 (s2.trans s3).up e)
    | false => exact iteF (q _ G2 H2 (s2.wk st (by omega)) rfl)⟩
theorem ev_orV (st : Stab S) {a b : Bool} (h1 : Ev S n ka ta σ G (IsV (.bl a))) (h2 : a = false → Ev S (n + ka) kb tb σ G (IsV (.bl b))) : Ev S n (ka + kb) (tOrV ta tb) σ G (IsV (.bl (a || b))) := fun G1 H1 s0 s Q q =>
  h1 G1 H1 s0 s _ fun c G2 H2 s2 e => ⟨a, e, by
    cases a with
    | false => exact iteF (h2 rfl G2 H2 (s0.trans s2.g) s2.s Q fun d G3 H3 s3 e => q d G3 H3 (s2.trans s3).up e)
    | true => exact iteT (q _ G2 H2 (s2.wk st (by omega)) rfl)⟩
theorem ev_notV {a : Bool} (h : Ev S n ka ta σ G (IsV (.bl a))) : Ev S n ka (tNotV ta) σ G (IsV (.bl (!a))) := fun G1 H1 s0 s Q q => h G1 H1 s0 s _ fun c G2 H2 s2 e => ⟨a, e, q _ G2 H2 s2 rfl⟩
theorem ev_if (st : Stab S) {c : Bool} (h : EvT S n kc tt σ G (fun b => b = c)) (h1 : c = true → Ev S (n + kc) ka ta σ G R) (h2 : c = false → Ev S (n + kc) kb tb σ G R) : Ev S n (kc + (ka + kb)) (tIf tt ta tb) σ G R := fun G1 H1 s0 s Q q =>
  h G1 H1 s0 s _ fun b G2 H2 s2 e => by
    subst e
    cases b with
    | true => exact iteT (h1 rfl G2 H2 (s0.trans s2.g) s2.s Q fun v G3 H3 s3 e => q v G3 H3 ((s2.trans s3).wk st (by omega)) e)
    | false => exact iteF (h2 rfl G2 H2 (s0.trans s2.g) s2.s Q fun v G3 H3 s3 e => q v G3 H3 ((s2.trans s3).wk st (by omega)) e)
/-! arguments, displays -/
theorem ea_nil : EvA S n 0 tNil σ G RNil := fun G1 H1 _ s Q q => q [] G1 H1 (Stp.refl s) rfl
theorem ea_cons [Mon R] (h : Ev S n ka te σ G R) (hr : EvA S (n + ka) kb tr σ G RA) : EvA S n (ka + kb) (tCons te tr) σ G (RCons R RA) := fun G1 H1 s0 s Q q =>
  h G1 H1 s0 s _ fun v G2 H2 s2 e => hr G2 H2 (s0.trans s2.g) s2.s _ fun vs G3 H3 s3 e' => q (v :: vs) G3 H3 (s2.trans s3).up ⟨v, vs, rfl, Mon.mon s3.g e, e'⟩
theorem ea_nilV : EvA S n 0 tNil σ G (IsVs []) := ea_nil
theorem ea_consV {vs : List V} (h : Ev S n ka te σ G (IsV x)) (hr : EvA S (n + ka) kb tr σ G (IsVs vs)) : EvA S n (ka + kb) (tCons te tr) σ G (IsVs (x :: vs)) := fun G1 H1 s0 s Q q =>
  h G1 H1 s0 s _ fun v G2 H2 s2 e => hr G2 H2 (s0.trans s2.g) s2.s _ fun ws G3 H3 s3 e' => q (v :: ws) G3 H3 (s2.trans s3).up (by rw [show v = x from e, show ws = vs from e']; rfl)
theorem ev_cb {r : List V → Hp → VK → Prop} (h : EvA S n k t σ G RA) (hr : ∀ vs G', Same G G' → RA vs G' → RC S r vs G' R) : Ev S n k (tCB r t) σ G R := fun G1 H1 s0 s Q q =>
  h G1 H1 s0 s _ fun vs G2 H2 s2 e => hr vs G2 (s0.trans s2.g) e _ G2 H2 (Same.refl _) s2.s Q fun v G3 H3 s3 e' => q v G3 H3 (s2.trans s3) e'
theorem ev_cbV {r : List V → Hp → VK → Prop} {ws : List V} (h : EvA S n k t σ G (IsVs ws)) (hr : RC S r ws G R) : Ev S n k (tCB r t) σ G R :=
  ev_cb h fun vs G' s e => by
    rw [show vs = ws from e]
    exact fun n G1 H1 a s' Q q => hr n G1 H1 (s.trans a) s' Q q
/-! fields -/
theorem ev_fld (st : Stab S) {K : PySem.W.Frag} {a C dx : Addr} {fs : List (Str × V)} {f : Str} (h : Ev S n k te σ G (IsV (.ref a))) (ho : G a = some (.ins C dx fs)) (hc : Cls K C) (hn : NoAttr K C f) (hl : fs.lookup f = some x) : Ev S n k (tFld K te f) σ G (IsV x) := fun G1 H1 s0 s Q q =>
  h G1 H1 s0 s _ fun v G2 H2 s2 e => ⟨a, C, dx, fs, x, e, st.sub s2.s _ _ (s2.g _ _ (s0 _ _ ho)), hc, hn, hl, q x G2 H2 s2 rfl⟩
/-! promises -/
/-- a def that changes nothing that stood: P arguments, what stands still, the result -/
def spP (P : List V → Hp → HR → Prop) : Sp := fun vs H Q _ => ∃ G R, Same G H ∧ P vs G R ∧ ∀ v G' H', Grow G H G' H' → R v G' → Q v H'
theorem ev_call (st : Stab S) {P : List V → Hp → HR → Prop} {dvs : List V} {E : XK} (h : EvA S n k t σ G RA) (hp : ∀ vs G', Same G G' → RA vs G' → P (vs ++ dvs) G' R) : Ev S n k (tCall (spP P) dvs E t) σ G R := fun G1 H1 s0 s Q q =>
  h G1 H1 s0 s _ fun vs G2 H2 s2 e => ⟨G2, R, st.sub s2.s, hp vs G2 (s0.trans s2.g) e, fun v G' H' g r => q v G' H' (s2.trans (st.gro s2.s g)) r⟩
theorem ev_callV (st : Stab S) {P : List V → Hp → HR → Prop} {dvs ws : List V} {E : XK} (h : EvA S n k t σ G (IsVs ws)) (hp : ∀ G', Same G G' → P (ws ++ dvs) G' R) : Ev S n k (tCall (spP P) dvs E t) σ G R :=
  ev_call st h fun vs G' s e => by
    rw [show vs = ws from e]
    exact hp G' s
end
/-! ### operations -/
section
variable {K : PySem.W.Frag} {G : Hp} {R : HR} {x y : V} {r r' : R2} {i j : Int} {s z : Str}
theorem rv_val {v : V} (h : ∀ H, Same G H → ∀ Q : VK, Q v H → r x y H Q) (st : Stab S) : RV S r x y G (IsV v) := fun n G1 H1 s0 s Q q => h H1 (s0.trans (st.sub s)) Q (q v G1 H1 (Stp.refl s) rfl)
theorem rv_l (h : RV S r x y G R) : RV S (fun x y H Q => r x y H Q ∨ r' x y H Q) x y G R := fun n G1 H1 s0 s Q q => .inl (h n G1 H1 s0 s Q q)
theorem rv_r (h : RV S r' x y G R) : RV S (fun x y H Q => r x y H Q ∨ r' x y H Q) x y G R := fun n G1 H1 s0 s Q q => .inr (h n G1 H1 s0 s Q q)
theorem rv_I0 (st : Stab S) {g : Int → Int → V} : RV S (rI0 g) (.int i) (.int j) G (IsV (g i j)) := rv_val (fun H _ Q q => ⟨i, j, rfl, rfl, q⟩) st
theorem rv_I (st : Stab S) {C : Int → Int → Prop} {g : Int → Int → V} (hc : C i j) : RV S (rI C g) (.int i) (.int j) G (IsV (g i j)) := rv_val (fun H _ Q q => ⟨i, j, rfl, rfl, hc, q⟩) st
theorem rv_eq (st : Stab S) (h : scal x y = true) : RV S rEq x y G (IsV (.bl (decide (x = y)))) := rv_val (fun H _ Q q => ⟨h, q⟩) st
theorem rv_ne (st : Stab S) (h : scal x y = true) : RV S rNe x y G (IsV (.bl (!decide (x = y)))) := rv_val (fun H _ Q q => ⟨h, q⟩) st
theorem ru_I (st : Stab S) {g : Int → V} : RU S (rU g) (.int i) G (IsV (g i)) := fun n G1 H1 s0 s Q q => ⟨i, rfl, q _ G1 H1 (Stp.refl s) rfl⟩
theorem rv_ixL (st : Stab S) {p : Addr} {xs : List V} {v : V} (h : SqL K G p xs) (ha : atI xs i = some v) : RV S (rIxL K) (.ref p) (.int i) G (IsV v) := rv_val (fun H s Q q => ⟨p, xs, i, v, rfl, rfl, s.seq h, ha, q⟩) st
theorem rv_ixT (st : Stab S) {p : Addr} {xs : List V} {v : V} (h : SqT K G p xs) (ha : atI xs i = some v) : RV S (rIxT K) (.ref p) (.int i) G (IsV v) := rv_val (fun H s Q q => ⟨p, xs, i, v, rfl, rfl, same_t s h, ha, q⟩) st
end
/-! ### statements -/
section
variable {k n : Nat} {te : TE} {tt : TT} {ts t1 t2 u : TS} {σ : L2.St} {G H : Hp} {R : HR} {P : Bool → Prop} {x : V} {nx bk ct : L2.St → Hp → Prop} {rt : VK} {i : Nat}
theorem q_end (h : nx σ H) : tNext (Ends.mk nx rt bk ct) σ H := h
theorem q_ret (s : S n G H) (e : Ev S n k te σ G R) (h : ∀ v G' H', Stp S (n + k) G H G' H' → R v G' → rt v H') : tSeq (tRet te) u (Ends.mk nx rt bk ct) σ H := e G H (Same.refl _) s _ h
theorem q_retV (st : Stab S) (s : S n G H) (e : Ev S n k te σ G (IsV x)) (h : ∀ H', Kp S H H' → S (n + k) G H' → rt x H') : tSeq (tRet te) u (Ends.mk nx rt bk ct) σ H := q_ret s e fun v G' H' s1 e => by
  rw [show v = x from e]
  exact h H' s1.k (st.anti s s1.s s1.g)
theorem q_set (s : S n G H) (e : Ev S n k te σ G R) (h : ∀ v G' H', Stp S (n + k) G H G' H' → R v G' → u (Ends.mk nx rt bk ct) (σ.set i (some v)) H') : tSeq (tAsg te (gName i)) u (Ends.mk nx rt bk ct) σ H := e G H (Same.refl _) s _ h
theorem q_setV (st : Stab S) (s : S n G H) (e : Ev S n k te σ G (IsV x)) (h : ∀ H', Kp S H H' → S (n + k) G H' → u (Ends.mk nx rt bk ct) (σ.set i (some x)) H') : tSeq (tAsg te (gName i)) u (Ends.mk nx rt bk ct) σ H := q_set s e fun v G' H' s1 e => by
  rw [show v = x from e]
  exact h H' s1.k (st.anti s s1.s s1.g)
theorem q_setI (st : Stab S) (s : S n G H) {P : Int → Prop} (e : Ev S n k te σ G (IsI P)) (h : ∀ j H', P j → Kp S H H' → S (n + k) G H' → u (Ends.mk nx rt bk ct) (σ.set i (some (.int j))) H') : tSeq (tAsg te (gName i)) u (Ends.mk nx rt bk ct) σ H := q_set s e fun v G' H' s1 ⟨j, p, e⟩ => by
  rw [e]
  exact h j H' p s1.k (st.anti s s1.s s1.g)
theorem q_if (st : Stab S) (s : S n G H) (e : EvT S n k tt σ G P) (h1 : ∀ H', P true → Kp S H H' → S (n + k) G H' → t1 (Ends.mk (u (Ends.mk nx rt bk ct)) rt bk ct) σ H') (h2 : ∀ H', P false → Kp S H H' → S (n + k) G H' → t2 (Ends.mk (u (Ends.mk nx rt bk ct)) rt bk ct) σ H') :
    tSeq (tIfS tt t1 t2) u (Ends.mk nx rt bk ct) σ H := e G H (Same.refl _) s _ fun b G' H' s1 p => by
  cases b with
  | true => exact iteT (h1 H' p s1.k (st.anti s s1.s s1.g))
  | false => exact iteF (h2 H' p s1.k (st.anti s s1.s s1.g))
end
end L2.DS
/-! Callees by one fact each; operators of several kinds by one rule each. -/
namespace L2.DS
open PySem PySem.Spec PyProof.Rows
/-- a def of the top, by its name -/
def Callee (P : Program) (w : World) (K : PySem.W.Frag) (mg : Str → Option Value) (base : Heap) (x : Str) (CX : CXT) (k : Nat) (ps : List Str) (dvs : List V) (sp : Sp) : Prop :=
  ∃ (f : Addr) (fd : FuncData) (ds : List Value), mg x = some (.ref f) ∧ PySem.W.keepIn K (.ref f) = true ∧ FnOk P w K mg base CX k f fd ps sp ∧ Binds K fd ps ds ∧ Vals dvs ds
/-- a method m of the class at C -/
def Method (P : Program) (w : World) (K : PySem.W.Frag) (mg : Str → Option Value) (base : Heap) (C : Addr) (m : Str) (CX : CXT) (k : Nat) (ps : List Str) (dvs : List V) (sp : Sp) : Prop :=
  ∃ (f : Addr) (fd : FuncData) (ds : List Value), Cls K C ∧ Meth K C m f ∧ FnOk P w K mg base CX k f fd ps sp ∧ Binds K fd ps ds ∧ Vals dvs ds
/-- a class of the top with an own __init__, made by its name -/
def Maker (P : Program) (w : World) (K : PySem.W.Frag) (mg : Str → Option Value) (base : Heap) (x : Str) (C : Addr) (CX : CXT) (k : Nat) (ps : List Str) (dvs : List V) (sp : Sp) : Prop :=
  ∃ (f : Addr) (fd : FuncData) (ds : List Value), mg x = some (.ref C) ∧ Mk K C f ∧ FnOk P w K mg base CX k f fd ps sp ∧ Binds K fd ps ds ∧ Vals dvs ds
section
variable {X : Cx} {CX : CXT} {k : Nat} {ps : List Str} {dvs : List V} {sp : Sp} {E : XK} {x m : Str} {C : Addr} {e o : Expr} {es : List Expr} {t : TA} {ta : TE} {p pos apos : Pos}
theorem pe_callC (c : Callee X.prog X.w X.K X.mg X.base x CX k ps dvs sp) (hr : Room k X.A) (hx : Passes CX X E) (ha : PA X (e :: es) t) (hg : Gl X x := by rfl) (hdb : (x == ("__debug__" : Str)) = false := by decide)
    (he : starEach (e :: es) X.env = (false, eval e X.env) :: starEach es X.env := by rfl) (hpl : (backTo pos (starEach es X.env)).any (·.1) = false := by rfl) : PE X (.Call (.Name x p) (e :: es) [] pos) (tCall sp dvs E t) := by
  obtain ⟨f, fd, ds, h1, h2, h3, h4, h5⟩ := c
  exact pe_call h3 hr hg h1 h2 h4 h5 hx ha hdb he hpl
theorem pe_methC {pl : Sem Bool} (c : Method X.prog X.w X.K X.mg X.base C m CX k ps dvs sp) (hr : Room k X.A) (hx : Passes CX X E) (ho : PE X o ta) (ha : PA X (e :: es) t)
    (hst : starEach (e :: es) X.env = (false, eval e X.env) :: starEach es X.env := by rfl) (hpl : (backTo pos (starEach es X.env)).any (·.1) = false := by rfl)
    (ht : eval (.Call (.Attribute o m apos) (e :: es) [] pos) X.env = (do
      let ov ← eval o X.env
      standAt apos.atName
      let (f, first) ← holding [ov] (getMethod ov m pl)
      callWith pos f first (backTo pos (starEach (e :: es) X.env)) (backToKw pos (keywordEach [] X.env))) := by rfl) :
    PE X (.Call (.Attribute o m apos) (e :: es) [] pos) (tMeth C m sp dvs E ta t) := by
  obtain ⟨f, fd, ds, h1, h2, h3, h4, h5⟩ := c
  exact pe_meth ho h1 h2 h3 hr h4 h5 hx ha hst hpl ht
theorem pe_methC0 {pl : Sem Bool} (c : Method X.prog X.w X.K X.mg X.base C m CX k ps dvs sp) (hr : Room k X.A) (hx : Passes CX X E) (ho : PE X o ta)
    (ht : eval (.Call (.Attribute o m apos) [] [] pos) X.env = (do
      let ov ← eval o X.env
      standAt apos.atName
      let (f, first) ← holding [ov] (getMethod ov m pl)
      callWith pos f first (backTo pos (starEach [] X.env)) (backToKw pos (keywordEach [] X.env))) := by rfl) :
    PE X (.Call (.Attribute o m apos) [] [] pos) (tMeth C m sp dvs E ta tNil) := by
  obtain ⟨f, fd, ds, h1, h2, h3, h4, h5⟩ := c
  exact pe_meth0 ho h1 h2 h3 hr h4 h5 hx ht
theorem pe_makeC (c : Maker X.prog X.w X.K X.mg X.base x C CX k ps dvs sp) (hr : Room (k + 1) X.A) (hx : Passes CX X E) (ha : PA X (e :: es) t) (hg : Gl X x := by rfl) (hdb : (x == ("__debug__" : Str)) = false := by decide)
    (he : starEach (e :: es) X.env = (false, eval e X.env) :: starEach es X.env := by rfl) (hpl : (backTo pos (starEach es X.env)).any (·.1) = false := by rfl) : PE X (.Call (.Name x p) (e :: es) [] pos) (tMake C sp dvs E t) := by
  obtain ⟨f, fd, ds, h1, h2, h3, h4, h5⟩ := c
  exact pe_make h2 h3 hr hg h1 h4 h5 hx ha hdb he hpl
end
/-! ### operators of several kinds -/
def rAddS : R2 := fun x y H Q => ∃ i j, x = .str i ∧ y = .str j ∧ i.length + j.length ≤ sizeLine ∧ Q (.str (i ++ j)) H
def rMul : R2 := fun x y H Q => rI CMul (fun i j => .int (i * j)) x y H Q ∨ rI CMulW (fun i j => .int (i * j)) x y H Q
def rDiv : R2 := fun x y H Q => rI CDiv (fun i j => .int (i / j)) x y H Q ∨ rI CDivW (fun i j => .int (i / j)) x y H Q
def rMod : R2 := rI (fun _ j => 0 < j) fun i j => .int (i % j)
def rAdd2 : R2 := fun x y H Q => rI0 (fun i j => .int (i + j)) x y H Q ∨ rAddS x y H Q
def rAddA : R2 := fun x y H Q => rAdd2 x y H Q ∨ rCat x y H Q
def rSubI : R2 := rI0 fun i j => .int (i - j)
def rLtI : R2 := rI0 fun i j => .bl (decide (i < j))
def rLeI : R2 := rI0 fun i j => .bl (decide (i ≤ j))
def rGtI : R2 := rI0 fun i j => .bl (decide (j < i))
def rGeI : R2 := rI0 fun i j => .bl (decide (j ≤ i))
def rEqA (K : PySem.W.Frag) : R2 := fun x y H Q => rEq x y H Q ∨ rEqD K x y H Q
def rNeA (K : PySem.W.Frag) : R2 := fun x y H Q => rNe x y H Q ∨ rNeD K x y H Q
def rDGet : R2 := fun x y H Q => ∃ a v, x = .ref a ∧ DGet H a y (some v) ∧ Q v H
def rDIn (neg : Bool) : R2 := fun y x H Q => ∃ a o, x = .ref a ∧ DGet H a y o ∧ Q (.bl (if neg then !o.isSome else o.isSome)) H
def rInA (K : PySem.W.Frag) (neg : Bool) : R2 := fun x y H Q => rIn K neg x y H Q ∨ rDIn neg x y H Q
def rIxA (K : PySem.W.Frag) : R2 := fun x y H Q => rIx K x y H Q ∨ rDGet x y H Q
def rSetD : TSet := fun o i v H Q => ∃ a H', o = .ref a ∧ DPut H a i v H' ∧ Q H'
def rSetA : TSet := fun o i v H Q => rSetL o i v H Q ∨ rSetD o i v H Q
section
variable {X : Cx}
theorem op_addA : OpR X (binaryOp .Add) rAddA := OpR.or (OpR.or op_add op_add_str) op_cat
theorem op_mulA : OpR X (binaryOp .Mult) rMul := OpR.or op_mul op_mulW
theorem op_divA : OpR X (binaryOp .FloorDiv) rDiv := OpR.or op_fdiv op_fdivW
theorem op_modA : OpR X (binaryOp .Mod) rMod := op_mod
theorem op_subA : OpR X (binaryOp .Sub) rSubI := op_sub
theorem op_ltA : OpR X (compareOp .Lt) rLtI := op_lt
theorem op_gtA : OpR X (compareOp .Gt) rGtI := op_gt
theorem op_eqA (K : PySem.W.Frag) (hu : X.A.units + 64 < cLine) (hK : X.K = K := by rfl) : OpR X (compareOp .Eq) (rEqA K) := by
  subst hK
  exact OpR.or op_eq (op_eqD hu)
theorem op_neA (K : PySem.W.Frag) (hu : X.A.units + 64 < cLine) (hK : X.K = K := by rfl) : OpR X (compareOp .NotEq) (rNeA K) := by
  subst hK
  exact OpR.or op_ne (op_neD hu)
theorem op_inDict (hu : X.A.units + 1 < cLine) : OpR X (compareOp .In) (rDIn false) := fun pins s σ H x y v u Q I rx ry q => by
  obtain ⟨a, o, rfl, g, q⟩ := q
  obtain rfl : u = Value.ref a := ry
  exact d_in hu I g rx fun s3 I3 => ⟨.bl o.isSome, H, I3, rfl, q⟩
theorem op_ninDict (hu : X.A.units + 1 < cLine) : OpR X (compareOp .NotIn) (rDIn true) := fun pins s σ H x y v u Q I rx ry q => by
  obtain ⟨a, o, rfl, g, q⟩ := q
  obtain rfl : u = Value.ref a := ry
  exact d_notIn hu I g rx fun s3 I3 => ⟨.bl (!o.isSome), H, I3, rfl, q⟩
theorem op_inA (K : PySem.W.Frag) (hu : X.A.units + 1 < cLine) (hK : X.K = K := by rfl) : OpR X (compareOp .In) (rInA K false) := by
  subst hK
  exact OpR.or op_in_seq (op_inDict hu)
theorem op_ninA (K : PySem.W.Frag) (hu : X.A.units + 1 < cLine) (hK : X.K = K := by rfl) : OpR X (compareOp .NotIn) (rInA K true) := by
  subst hK
  exact OpR.or op_notIn_seq (op_ninDict hu)
theorem set_dict (hu : X.A.units + 1 < cLine) : PSet X rSetD := fun pins s σ H o i v ov iv u Q I ro ri rv q => by
  obtain ⟨a, H', rfl, g, q⟩ := q
  obtain rfl : ov = Value.ref a := ro
  exact d_setItem hu I g ri rv fun s4 I4 => ⟨H', I4, q⟩
theorem set_any (hu : X.A.units + 1 < cLine) : PSet X rSetA := fun pins s σ H o i v ov iv u Q I ro ri rv q => by
  rcases q with q | q
  · exact set_list pins s σ H o i v ov iv u Q I ro ri rv q
  · exact set_dict hu pins s σ H o i v ov iv u Q I ro ri rv q
theorem ix_dict (hu : X.A.units + 1 < cLine) : IxR X rDGet := fun value slice pins s σ H x y v u Q I rx ry h hs => by
  obtain ⟨a, z, rfl, g, q⟩ := h
  obtain rfl : v = Value.ref a := rx
  exact tail_any (dict_typeIs I g) PySem.F.slot_dict_getitem.lookup (d_getItem hu I g ry fun w' s3 I3 rw' => ⟨z, H, I3, rw', q⟩) hs
theorem ix_any (K : PySem.W.Frag) (hu : X.A.units + 1 < cLine) (hK : X.K = K := by rfl) : IxR X (rIxA K) := by
  subst hK
  exact IxR.or ix_seq (ix_dict hu)
end
/-! ### calls of built-ins of several kinds -/
section
variable {X : Cx}
theorem CallR.or {f : Value} {r r' : List V → Hp → VK → Prop} (h : CallR X f r) (h' : CallR X f r') : CallR X f (fun xs H Q => r xs H Q ∨ r' xs H Q) := fun pins s σ H xs us Q I rv q => by
  rcases q with q | q
  · exact h pins s σ H xs us Q I rv q
  · exact h' pins s σ H xs us Q I rv q
def rLenQ (K : PySem.W.Frag) : List V → Hp → VK → Prop := fun xs H Q => ∃ p ys, xs = [.ref p] ∧ (SqL K H p ys ∨ SqT K H p ys) ∧ Q (.int ys.length) H
def rLenS : List V → Hp → VK → Prop := fun xs H Q => ∃ z : Str, xs = [.str z] ∧ z.length ≤ sizeLine ∧ Q (.int z.length) H
def rLenD : List V → Hp → VK → Prop := fun xs H Q => ∃ a kvs, xs = [V.ref a] ∧ H a = some (.dK kvs) ∧ Q (.int kvs.length) H
def rLen2 : List V → Hp → VK → Prop := fun xs H Q => rLenS xs H Q ∨ rLenD xs H Q
def rLenA (K : PySem.W.Frag) : List V → Hp → VK → Prop := fun xs H Q => rLenQ K xs H Q ∨ rLen2 xs H Q
theorem call_lenA (K : PySem.W.Frag) (hK : X.K = K := by rfl) : CallR X (.builtin "len") (rLenA K) := by
  subst hK
  exact CallR.or call_len_seq (CallR.or call_len_str call_lenD)
def rAbs : List V → Hp → VK → Prop := fun xs H Q => ∃ i, xs = [.int i] ∧ Q (.int (if i < 0 then -i else i)) H
theorem call_absA : CallR X (.builtin "abs") rAbs := call_abs
def rInt1 : List V → Hp → VK → Prop := fun xs H Q => ∃ i, xs = [.int i] ∧ Q (.int i) H
def rInt2 : List V → Hp → VK → Prop := fun xs H Q => ∃ k, xs = [.bl k] ∧ Q (.int (if k then 1 else 0)) H
def rIntA : List V → Hp → VK → Prop := fun xs H Q => rInt1 xs H Q ∨ rInt2 xs H Q
theorem call_intA : CallR X (.type "int") rIntA := call_int1
def rStrI : List V → Hp → VK → Prop := fun xs H Q => ∃ i : Int, xs = [.int i] ∧ i.natAbs.log2 < 1920 ∧ Q (.str (toString i)) H
theorem call_strA : CallR X (.type "str") rStrI := call_str_int
def rTupQ (K : PySem.W.Frag) : List V → Hp → VK → Prop := fun xs H Q => ∃ p ys, xs = [.ref p] ∧ ((SqL K H p ys ∧ ∀ l, H l = none → Q (.ref l) (upd H l (.tup ys))) ∨ (SqT K H p ys ∧ Q (.ref p) H))
theorem call_tupleA (K : PySem.W.Frag) (hK : X.K = K := by rfl) : CallR X (.type "tuple") (rTupQ K) := by
  subst hK
  exact call_tuple_of
theorem call_allA (K : PySem.W.Frag) (hc : X.calm = true := by rfl) (hK : X.K = K := by rfl) : CallR X (.builtin "all") (rAll K) := by
  subst hK
  exact cr_all hc
end
/-! ### the written part told by its name -/
section
variable {X : Cx} {tg e o : Expr} {te ta : TE} {f : Str} {pos : Pos}
theorem pe_fldK (K : PySem.W.Frag) (he : PE X e te) (hb : attributeBase e f X.env (eval e X.env) = eval e X.env := by rfl) (hK : X.K = K := by rfl) : PE X (.Attribute e f pos) (tFld K te f) := by
  subst hK
  exact pe_fld he hb
theorem pi_listK (K : PySem.W.Frag) (hl : PE X e te) (hK : X.K = K := by rfl) : PI X tg e (iList K te) := by
  subst hK
  exact pi_list hl
theorem pi_tupK (K : PySem.W.Frag) (hl : PE X e te) (hK : X.K = K := by rfl) : PI X tg e (iTup K te) := by
  subst hK
  exact pi_tup hl
theorem sl_listK (K : PySem.W.Frag) (hK : X.K = K := by rfl) : SlR X (rSlL K) := by
  subst hK
  exact sl_list
end
end L2.DS
/-! What the operators of several kinds give. -/
namespace L2.DS
open PySem PySem.Spec PyProof.Rows
section
variable {S : SR} {n k ka kb kc : Nat} {te ta tb : TE} {tt : TT} {t : TA} {σ : L2.St} {K : PySem.W.Frag} {G : Hp} {R : HR} {x y z : V} {i j : Int} {s u : Str} {b c : Bool} {p : Addr} {xs ys : List V}
theorem ev_ifV (st : Stab S) (h : EvT S n kc tt σ G (fun b => b = c)) (h1 : c = true → Ev S (n + kc) ka ta σ G (IsV x)) (h2 : c = false → Ev S (n + kc) kb tb σ G (IsV y)) : Ev S n (kc + (ka + kb)) (tIf tt ta tb) σ G (IsV (if c then x else y)) :=
  ev_if st h (fun e => by rw [e]; exact h1 e) (fun e => by rw [e]; exact h2 e)
theorem v_add (st : Stab S) : RV S rAddA (.int i) (.int j) G (IsV (.int (i + j))) := rv_l (rv_l (rv_I0 st))
theorem v_adds (st : Stab S) (h : s.length + u.length ≤ sizeLine) : RV S rAddA (.str s) (.str u) G (IsV (.str (s ++ u))) := rv_l (rv_r (rv_val (fun H _ Q q => ⟨s, u, rfl, rfl, h, q⟩) st))
theorem v_sub (st : Stab S) : RV S rSubI (.int i) (.int j) G (IsV (.int (i - j))) := rv_I0 st
theorem v_mul (st : Stab S) (h : CMul i j) : RV S rMul (.int i) (.int j) G (IsV (.int (i * j))) := rv_l (rv_I st h)
theorem v_div (st : Stab S) (h : CDiv i j) : RV S rDiv (.int i) (.int j) G (IsV (.int (i / j))) := rv_l (rv_I st h)
theorem v_divW (st : Stab S) (h : CDivW i j) : RV S rDiv (.int i) (.int j) G (IsV (.int (i / j))) := rv_r (rv_I st h)
theorem v_mod (st : Stab S) (h : 0 < j) : RV S rMod (.int i) (.int j) G (IsV (.int (i % j))) := rv_I st h
theorem v_pow (st : Stab S) (h : CPow i j) : RV S (rI CPow fun i j => .int (i ^ j.toNat)) (.int i) (.int j) G (IsV (.int (i ^ j.toNat))) := rv_I st h
theorem v_lt (st : Stab S) : RV S rLtI (.int i) (.int j) G (IsV (.bl (decide (i < j)))) := rv_I0 st
theorem v_le (st : Stab S) : RV S rLeI (.int i) (.int j) G (IsV (.bl (decide (i ≤ j)))) := rv_I0 st
theorem v_gt (st : Stab S) : RV S rGtI (.int i) (.int j) G (IsV (.bl (decide (j < i)))) := rv_I0 st
theorem v_ge (st : Stab S) : RV S rGeI (.int i) (.int j) G (IsV (.bl (decide (j ≤ i)))) := rv_I0 st
theorem v_eq (st : Stab S) (h : scal x y = true) : RV S (rEqA K) x y G (IsV (.bl (decide (x = y)))) := rv_l (rv_eq st h)
theorem v_ne (st : Stab S) (h : scal x y = true) : RV S (rNeA K) x y G (IsV (.bl (!decide (x = y)))) := rv_l (rv_ne st h)
theorem v_eqI (st : Stab S) : RV S (rEqA K) (.int i) (.int j) G (IsV (.bl (decide (i = j)))) := by
  have e : decide (V.int i = V.int j) = decide (i = j) := by simp
  rw [← e]
  exact v_eq st rfl
theorem v_neI (st : Stab S) : RV S (rNeA K) (.int i) (.int j) G (IsV (.bl (!decide (i = j)))) := by
  have e : decide (V.int i = V.int j) = decide (i = j) := by simp
  rw [← e]
  exact v_ne st rfl
theorem v_eqB (st : Stab S) : RV S (rEqA K) (.bl b) (.bl c) G (IsV (.bl (decide (b = c)))) := by
  have e : decide (V.bl b = V.bl c) = decide (b = c) := by simp
  rw [← e]
  exact v_eq st rfl
theorem v_eqS (st : Stab S) : RV S (rEqA K) (.str s) (.str u) G (IsV (.bl (decide (s = u)))) := by
  have e : decide (V.str s = V.str u) = decide (s = u) := by simp
  rw [← e]
  exact v_eq st rfl
theorem v_neS (st : Stab S) : RV S (rNeA K) (.str s) (.str u) G (IsV (.bl (!decide (s = u)))) := by
  have e : decide (V.str s = V.str u) = decide (s = u) := by simp
  rw [← e]
  exact v_ne st rfl
theorem v_isN (st : Stab S) : RV S (fun x y H Q => y = .non ∧ Q (.bl (decide (x = .non))) H) x .non G (IsV (.bl (decide (x = .non)))) := rv_val (fun H _ Q q => ⟨rfl, q⟩) st
theorem v_notN (st : Stab S) : RV S (fun x y H Q => y = .non ∧ Q (.bl (!decide (x = .non))) H) x .non G (IsV (.bl (!decide (x = .non)))) := rv_val (fun H _ Q q => ⟨rfl, q⟩) st
theorem v_ixL (st : Stab S) (h : SqL K G p xs) (ha : atI xs i = some x) : RV S (rIxA K) (.ref p) (.int i) G (IsV x) := rv_l (rv_l (rv_ixL st h ha))
theorem v_ixT (st : Stab S) (h : SqT K G p xs) (ha : atI xs i = some x) : RV S (rIxA K) (.ref p) (.int i) G (IsV x) := rv_l (rv_r (rv_l (rv_ixT st h ha)))
theorem v_inL (st : Stab S) {neg : Bool} (h : SqL K G p xs) (hx : flatV x = true) (ha : xs.all flatV = true) : RV S (rInA K neg) x (.ref p) G (IsV (.bl (if neg then !inV x xs else inV x xs))) := rv_l (rv_val (fun H s Q q => ⟨p, xs, rfl, .inl (s.seq h), hx, ha, q⟩) st)
theorem v_inT (st : Stab S) {neg : Bool} (h : SqT K G p xs) (hx : flatV x = true) (ha : xs.all flatV = true) : RV S (rInA K neg) x (.ref p) G (IsV (.bl (if neg then !inV x xs else inV x xs))) := rv_l (rv_val (fun H s Q q => ⟨p, xs, rfl, .inr (same_t s h), hx, ha, q⟩) st)
theorem u_neg (st : Stab S) : RU S (rU fun i => .int (-i)) (.int i) G (IsV (.int (-i))) := ru_I st
theorem rc_val {r : List V → Hp → VK → Prop} {vs : List V} (h : ∀ H, Same G H → ∀ Q : VK, Q x H → r vs H Q) (st : Stab S) : RC S r vs G (IsV x) := fun n G1 H1 s0 s Q q => h H1 (s0.trans (st.sub s)) Q (q x G1 H1 (Stp.refl s) rfl)
theorem c_lenL (st : Stab S) (h : SqL K G p xs) : RC S (rLenA K) [.ref p] G (IsV (.int xs.length)) := rc_val (fun H s Q q => .inl ⟨p, xs, rfl, .inl (s.seq h), q⟩) st
theorem c_lenT (st : Stab S) (h : SqT K G p xs) : RC S (rLenA K) [.ref p] G (IsV (.int xs.length)) := rc_val (fun H s Q q => .inl ⟨p, xs, rfl, .inr (same_t s h), q⟩) st
theorem c_lenS (st : Stab S) (h : s.length ≤ sizeLine) : RC S (rLenA K) [.str s] G (IsV (.int s.length)) := rc_val (fun H _ Q q => .inr (.inl ⟨s, rfl, h, q⟩)) st
theorem c_abs (st : Stab S) : RC S rAbs [.int i] G (IsV (.int (if i < 0 then -i else i))) := rc_val (fun H _ Q q => ⟨i, rfl, q⟩) st
theorem c_int (st : Stab S) : RC S rIntA [.int i] G (IsV (.int i)) := rc_val (fun H _ Q q => .inl ⟨i, rfl, q⟩) st
theorem c_intB (st : Stab S) : RC S rIntA [.bl b] G (IsV (.int (if b then 1 else 0))) := rc_val (fun H _ Q q => .inr ⟨b, rfl, q⟩) st
theorem c_str (st : Stab S) (h : i.natAbs.log2 < 1920) : RC S rStrI [.int i] G (IsV (.str (toString i))) := rc_val (fun H _ Q q => ⟨i, rfl, h, q⟩) st
end
end L2.DS
/-! Loops and comprehensions. -/
namespace L2.DS
open PySem PySem.Spec PyProof.Rows
/-- a list of m things, the i-th as R i tells -/
def IsLR (K : PySem.W.Frag) (m : Nat) (R : Nat → HR) : HR := fun v G => ∃ p ys, v = .ref p ∧ SqL K G p ys ∧ ys.length = m ∧ ∀ i y, ys[i]? = some y → R i y G
instance (K m) (R : Nat → HR) [∀ i, Mon (R i)] : Mon (IsLR K m R) := ⟨fun s ⟨p, ys, e, h, l, r⟩ => ⟨p, ys, e, s.seq h, l, fun i y z => Mon.mon s (r i y z)⟩⟩
/-- .. newly made: it stood not in F -/
def IsLN (F : Hp) (m : Nat) (R : Nat → HR) : HR := fun v G => ∃ p ys, v = .ref p ∧ F p = none ∧ G p = some (.lst ys) ∧ ys.length = m ∧ ∀ i y, ys[i]? = some y → R i y G
instance (F m) (R : Nat → HR) [∀ i, Mon (R i)] : Mon (IsLN F m R) := ⟨fun s ⟨p, ys, e, f, h, l, r⟩ => ⟨p, ys, e, f, s _ _ h, l, fun i y z => Mon.mon s (r i y z)⟩⟩
theorem IsLN.lr {F : Hp} {K : PySem.W.Frag} {m : Nat} {R : Nat → HR} {v : V} {G : Hp} (h : IsLN F m R v G) : IsLR K m R v G := by
  obtain ⟨p, ys, e, _, h, l, r⟩ := h
  exact ⟨p, ys, e, SqL.of h, l, r⟩
theorem IsLN.wk {F F' : Hp} {m : Nat} {R : Nat → HR} {v : V} {G : Hp} (h : IsLN F m R v G) (s : Same F' F) : IsLN F' m R v G := by
  obtain ⟨p, ys, e, f, r⟩ := h
  exact ⟨p, ys, e, s.free f, r⟩
theorem isLR_V {K : PySem.W.Frag} {m : Nat} {f : Nat → V} {v : V} {G : Hp} (h : IsLR K m (fun i => IsV (f i)) v G) : IsL K ((List.range m).map f) v G := by
  obtain ⟨p, ys, e, h, l, r⟩ := h
  refine ⟨p, e, ?_⟩
  have z : ys = (List.range m).map f := by
    refine List.ext_getElem? fun i => ?_
    rw [List.getElem?_map]
    by_cases hi : i < m
    · rw [List.getElem?_range hi]
      have q : ys[i]? = some ys[i] := List.getElem?_eq_getElem (by omega)
      rw [q, show ys[i] = f i from r i _ q]
      rfl
    · rw [List.getElem?_eq_none (by omega), List.getElem?_eq_none (by rw [List.length_range]; omega)]
      rfl
  rw [← z]
  exact h
section
variable {S : SR} {n k c1 : Nat} {te el : TE} {tb u : TS} {σ : L2.St} {G H : Hp} {nx bk ct : L2.St → Hp → Prop} {rt : VK} {i : Nat} {K : PySem.W.Frag} {p : Addr} {xs : List V} {vs : List Nat}
/-- for x in xs -/
theorem q_forL (st : Stab S) (s : S n G H) (e : Ev S n k te σ G (IsV (.ref p))) (hq : SqL K G p xs) (c : Nat → Nat) (P : Nat → L2.St → Hp → Hp → Prop) (hc : c 0 = 0) (h0 : ∀ H', Kp S H H' → S (n + k) G H' → P 0 σ G H')
    (hs : ∀ j x σ' G' H', xs[j]? = some x → Same G G' → S (n + k + c j) G' H' → P j σ' G' H' →
      tb (Ends.mk (fun τ J => ∃ G2, Same G G2 ∧ S (n + k + c (j + 1)) G2 J ∧ P (j + 1) τ G2 J) rt (u (Ends.mk nx rt bk ct)) (fun τ J => ∃ G2, Same G G2 ∧ S (n + k + c (j + 1)) G2 J ∧ P (j + 1) τ G2 J)) (σ'.set i (some x)) H')
    (hd : ∀ σ' G' H', Same G G' → S (n + k + c xs.length) G' H' → P xs.length σ' G' H' → u (Ends.mk nx rt bk ct) σ' H') : tSeq (tFor (iList K te) (gName i) tb) u (Ends.mk nx rt bk ct) σ H := by
  refine e G H (Same.refl _) s _ fun v G1 H1 s1 ev => ?_
  have hs2 := st.anti s s1.s s1.g
  refine ⟨p, ev, ⟨xs, Same.seq (st.sub hs2) hq⟩, for_list (K := K) (a := p) (xs := xs) (fun j τ J => ∃ G2, Same G G2 ∧ S (n + k + c j) G2 J ∧ P j τ G2 J) ⟨G, Same.refl _, by rw [hc]; exact hs2, h0 H1 s1.k hs2⟩ (fun j τ J _ ⟨G2, a, b, _⟩ => (a.trans (st.sub b)).seq hq) (fun j x τ J hx ⟨G2, a, b, d⟩ => ?_) fun τ J ⟨G2, a, b, d⟩ => hd τ G2 J a b d⟩
  exact hs j x τ G2 J hx a b d
/-- for x in range(m) -/
theorem q_forR {m : Int} {ta : TA} (st : Stab S) (s : S n G H) (e : EvA S n k ta σ G (IsVs [.int m])) (c : Nat → Nat) (P : Nat → L2.St → Hp → Hp → Prop) (hc : c 0 = 0) (h1 : -(2 ^ 62) ≤ m) (h2 : m < 2 ^ 62) (h0 : ∀ H', Kp S H H' → S (n + k) G H' → P 0 σ G H')
    (hs : ∀ (j : Nat) σ' G' H', (j : Int) < m → Same G G' → S (n + k + c j) G' H' → P j σ' G' H' →
      tb (Ends.mk (fun τ J => ∃ G2, Same G G2 ∧ S (n + k + c (j + 1)) G2 J ∧ P (j + 1) τ G2 J) rt (u (Ends.mk nx rt bk ct)) (fun τ J => ∃ G2, Same G G2 ∧ S (n + k + c (j + 1)) G2 J ∧ P (j + 1) τ G2 J)) (σ'.set i (some (.int j))) H')
    (hd : ∀ σ' G' H', Same G G' → S (n + k + c m.toNat) G' H' → P m.toNat σ' G' H' → u (Ends.mk nx rt bk ct) σ' H') : tSeq (tFor (iRng1 ta) (gName i) tb) u (Ends.mk nx rt bk ct) σ H := by
  refine e G H (Same.refl _) s _ fun v G1 H1 s1 ev => ?_
  have hs2 := st.anti s s1.s s1.g
  refine ⟨m, ev, h1, h2, for_range (lo := 0) (n := m.toNat) (fun j τ J => ∃ G2, Same G G2 ∧ S (n + k + c j) G2 J ∧ P j τ G2 J) ⟨G, Same.refl _, by rw [hc]; exact hs2, h0 H1 s1.k hs2⟩ (fun j τ J hx ⟨G2, a, b, d⟩ => ?_) fun τ J ⟨G2, a, b, d⟩ => hd τ G2 J a b d⟩
  show tb _ (τ.set i (some (.int (0 + j)))) J
  rw [Int.zero_add]
  exact hs j τ G2 J (by omega) a b d
/-! ### comprehensions -/
/-- what holds while the list at D grows -/
def LcP (S : SR) (G2 H2 : Hp) (n c1 : Nat) (R : Nat → HR) (D : Addr) (j : Nat) (J : Hp) : Prop := ∃ G3 acc, Stp S (n + c1 * j) G2 H2 G3 J ∧ G3 D = none ∧ J D = some (.lst acc) ∧ acc.length = j ∧ ∀ j y, acc[j]? = some y → R j y G3
theorem lc_start (st : Stab S) {R : Nat → HR} {G2 H2 : Hp} {D : Addr} (a : S n G2 H2) (hD : H2 D = none) : LcP S G2 H2 n c1 R D 0 (upd H2 D (.lst [])) := by
  have gD : G2 D = none := (st.sub a).free hD
  have s1 : Same H2 (upd H2 D (.lst [])) := fun b o e => by
    rw [upd_ne (ne_of_none e hD)]
    exact e
  exact ⟨G2, [], ⟨Same.refl _, Kp.of s1, st.chg a hD a gD, fun _ _ h => .inl h⟩, gD, upd_same, rfl, fun j y z => by simp at z⟩
theorem lc_end (st : Stab S) {R : Nat → HR} [∀ i, Mon (R i)] {G1 H1 G2 H2 H : Hp} {D : Addr} {m : Nat} {Q : VK} (a : Stp S n G1 H1 G2 H2) (hD : H2 D = none) (h : LcP S G2 H2 n c1 R D m H)
    (q : ∀ v G' H', Stp S (n + c1 * m) G1 H1 G' H' → IsLN G1 m R v G' → Q v H') : Q (.ref D) H := by
  obtain ⟨G3, acc, s3, c, d, l, r⟩ := h
  have t := a.trans s3
  have g4 : Same G3 (upd G3 D (.lst acc)) := fun y o z => by
    rw [upd_ne (ne_of_none z c)]
    exact z
  refine q (.ref D) _ H ⟨t.g.trans g4, t.k, st.pub a.s hD s3.s c d, fun b o e => ?_⟩ ⟨D, acc, rfl, t.g.free c, upd_same, l, fun j y z => Mon.mon g4 (r j y z)⟩
  by_cases hb : b = D
  · rw [hb]
    exact .inr (a.k.v D hD)
  · rw [upd_ne hb] at e
    exact t.n b o e
theorem lc_turn (st : Stab S) {R : Nat → HR} [∀ i, Mon (R i)] {G2 H2 J : Hp} {D : Addr} {j : Nat} {el : TE} {τ : L2.St} {Nx : Hp → Prop} (a : S n G2 H2) (hD : H2 D = none) (h : LcP S G2 H2 n c1 R D j J) (hj : j < 100000)
    (hs : ∀ G', Same G2 G' → Ev S (n + c1 * j) c1 el τ G' (R j)) (hN : ∀ J', LcP S G2 H2 n c1 R D (j + 1) J' → Nx J') :
    tYes τ J fun b H3 => if b = true then el τ H3 fun y H4 => ∃ acc, H4 D = some (.lst acc) ∧ acc.length < sizeLine ∧ Nx (upd H4 D (.lst (acc ++ [y]))) else Nx H3 := by
  obtain ⟨G3, acc, s3, c, d, l, r⟩ := h
  show if true = true then el τ J (fun y H4 => ∃ acc, H4 D = some (.lst acc) ∧ acc.length < sizeLine ∧ Nx (upd H4 D (.lst (acc ++ [y])))) else Nx J
  rw [if_pos rfl]
  refine hs G3 s3.g G3 J (Same.refl _) s3.s _ fun y G4 J4 s4 ry => ?_
  have d4 : J4 D = some (.lst acc) := s4.k.k D _ (st.fre a hD) d
  have c4 : G4 D = none := by
    cases e : G4 D with
    | none => rfl
    | some o =>
      rcases s4.n D o e with q | q
      · rw [c] at q
        cases q
      · rw [d] at q
        cases q
  have t := s3.trans s4
  refine ⟨acc, d4, Nat.lt_of_lt_of_le (show acc.length < 100000 by omega) (by decide), hN _ ⟨G4, acc ++ [y], ⟨t.g, ⟨fun b o hm e => ?_, fun b e => ?_⟩, ?_, t.n⟩, c4, upd_same, by rw [List.length_append, l]; rfl, fun i z hz => ?_⟩⟩
  · rw [upd_ne (ne_of_none e hD)]
    exact t.k.k b o hm e
  · by_cases hb : b = D
    · rw [hb]
      exact hD
    · rw [upd_ne hb] at e
      exact t.k.v b e
  · have z := st.chg (o := .lst (acc ++ [y])) a hD t.s c4
    rw [Nat.mul_succ, ← Nat.add_assoc]
    exact z
  · by_cases hi : i < acc.length
    · rw [List.getElem?_append_left hi] at hz
      exact Mon.mon s4.g (r i z hz)
    · rw [List.getElem?_append_right (by omega)] at hz
      by_cases h0 : i - acc.length = 0
      · rw [h0] at hz
        have e : y = z := Option.some.inj hz
        rw [← e, show i = j by omega]
        exact ry
      · rw [List.getElem?_eq_none (by show 1 ≤ i - acc.length; omega)] at hz
        cases hz
/-- [el for x in xs] -/
theorem ev_lcL (st : Stab S) (R : Nat → HR) [∀ i, Mon (R i)] (e : Ev S n k te σ G (IsV (.ref p))) (hq : SqL K G p xs) (hl : xs.length ≤ 100000)
    (hs : ∀ j x G', xs[j]? = some x → Same G G' → Ev S (n + k + c1 * j) c1 el ((wipe σ vs).set i (some x)) G' (R j)) (hw : ∀ x : V, wipe ((wipe σ vs).set i (some x)) vs = wipe σ vs) :
    Ev S n (k + c1 * xs.length) (tLc (iList K te) (gName i) tYes el vs) σ G (IsLN G xs.length R) := fun G1 H1 s0 s Q q =>
  e G1 H1 s0 s _ fun v G2 H2 s2 ev => ⟨p, ev, ⟨xs, Same.seq (s0.trans (s2.g.trans (st.sub s2.s))) hq⟩, fun D hD =>
    lc_list (K := K) (a := p) (xs := xs) (LcP S G2 H2 (n + k) c1 R D) (lc_start st s2.s hD) (fun j J _ ⟨G3, acc, a, _⟩ => ((s0.trans s2.g).trans (a.g.trans (st.sub a.s))).seq hq)
      (fun j x J hx h => ⟨hw x, lc_turn st s2.s hD h (by have := (List.getElem?_eq_some_iff.mp hx).1; omega) (fun G' g => hs j x G' hx ((s0.trans s2.g).trans g)) fun _ h => h⟩)
      fun J h => lc_end st s2 hD h fun v G' H' a b => q v G' H' (by rw [← Nat.add_assoc]; exact a) (b.wk s0)⟩
/-- [el for x in range(m)] -/
theorem ev_lcR {m : Int} {ta : TA} (st : Stab S) (R : Nat → HR) [∀ i, Mon (R i)] (e : EvA S n k ta σ G (IsVs [.int m])) (h1 : -(2 ^ 62) ≤ m) (hl : m ≤ 100000)
    (hs : ∀ (j : Nat) G', (j : Int) < m → Same G G' → Ev S (n + k + c1 * j) c1 el ((wipe σ vs).set i (some (.int j))) G' (R j)) (hw : ∀ x : V, wipe ((wipe σ vs).set i (some x)) vs = wipe σ vs) :
    Ev S n (k + c1 * m.toNat) (tLc (iRng1 ta) (gName i) tYes el vs) σ G (IsLN G m.toNat R) := fun G1 H1 s0 s Q q =>
  e G1 H1 s0 s _ fun v G2 H2 s2 ev => ⟨m, ev, h1, by omega, fun D hD =>
    lc_range (lo := 0) (n := m.toNat) (LcP S G2 H2 (n + k) c1 R D) (lc_start st s2.s hD)
      (fun j J hx h => by
        show wipe ((wipe σ vs).set i (some (.int (0 + j)))) vs = _ ∧ tYes ((wipe σ vs).set i (some (.int (0 + j)))) J _
        rw [Int.zero_add]
        exact ⟨hw _, lc_turn st s2.s hD h (by omega) (fun G' g => hs j G' (by omega) ((s0.trans s2.g).trans g)) fun _ h => h⟩)
      fun J h => lc_end st s2 hD h fun v G' H' a b => q v G' H' (by rw [← Nat.add_assoc]; exact a) (b.wk s0)⟩
end
end L2.DS
/-! The script's source: a dict with its list of cells; what a pick leaves. -/
namespace L2.DS
open PySem PySem.Spec PyProof.Rows
theorem tC_run {x : V} {σ : L2.St} {H : Hp} {Q : VK} (h : Q x H) : tC x σ H Q := h
theorem tVar_run {i : Nat} {x : V} {σ : L2.St} {H : Hp} {Q : VK} (e : σ[i]? = some (some x)) (h : Q x H) : tVar i σ H Q := ⟨x, e, h⟩
def srcK (cl : Addr) (l m t : Int) : List (Key × V) := [(.inr ("cells" : Str), .ref cl), (.inr ("left" : Str), .int l), (.inr ("mixed" : Str), .int m), (.inr ("turn" : Str), .int t)]
def srcD (cl : Addr) (l m t : Int) : HO := .dK (srcK cl l m t)
theorem ne_lc : ¬ (Sum.inr ("cells" : Str) : Key) = .inr ("left" : Str) := by decide +kernel
theorem ne_mc : ¬ (Sum.inr ("cells" : Str) : Key) = .inr ("mixed" : Str) := by decide +kernel
theorem ne_tc : ¬ (Sum.inr ("cells" : Str) : Key) = .inr ("turn" : Str) := by decide +kernel
theorem ne_ml : ¬ (Sum.inr ("left" : Str) : Key) = .inr ("mixed" : Str) := by decide +kernel
theorem ne_tl : ¬ (Sum.inr ("left" : Str) : Key) = .inr ("turn" : Str) := by decide +kernel
theorem ne_tm : ¬ (Sum.inr ("mixed" : Str) : Key) = .inr ("turn" : Str) := by decide +kernel
theorem src_c {cl : Addr} {l m t : Int} : valV (srcK cl l m t) (.inr ("cells" : Str)) = some (.ref cl) := valV_pos rfl
theorem src_l {cl : Addr} {l m t : Int} : valV (srcK cl l m t) (.inr ("left" : Str)) = some (.int l) := (valV_neg ne_lc).trans (valV_pos rfl)
theorem src_m {cl : Addr} {l m t : Int} : valV (srcK cl l m t) (.inr ("mixed" : Str)) = some (.int m) := (valV_neg ne_mc).trans ((valV_neg ne_ml).trans (valV_pos rfl))
theorem src_t {cl : Addr} {l m t : Int} : valV (srcK cl l m t) (.inr ("turn" : Str)) = some (.int t) := (valV_neg ne_tc).trans ((valV_neg ne_tl).trans ((valV_neg ne_tm).trans (valV_pos rfl)))
theorem put_l {cl : Addr} {l m t l' : Int} : putK (srcK cl l m t) (.inr ("left" : Str)) (.int l') = srcK cl l' m t := by
  unfold putK
  rw [if_pos (by rw [valV_any, src_l]; rfl)]
  unfold srcK
  simp only [List.map_cons, List.map_nil, if_neg ne_lc, if_neg (fun z => ne_ml (Eq.symm z)), if_neg (fun z => ne_tl (Eq.symm z)), if_true]
theorem put_t {cl : Addr} {l m t t' : Int} : putK (srcK cl l m t) (.inr ("turn" : Str)) (.int t') = srcK cl l m t' := by
  unfold putK
  rw [if_pos (by rw [valV_any, src_t]; rfl)]
  unfold srcK
  simp only [List.map_cons, List.map_nil, if_neg ne_tc, if_neg ne_tl, if_neg ne_tm, if_true]
theorem src_len {cl : Addr} {l m t : Int} : (srcK cl l m t).length < sizeLine := by rw [sizeLine_eq]; show 4 < _; decide
/-- the source stands in the heap, n picks behind it -/
def SrcAt (st cl : Addr) (n : Nat) (H : Hp) : Prop := ∃ (cs : List Int) (l m t : Int), H st = some (srcD cl l m t) ∧ H cl = some (.lst (cs.map V.int)) ∧ (∀ c ∈ cs, 0 ≤ c) ∧ 0 ≤ l ∧ 0 ≤ m ∧ m < 2147483629 ∧ 0 ≤ t ∧ t ≤ n
theorem SrcAt.same {st cl : Addr} {n m : Nat} {H H' : Hp} (h : SrcAt st cl n H) (s : Same H H') (hn : n ≤ m) : SrcAt st cl m H' := by
  obtain ⟨cs, l, x, t, a, b, c, d, e, f, g, i⟩ := h
  exact ⟨cs, l, x, t, s _ _ a, s _ _ b, c, d, e, f, g, by omega⟩
/-- what stands is G; the source may change -/
def Src (st cl : Addr) : SR := ⟨fun n G H => Same G H ∧ G st = none ∧ G cl = none ∧ SrcAt st cl n H, fun a => a = st ∨ a = cl⟩
theorem SrcAt.ne {st cl : Addr} {n : Nat} {H : Hp} {D : Addr} (h : SrcAt st cl n H) (d : H D = none) : st ≠ D ∧ cl ≠ D := by
  obtain ⟨cs, l, x, t, a, b, _⟩ := h
  exact ⟨ne_of_none a d, ne_of_none b d⟩
theorem none_upd {G : Hp} {a D : Addr} {o : HO} (h : G a = none) (n : a ≠ D) : upd G D o a = none := by rw [upd_ne n]; exact h
theorem srcAt_upd {st cl : Addr} {n : Nat} {H : Hp} {D : Addr} {o : HO} (h : SrcAt st cl n H) (n1 : st ≠ D) (n2 : cl ≠ D) : SrcAt st cl n (upd H D o) := by
  obtain ⟨cs, l, x, t, a, b, r⟩ := h
  exact ⟨cs, l, x, t, by rw [upd_ne n1]; exact a, by rw [upd_ne n2]; exact b, r⟩
theorem grow_none {G H G' H' : Hp} {a : Addr} (g : Grow G H G' H') (h : G a = none) {o : HO} (e : H a = some o) : G' a = none := by
  cases q : G' a with
  | none => rfl
  | some u =>
    rcases g.n a u q with z | z
    · rw [h] at z
      cases z
    · rw [e] at z
      cases z
theorem stabS (st cl : Addr) : Stab (Src st cl) where
  sub := fun h => h.1
  wk := fun h hn => ⟨h.1, h.2.1, h.2.2.1, h.2.2.2.same (Same.refl _) hn⟩
  grow := fun {n G H G' H'} h g => by
    obtain ⟨h1, h2, h3, h4⟩ := h
    obtain ⟨cs, l, x, t, a, b, r⟩ := id h4
    exact ⟨g.s, grow_none g h2 a, grow_none g h3 b, h4.same g.h (Nat.le_refl _)⟩
  anti := fun h h' s => ⟨s.trans h'.1, h.2.1, h.2.2.1, h'.2.2.2⟩
  chg := fun {n m G H G' H' D o} h d h' g => by
    obtain ⟨n1, n2⟩ := h.2.2.2.ne d
    exact ⟨fun b u e => by rw [upd_ne (ne_of_none e g)]; exact h'.1 b u e, h'.2.1, h'.2.2.1, srcAt_upd h'.2.2.2 n1 n2⟩
  pub := fun {n m G H G' H' D o} h d h' g e => by
    obtain ⟨n1, n2⟩ := h.2.2.2.ne d
    exact ⟨fun b u z => by
      by_cases hb : b = D
      · rw [hb, upd_same] at z
        rw [hb, ← z]
        exact e
      · rw [upd_ne hb] at z
        exact h'.1 b u z, none_upd h'.2.1 n1, none_upd h'.2.2.1 n2, h'.2.2.2⟩
  fre := fun h d z => by
    obtain ⟨n1, n2⟩ := h.2.2.2.ne d
    rcases z with rfl | rfl
    · exact n1 rfl
    · exact n2 rfl
/-- a def that draws of the source: P source arguments so-far picks what-stands result -/
def spS (P : Addr → List V → Nat → Nat → Hp → HR → Prop) : Sp := fun vs H Q _ => ∃ st cl n k G R, Src st cl n G H ∧ P st vs n k G R ∧ ∀ v G' H', Stp (Src st cl) (n + k) G H G' H' → R v G' → Q v H'
section
variable {st cl : Addr} {n k ka kb : Nat} {t : TA} {te : TE} {σ : L2.St} {G : Hp} {R : HR} {RA : HRs}
theorem ev_callS {P : Addr → List V → Nat → Nat → Hp → HR → Prop} {dvs : List V} {E : XK} (h : EvA (Src st cl) n ka t σ G RA) (hp : ∀ vs G', Same G G' → RA vs G' → P st (vs ++ dvs) (n + ka) kb G' R) : Ev (Src st cl) n (ka + kb) (tCall (spS P) dvs E t) σ G R := fun G1 H1 s0 s Q q =>
  h G1 H1 s0 s _ fun vs G2 H2 s2 e => ⟨st, cl, n + ka, kb, G2, R, s2.s, hp vs G2 (s0.trans s2.g) e, fun v G' H' g r => q v G' H' (s2.trans g).up r⟩
theorem ev_callSV {P : Addr → List V → Nat → Nat → Hp → HR → Prop} {dvs ws : List V} {E : XK} (h : EvA (Src st cl) n ka t σ G (IsVs ws)) (hp : ∀ G', Same G G' → P st (ws ++ dvs) (n + ka) kb G' R) : Ev (Src st cl) n (ka + kb) (tCall (spS P) dvs E t) σ G R :=
  ev_callS h fun vs G' s e => by
    rw [show vs = ws from e]
    exact hp G' s
end
/-- the n-th pick of many -/
def PPick : Addr → List V → Nat → Nat → Hp → HR → Prop := fun st vs n k _ R => ∃ many : Int, vs = [.ref st, .int many] ∧ many < 2 ^ 2000 ∧ (many > 10 ^ 7 → n < 2 ^ 60) ∧ k = 1 ∧ R = IsI fun r => 0 ≤ r ∧ (r < many ∨ (many < 2 ∧ r = 0))
def sp_pick : Sp := spS PPick
theorem ev_pick {st cl : Addr} {n ka : Nat} {t : TA} {σ : L2.St} {G : Hp} {many : Int} {E : XK} (h : EvA (Src st cl) n ka t σ G (IsVs [.ref st, .int many])) (h1 : 1 ≤ many) (h2 : many ≤ 10 ^ 7) : Ev (Src st cl) n (ka + 1) (tCall sp_pick [] E t) σ G (IsI fun r => 0 ≤ r ∧ r < many) :=
  ev_callSV h fun G' s => ⟨many, rfl, Int.lt_of_le_of_lt h2 (by decide +kernel), fun z => by omega, rfl, by
    have e : (fun r : Int => 0 ≤ r ∧ (r < many ∨ (many < 2 ∧ r = 0))) = fun r => 0 ≤ r ∧ r < many := by
      funext r
      exact propext ⟨fun ⟨a, b⟩ => ⟨a, by omega⟩, fun ⟨a, b⟩ => ⟨a, .inl b⟩⟩
    rw [e]⟩
/-- the source made of a list of whole numbers: what is new stands at st and cl -/
def sp_source (K : PySem.W.Frag) : Sp := fun vs H Q _ => ∃ (p : Addr) (ns : List Int), vs = [.ref p] ∧ SqL K H p (ns.map V.int) ∧ ns.length ≤ 100000 ∧ ∀ st cl H', Same H H' → H st = none → H cl = none → SrcAt st cl 0 H' → Q (.ref st) H'
/-! ### dicts by keys of text -/
section
variable {S : SR} {K : PySem.W.Frag} {G : Hp} {a : Addr} {kvs : List (Key × V)} {k : Key} {v : V}
theorem v_ixD (st : Stab S) (h : G a = some (.dK kvs)) (hv : valV kvs k = some v) : RV S (rIxA K) (.ref a) (kV k) G (IsV v) := rv_r (rv_val (fun H s Q q => ⟨a, v, rfl, by rw [← hv]; exact DGet.k (s _ _ h), q⟩) st)
theorem v_ixDs (st : Stab S) {x : Str} (h : G a = some (.dK kvs)) (hv : valV kvs (.inr x) = some v) : RV S (rIxA K) (.ref a) (.str x) G (IsV v) := v_ixD (k := .inr x) st h hv
end
/-- names that are built in -/
structure Bi (mg : Str → Option Value) : Prop where
  z_int : mg "int" = none
  z_abs : mg "abs" = none
  z_range : mg "range" = none
  z_len : mg "len" = none
  z_isinstance : mg "isinstance" = none
  z_bool : mg "bool" = none
  z_str : mg "str" = none
  z_list : mg "list" = none
  z_tuple : mg "tuple" = none
  z_dict : mg "dict" = none
  z_enumerate : mg "enumerate" = none
  z_zip : mg "zip" = none
  z_reversed : mg "reversed" = none
  z_ValueError : mg "ValueError" = none
  z_LookupError : mg "LookupError" = none
  z_KeyError : mg "KeyError" = none
  z_Exception : mg "Exception" = none
  z_super : mg "super" = none
  z_sum : mg "sum" = none
  z_any : mg "any" = none
  z_all : mg "all" = none
  z_sorted : mg "sorted" = none
  z_max : mg "max" = none
  z_min : mg "min" = none
  z_NotImplementedError : mg "NotImplementedError" = none
  z_set : mg "set" = none
  z_repr : mg "repr" = none
end L2.DS
/-! New lists that grow; isinstance of data; data that is alike. -/
namespace L2.DS
open PySem PySem.Spec PyProof.Rows
theorem kp_new {S : SR} {H0 H : Hp} {p : Addr} {o : HO} (k : Kp S H0 H) (h : H0 p = none) : Kp S H0 (upd H p o) := ⟨fun b u m e => by
  rw [upd_ne (ne_of_none e h)]
  exact k.k b u m e, fun b e => by
  by_cases hb : b = p
  · rw [hb]
    exact h
  · rw [upd_ne hb] at e
    exact k.v b e⟩
section
variable {S : SR} {n n0 k : Nat} {t : TA} {u : TS} {σ : L2.St} {G H G0 H0 : Hp} {nx bk ct : L2.St → Hp → Prop} {rt : VK} {i j : Nat} {K : PySem.W.Frag} {p : Addr} {vs xs : List V} {x : V}
/-- x = [..], a list that shall grow -/
theorem q_newL (st : Stab S) (s : S n G H) (e : EvA S n k t σ G (IsVs vs)) (hl : vs.length ≤ 100000) (h : ∀ p H', H p = none → G p = none → Kp S H H' → S (n + k) G H' → H' p = some (.lst vs) → u (Ends.mk nx rt bk ct) (σ.set i (some (.ref p))) H') :
    tSeq (tAsg (tLst t) (gName i)) u (Ends.mk nx rt bk ct) σ H := e G H (Same.refl _) s _ fun ws G1 H1 s1 ev => by
  obtain rfl : ws = vs := ev
  refine ⟨Nat.le_trans hl (by decide), fun p hp => ?_⟩
  have s2 := st.anti s s1.s s1.g
  have gp := (st.sub s2).free hp
  exact h p _ (s1.k.v p hp) gp (kp_new s1.k (s1.k.v p hp)) (st.chg s2 hp s2 gp) upd_same
/-- p.append(x), p new since H0 -/
theorem q_app (st : Stab S) (s0 : S n0 G0 H0) (hp0 : H0 p = none) (k0 : Kp S H0 H) (s : S n G H) (hG : G p = none) (hp : H p = some (.lst xs)) (hl : xs.length < 100000) (hv : σ[j]? = some (some (.ref p))) (e : EvA S n k t σ G (IsVs [x]))
    (h : ∀ H', Kp S H0 H' → S (n + k) G H' → H' p = some (.lst (xs ++ [x])) → u (Ends.mk nx rt bk ct) σ H') : tSeq (tDrop (tBM K "list" rAppend (tVar j) t)) u (Ends.mk nx rt bk ct) σ H := by
  refine ⟨_, hv, .inl ⟨rfl, _, SqL.of hp⟩, e G H (Same.refl _) s _ fun ws G1 H1 s1 ev => ?_⟩
  obtain rfl : ws = [x] := ev
  have hp1 := s1.k.k p _ (st.fre s0 hp0) hp
  exact ⟨p, xs, x, rfl, rfl, hp1, Nat.lt_of_lt_of_le hl (by decide), h _ (kp_new (k0.trans s1.k) hp0) (st.chg s0 hp0 (st.anti s s1.s s1.g) hG) upd_same⟩
theorem st_pub (st : Stab S) (s0 : S n0 G0 H0) (hp0 : H0 p = none) (s : S n G H) (hG : G p = none) {o : HO} (hp : H p = some o) : S n (upd G p o) H ∧ Same G (upd G p o) := ⟨st.pub s0 hp0 s hG hp, fun b u e => by
  rw [upd_ne (ne_of_none e hG)]
  exact e⟩
/-- a tuple, a list newly made -/
def IsNew (F : Hp) (o : HO) : HR := fun v G => ∃ p, v = .ref p ∧ F p = none ∧ G p = some o
instance (F o) : Mon (IsNew F o) := ⟨fun s ⟨p, e, f, h⟩ => ⟨p, e, f, s _ _ h⟩⟩
theorem ev_tupN (st : Stab S) (h : EvA S n k t σ G (IsVs vs)) (hl : vs.length ≤ 100000) : Ev S n k (tTup t) σ G (IsNew G (.tup vs)) := fun G1 H1 s0 s Q q =>
  h G1 H1 s0 s _ fun ws G2 H2 s2 e => by
    obtain rfl : ws = vs := e
    exact ⟨Nat.le_trans hl (by decide), fun p hp => q (.ref p) _ _ (s2.trans (st.new s2.s hp)) ⟨p, rfl, (s0.trans s2.g).free ((st.sub s2.s).free hp), upd_same⟩⟩
theorem ev_lstN (st : Stab S) (h : EvA S n k t σ G (IsVs vs)) (hl : vs.length ≤ 100000) : Ev S n k (tLst t) σ G (IsNew G (.lst vs)) := fun G1 H1 s0 s Q q =>
  h G1 H1 s0 s _ fun ws G2 H2 s2 e => by
    obtain rfl : ws = vs := e
    exact ⟨Nat.le_trans hl (by decide), fun p hp => q (.ref p) _ _ (s2.trans (st.new s2.s hp)) ⟨p, rfl, (s0.trans s2.g).free ((st.sub s2.s).free hp), upd_same⟩⟩
end
/-! ### isinstance of data -/
def tyS : PyData → String
  | .none => "NoneType" | .bool _ => "bool" | .int _ => "int" | .str _ => "str" | .list _ => "list" | .tuple _ => "tuple" | .dict _ => "dict"
theorem tyx_L {K : PySem.W.Frag} {G : Hp} {p : Addr} {xs : List V} (h : SqL K G p xs) : TyX K G (.ref p) (.type "list") := by
  rcases h with (h | ⟨o, h⟩) | ⟨o, its, n, h, c, _⟩
  · exact .base (.lst h)
  · exact .base (.frz h)
  · exact .kList h c
theorem tyx_T {K : PySem.W.Frag} {G : Hp} {p : Addr} {xs : List V} (h : SqT K G p xs) : TyX K G (.ref p) (.type "tuple") := by
  rcases h with (h | ⟨o, h⟩) | ⟨o, its, n, h, c, _⟩
  · exact .base (.tup h)
  · exact .fTuple h
  · exact .kTuple h c
theorem tyx_of {K : PySem.W.Frag} {G : Hp} : ∀ {v : V} {d : PyData}, Dp K G v d → TyX K G v (.type (tyS d))
  | _, _, .non => .base .non
  | _, _, .bl b => .base (.bl b)
  | _, _, .int i => .base (.int i)
  | _, _, .str s => .base (.str s)
  | _, _, .lst h _ => tyx_L h
  | _, _, .tup h _ => tyx_T h
theorem dp_nodict {K : PySem.W.Frag} {G : Hp} {v : V} {d : PyData} (h : Dp K G v d) : tyS d ∈ ["NoneType", "bool", "int", "str", "list", "tuple"] := by
  cases h <;> simp [tyS]
def isiB (T c : String) : Bool := (kitB T c).getD false
theorem kitB_all : ∀ T ∈ ["NoneType", "bool", "int", "str", "list", "tuple"], ∀ c ∈ ["bool", "str", "list", "tuple", "dict", "int"], kitB T c = some (isiB T c) := by decide +kernel
theorem kitB_d {K : PySem.W.Frag} {G : Hp} {v : V} {d : PyData} {c : String} (h : Dp K G v d) (hc : c ∈ ["bool", "str", "list", "tuple", "dict", "int"]) : kitB (tyS d) c = some (isiB (tyS d) c) := kitB_all _ (dp_nodict h) _ hc
theorem call_isiTA {X : Cx} (K : PySem.W.Frag) (hK : X.K = K := by rfl) : CallR X (.builtin "isinstance") (rIsiT K) := by
  subst hK
  exact call_isiT
section
variable {S : SR} {K : PySem.W.Frag} {G : Hp} {x : V} {d : PyData} {c : String}
theorem atI_nat {xs : List V} {j : Nat} {v : V} (h : xs[j]? = some v) : atI xs (j : Int) = some v := by
  have hj := (List.getElem?_eq_some_iff.mp h).1
  have h1 : ixN xs.length ((j : Nat) : Int) = some j := by
    unfold ixN
    rw [if_pos (by omega), if_pos (by omega)]
    all_goals rfl
  unfold atI
  rw [h1]
  exact h
end
/-- no list or tuple in it is long -/
inductive Sml : PyData → Prop where
  | non : Sml .none
  | bl (b : Bool) : Sml (.bool b)
  | int (i : Int) : Sml (.int i)
  | str (s : Str) : Sml (.str s)
  | lst {ds : List PyData} (h : ds.length ≤ 100000) (a : ∀ d ∈ ds, Sml d) : Sml (.list ds)
  | tup {ds : List PyData} (h : ds.length ≤ 100000) (a : ∀ d ∈ ds, Sml d) : Sml (.tuple ds)
theorem Sml.len {d : PyData} {ds : List PyData} (h : Sml d) (e : d = .list ds ∨ d = .tuple ds) : ds.length ≤ 100000 ∧ ∀ x ∈ ds, Sml x := by
  rcases e with rfl | rfl
  · cases h with
    | lst h a => exact ⟨h, a⟩
  · cases h with
    | tup h a => exact ⟨h, a⟩
end L2.DS
/-! One object that is being made: all else stands. -/
namespace L2.DS
open PySem PySem.Spec PyProof.Rows
/-- all but x stays -/
def MX (x : Addr) : SR := ⟨fun _ _ _ => True, fun a => a = x⟩
/-- G stands, at x stands o; since the heap was H0, with G0 standing, all but x stayed -/
def Own (G0 H0 : Hp) (x : Addr) (o : HO) : SR := ⟨fun _ G H => Same G H ∧ G x = none ∧ H x = some o ∧ Kp (MX x) H0 H ∧ Same G0 G ∧ ∀ b u, G b = some u → G0 b = some u ∨ H0 b = none, fun _ => False⟩
theorem stabO (G0 H0 : Hp) (x : Addr) (o : HO) : Stab (Own G0 H0 x o) where
  sub := fun h => h.1
  wk := fun h _ => h
  grow := fun {n G H G' H'} h g => ⟨g.s, grow_none g h.2.1 h.2.2.1, g.h _ _ h.2.2.1, h.2.2.2.1.trans (Kp.of g.h), h.2.2.2.2.1.trans g.g, fun b u e => by
    rcases g.n b u e with z | z
    · exact h.2.2.2.2.2 b u z
    · exact .inr (h.2.2.2.1.v b z)⟩
  anti := fun h h' s => ⟨s.trans h'.1, h.2.1, h'.2.2.1, h'.2.2.2.1, h.2.2.2.2.1, h.2.2.2.2.2⟩
  chg := fun {n m G H G' H' D u} h d h' g => by
    have hx : x ≠ D := ne_of_none h.2.2.1 d
    refine ⟨fun b v e => by rw [upd_ne (ne_of_none e g)]; exact h'.1 b v e, h'.2.1, by rw [upd_ne hx]; exact h'.2.2.1, ⟨fun b v nb e => ?_, fun b e => ?_⟩, h'.2.2.2.2.1, h'.2.2.2.2.2⟩
    · rw [upd_ne (ne_of_none e (h.2.2.2.1.v D d))]
      exact h'.2.2.2.1.k b v nb e
    · by_cases hb : b = D
      · rw [hb]
        exact h.2.2.2.1.v D d
      · rw [upd_ne hb] at e
        exact h'.2.2.2.1.v b e
  pub := fun {n m G H G' H' D u} h d h' g e => by
    have hx : x ≠ D := ne_of_none h.2.2.1 d
    have hD0 := h.2.2.2.1.v D d
    refine ⟨fun b v z => ?_, none_upd h'.2.1 hx, h'.2.2.1, h'.2.2.2.1, fun b v z => ?_, fun b v z => ?_⟩
    · by_cases hb : b = D
      · rw [hb, upd_same] at z
        rw [hb, ← z]
        exact e
      · rw [upd_ne hb] at z
        exact h'.1 b v z
    · have := h'.2.2.2.2.1 b v z
      rw [upd_ne (ne_of_none this g)]
      exact this
    · by_cases hb : b = D
      · rw [hb]
        exact .inr hD0
      · rw [upd_ne hb] at z
        exact h'.2.2.2.2.2 b v z
  fre := fun _ _ z => z
theorem own_start {G H : Hp} {x : Addr} {o : HO} (s : Same G H) (g : G x = none) (h : H x = some o) (n : Nat) : Own G H x o n G H := ⟨s, g, h, Kp.refl H, Same.refl G, fun _ _ e => .inl e⟩
/-- the object changes -/
theorem own_upd {G0 H0 G H : Hp} {x : Addr} {o u : HO} {n m : Nat} (h : Own G0 H0 x o n G H) : Own G0 H0 x u m G (upd H x u) := ⟨fun b v e => by
  have hb : b ≠ x := fun z => by
    rw [z, h.2.1] at e
    cases e
  rw [upd_ne hb]
  exact h.1 b v e, h.2.1, upd_same, kp_upd' h.2.2.2.1, h.2.2.2.2.1, h.2.2.2.2.2⟩
where
  kp_upd' {H0 H : Hp} {x : Addr} {u : HO} (k : Kp (MX x) H0 H) : Kp (MX x) H0 (upd H x u) := ⟨fun b v nb e => by
    rw [upd_ne nb]
    exact k.k b v nb e, fun b e => by
    by_cases hb : b = x
    · rw [hb, upd_same] at e
      cases e
    · rw [upd_ne hb] at e
      exact k.v b e⟩
/-- what stands, without x -/
def del (G : Hp) (x : Addr) : Hp := fun b => if b = x then none else G b
/-- what a promise of a def that fills an object in tells: P class fields arguments what-stands result; the result: object class fields what-stands -/
abbrev OR := Addr → Addr → List (Str × V) → Hp → Prop
def spI (P : Addr → List (Str × V) → List V → Hp → OR → Prop) : Sp := fun vs H Q _ => ∃ x C dx fs rest G R, vs = .ref x :: rest ∧ H x = some (.ins C dx fs) ∧ Same G H ∧ G x = none ∧ P C fs rest G R ∧
  ∀ fs' G' H', Own G H x (.ins C dx fs') 0 G' H' → R x C fs' G' → Q .non H'
/-- an object as R tells -/
def IsO (C : Addr) (R : OR) : HR := fun v G => ∃ x dx fs G', v = .ref x ∧ G' x = none ∧ Same (upd G' x (.ins C dx fs)) G ∧ R x C fs G'
instance (C R) : Mon (IsO C R) := ⟨fun s ⟨x, dx, fs, G', e, h, t, r⟩ => ⟨x, dx, fs, G', e, h, t.trans s, r⟩⟩
section
variable {S : SR} {n k : Nat} {t tk : TA} {σ : L2.St} {G H : Hp} {R : OR} {RA : HRs} {C : Addr} {E : XK} {dvs : List V}
theorem made_stp (st : Stab S) {x dx : Addr} (s : S n G H) (hx : H x = none) (hd : H dx = none) (nd : dx ≠ x) {fs : List (Str × V)} {G' H' : Hp} (w : Own G (upd (upd H dx (.own x)) x (.ins C dx [])) x (.ins C dx fs) 0 G' H') : Stp S n G H (upd G' x (.ins C dx fs)) H' := by
  obtain ⟨w1, w2, w3, w4, w5, w6⟩ := w
  have hH : Same H H' := fun b o e => w4.k b o (ne_of_none e hx) (by rw [upd_ne (ne_of_none e hx), upd_ne (ne_of_none e hd)]; exact e)
  have hG : Same G (upd G' x (.ins C dx fs)) := fun b o e => by
    have e' := w5 b o e
    rw [upd_ne (ne_of_none e' w2)]
    exact e'
  have nn : ∀ b o, upd G' x (.ins C dx fs) b = some o → G b = some o ∨ H b = none := fun b o e => by
    by_cases hb : b = x
    · rw [hb]
      exact .inr hx
    · rw [upd_ne hb] at e
      rcases w6 b o e with z | z
      · exact .inl z
      · refine .inr ?_
        rw [upd_ne hb] at z
        by_cases hb2 : b = dx
        · rw [hb2]
          exact hd
        · rw [upd_ne hb2] at z
          exact z
  have hS : Same (upd G' x (.ins C dx fs)) H' := fun b o e => by
    by_cases hb : b = x
    · rw [hb, upd_same] at e
      rw [hb, ← e]
      exact w3
    · rw [upd_ne hb] at e
      exact w1 b o e
  exact ⟨hG, Kp.of hH, st.grow s ⟨hG, hH, hS, nn⟩, nn⟩
theorem made_start (st : Stab S) {x dx : Addr} (s : S n G H) (hx : H x = none) (hd : H dx = none) : Same G (upd (upd H dx (.own x)) x (.ins C dx [])) ∧ G x = none := by
  have sG := st.sub s
  exact ⟨fun b o e => by rw [upd_ne (ne_of_none (sG b o e) hx), upd_ne (ne_of_none (sG b o e) hd)]; exact sG b o e, sG.free hx⟩
/-- C(..) -/
theorem ev_make (st : Stab S) {P : Addr → List (Str × V) → List V → Hp → OR → Prop} (h : EvA S n k t σ G RA) (hp : ∀ vs G', Same G G' → RA vs G' → P C [] (vs ++ dvs) G' R) : Ev S n k (tMake C (spI P) dvs E t) σ G (IsO C R) := fun G1 H1 s0 s Q q =>
  h G1 H1 s0 s _ fun vs G2 H2 s2 e x dx hx hd nd => by
    obtain ⟨a, b⟩ := made_start (C := C) (x := x) (dx := dx) st s2.s hx hd
    refine ⟨x, C, dx, [], vs ++ dvs, G2, R, rfl, upd_same, a, b, hp vs G2 (s0.trans s2.g) e, fun fs' G' H' w r => ⟨rfl, ?_⟩⟩
    exact q (.ref x) _ H' (s2.trans (made_stp st s2.s hx hd nd w)) ⟨x, dx, fs', G', rfl, w.2.1, Same.refl _, r⟩
end
end L2.DS
/-! Defs with defaults; defs that say super().__init__, with defaults; how their arguments are bound. -/
namespace L2.DS
open PySem PySem.Spec PyProof.Rows
section
variable {P : Program} {w : World} {K : PySem.W.Frag} {mg : Str → Option Value} {base : Heap} {x qual : Str} {params : Arguments} {body : List Stmt} {scope : Scope} {dvs : List V} {kws : List (Str × V)} {f : Addr} {fd : FuncData}
/-- a def with defaults that lets nothing out -/
theorem okD {N ps : List Str} {k : Nat} {sp : Sp} (F : FunD K x qual params body scope dvs kws f fd) (S : FnScope N ps scope) (len : ∀ vs H Q E, sp vs H Q E → vs.length = ps.length)
    (hbody : ∀ (cdv : Value) (A : Around) (outer : List Env) (s : Shared) (H : Hp) (vs : List V) (Q : VK) (E : XK), Room k (A.deeper (envOfC qual scope s.heap.objs.size f cdv)) → sp vs H Q E →
      ∃ t, PSs (cxOf CX0 P w K mg base N qual scope f cdv A outer s H E).nox body t ∧ t { nx := fun _ H' => Q .non H', rt := Q } (start N vs) H) : FnOk P w K mg base CX0 (k + 1) f fd ps sp :=
  F.ok S len fun cdv A outer s H vs Q E hr hsp => by
    obtain ⟨t, h, q⟩ := hbody cdv A outer s H vs Q E hr hsp
    exact ⟨t, h.nox, q⟩
end
/-! ### statements on the object that is being made -/
section
variable {G0 H0 G H : Hp} {x C dx : Addr} {fs : List (Str × V)} {n k i : Nat} {te : TE} {u : TS} {σ : L2.St} {nx bk ct : L2.St → Hp → Prop} {rt : VK} {K : PySem.W.Frag} {f : Str} {R : HR} {v : V}
theorem q_fldO (s : Own G0 H0 x (.ins C dx fs) n G H) (e : Ev (Own G0 H0 x (.ins C dx fs)) n k te σ G R) (hx : σ[i]? = some (some (.ref x))) (hc : Cls K C) (hn : NoAttr K C f) (hl : fs.length < 1000)
    (h : ∀ v G' H', Same G G' → Own G0 H0 x (.ins C dx (putF f v fs)) (n + k) G' H' → R v G' → u (Ends.mk nx rt bk ct) σ H') : tSeq (sFld K (tVar i) te f) u (Ends.mk nx rt bk ct) σ H :=
  e G H (Same.refl _) s _ fun v G' H' s1 r => ⟨_, hx, x, C, dx, fs, rfl, s1.s.2.2.1, hc, hn, hl, h v G' _ s1.g (own_upd s1.s) r⟩
theorem q_fldV (s : Own G0 H0 x (.ins C dx fs) n G H) (e : Ev (Own G0 H0 x (.ins C dx fs)) n k te σ G (IsV v)) (hx : σ[i]? = some (some (.ref x))) (hc : Cls K C) (hn : NoAttr K C f) (hl : fs.length < 1000)
    (h : ∀ H', Own G0 H0 x (.ins C dx (putF f v fs)) (n + k) G H' → u (Ends.mk nx rt bk ct) σ H') : tSeq (sFld K (tVar i) te f) u (Ends.mk nx rt bk ct) σ H :=
  e G H (Same.refl _) s _ fun w G' H' s1 r => ⟨_, hx, x, C, dx, fs, rfl, s1.s.2.2.1, hc, hn, hl, by
    rw [show w = v from r]
    exact h _ (own_upd ((stabO _ _ _ _).anti s s1.s s1.g))⟩
theorem own_n {o : HO} {m l : Nat} (a : Own G0 H0 x o m G H) : Own G0 H0 x o l G H := a
end
end L2.DS
/-! Tuples with methods, starred displays, dicts by enumerate, texts in parts. -/
namespace L2.DS
open PySem PySem.Spec PyProof.Rows
/-- t.index(x), items and x data of small depth -/
def rIndexTD (K : PySem.W.Frag) : V → List V → Hp → VK → Prop := fun x xs H Q => ∃ (a : Addr) (y : V) (d : PyData) (ds : List PyData) (j : Nat) (z : PyData), x = V.ref a ∧ xs = [y] ∧ Dp K H (V.ref a) (.tuple ds) ∧ Dp K H y d ∧
  PyData.canLayAll0 ds = true ∧ SeqAt.shaped d = true ∧ ds[j]? = some z ∧ PyData.eqv z d = true ∧ (∀ (m : Nat) (z' : PyData), m < j → ds[m]? = some z' → PyData.eqv z' d = false) ∧ Q (.int (j : Nat)) H
/-! ### what evaluates to what -/
/-- a tuple newly made, its object plain -/
def IsTF (F : Hp) (xs : List V) : HR := fun v G => ∃ p o, v = .ref p ∧ F p = none ∧ o.dict = none ∧ G p = some (.frz o (.tup xs))
instance (F xs) : Mon (IsTF F xs) := ⟨fun s ⟨p, o, e, f, d, h⟩ => ⟨p, o, e, f, d, s _ _ h⟩⟩
section
variable {S : SR} {n k ka kb : Nat} {t ta : TA} {te to : TE} {σ : L2.St} {G H : Hp} {K : PySem.W.Frag} {p : Addr} {vs xs ys : List V} {x : V} {i j : Nat}
/-- tuple(l) -/
theorem c_tupN (st : Stab S) (hq : SqL K G p xs) : RC S (rTupQ K) [.ref p] G (IsNew G (.tup xs)) := fun n G1 H1 s0 s Q q =>
  ⟨p, xs, rfl, .inl ⟨(s0.trans (st.sub s)).seq hq, fun l hl => q (.ref l) _ _ (st.new s hl) ⟨l, rfl, (s0.trans (st.sub s)).free hl, upd_same⟩⟩⟩
end
theorem tYes_run {σ : L2.St} {H : Hp} {Q : Bool → Hp → Prop} (h : Q true H) : tYes σ H Q := h
/-! ### a dict of places by enumerate -/
def plc : List Str → Nat → List (Key × V)
  | [], _ => []
  | a :: r, i => (.inr a, .int (i : Nat)) :: plc r (i + 1)
/-! ### texts in parts -/
end L2.DS
/-! What a scale holds. -/
namespace L2.DS
open PySem PySem.Spec PyProof.Rows
def scF : List Str := ["label", "size", "never_at", "still_at", "depth", "worth_names", "worth_places", "product_table", "join_table"]
theorem putF_len (f : Str) (v : V) : ∀ fs : List (Str × V), (putF f v fs).length ≤ fs.length + 1
  | [] => Nat.le_refl 1
  | (g, x) :: r => by
    unfold putF
    split
    · show r.length + 1 ≤ r.length + 1 + 1
      omega
    · have := putF_len f v r
      show (putF f v r).length + 1 ≤ r.length + 1 + 1
      omega
/-- a tuple of n things as R tells -/
def IsTN (m : Nat) (R : Nat → HR) : HR := fun v G => ∃ p ys, v = .ref p ∧ G p = some (.tup ys) ∧ ys.length = m ∧ ∀ i y, ys[i]? = some y → R i y G
instance (m) (R : Nat → HR) [∀ i, Mon (R i)] : Mon (IsTN m R) := ⟨fun s ⟨p, ys, e, h, l, r⟩ => ⟨p, ys, e, s _ _ h, l, fun i y z => Mon.mon s (r i y z)⟩⟩
/-- a table of n rows of n places -/
def Tab (G : Hp) (p : Addr) (n : Nat) (th : Nat → Nat → Int) : Prop := IsTN n (fun i => IsTN n fun j => IsV (.int (th i j))) (.ref p) G
theorem Tab.mono {G G' : Hp} {p : Addr} {n : Nat} {th : Nat → Nat → Int} (h : Tab G p n th) (s : Same G G') : Tab G' p n th := Mon.mon s h
/-- the row a of a table -/
theorem Tab.row {G : Hp} {p : Addr} {n : Nat} {th : Nat → Nat → Int} (h : Tab G p n th) : ∃ ys, G p = some (.tup ys) ∧ ys.length = n ∧ ∀ a < n, ∃ q zs, ys[a]? = some (.ref q) ∧ G q = some (.tup zs) ∧ zs.length = n ∧ ∀ b < n, zs[b]? = some (.int (th a b)) := by
  obtain ⟨p', ys, e, hp, l, r⟩ := h
  cases e
  refine ⟨ys, hp, l, fun a ha => ?_⟩
  have e1 : ys[a]? = some ys[a] := List.getElem?_eq_getElem (by omega)
  obtain ⟨q, zs, e2, hq, l2, r2⟩ := r a _ e1
  refine ⟨q, zs, by rw [e1, e2], hq, l2, fun b hb => ?_⟩
  have e3 : zs[b]? = some zs[b] := List.getElem?_eq_getElem (by omega)
  rw [e3, show zs[b] = V.int (th a b) from r2 b _ e3]
/-- the fields of a scale -/
structure ScIs (label : Str) (names : List Str) (nv sl dep : Int) (th jn : Nat → Nat → Int) (fs : List (Str × V)) (G : Hp) : Prop where
  lab : fs.lookup ("label" : Str) = some (.str label)
  siz : fs.lookup ("size" : Str) = some (.int (names.length : Nat))
  nev : fs.lookup ("never_at" : Str) = some (.int nv)
  sti : fs.lookup ("still_at" : Str) = some (.int sl)
  dep : fs.lookup ("depth" : Str) = some (.int dep)
  nam : ∃ p, fs.lookup ("worth_names" : Str) = some (.ref p) ∧ G p = some (.tup (names.map V.str))
  pla : ∃ p, fs.lookup ("worth_places" : Str) = some (.ref p) ∧ G p = some (.dK (plc names 0))
  pro : ∃ p, fs.lookup ("product_table" : Str) = some (.ref p) ∧ Tab G p names.length th
  joi : ∃ p, fs.lookup ("join_table" : Str) = some (.ref p) ∧ Tab G p names.length jn
theorem ScIs.mono {label : Str} {names : List Str} {nv sl dep : Int} {th jn : Nat → Nat → Int} {fs : List (Str × V)} {G G' : Hp} (h : ScIs label names nv sl dep th jn fs G) (s : Same G G') : ScIs label names nv sl dep th jn fs G' :=
  ⟨h.lab, h.siz, h.nev, h.sti, h.dep, let ⟨p, a, b⟩ := h.nam; ⟨p, a, s _ _ b⟩, let ⟨p, a, b⟩ := h.pla; ⟨p, a, s _ _ b⟩, let ⟨p, a, b⟩ := h.pro; ⟨p, a, b.mono s⟩, let ⟨p, a, b⟩ := h.joi; ⟨p, a, b.mono s⟩⟩
/-- a scale stands at x -/
def ScAt (K : PySem.W.Frag) (label : Str) (names : List Str) (nv sl dep : Int) (th jn : Nat → Nat → Int) (x : Addr) (G : Hp) : Prop := ∃ C dx fs, G x = some (.ins C dx fs) ∧ Cls K C ∧ (∀ f ∈ scF, NoAttr K C f) ∧ ScIs label names nv sl dep th jn fs G
theorem ScAt.mono {K : PySem.W.Frag} {label : Str} {names : List Str} {nv sl dep : Int} {th jn : Nat → Nat → Int} {x : Addr} {G G' : Hp} (h : ScAt K label names nv sl dep th jn x G) (s : Same G G') : ScAt K label names nv sl dep th jn x G' :=
  let ⟨C, dx, fs, a, b, c, d⟩ := h
  ⟨C, dx, fs, s _ _ a, b, c, d.mono s⟩
/-- a <= b <= c and the like -/
theorem ev_chain {S : SR} (st : Stab S) {n ka kb kc : Nat} {ta tb tc : TE} {r r' : R2} {σ : L2.St} {G : Hp} {x y z : V} {c d : Bool} (ha : Ev S n ka ta σ G (IsV x)) (hb : Ev S (n + ka) kb tb σ G (IsV y)) (hr : RV S r x y G (IsV (.bl c))) (hc : Ev S (n + ka + kb) kc tc σ G (IsV z)) (hr' : RV S r' y z G (IsV (.bl d))) :
    Ev S n (ka + kb + kc) (tChain r r' ta tb tc) σ G (IsV (.bl (c && d))) := fun G1 H1 s0 s Q q =>
  ha G1 H1 s0 s _ fun v G2 H2 s2 e => hb G2 H2 (s0.trans s2.g) s2.s _ fun w G3 H3 s3 e' => by
    obtain rfl : v = x := e
    obtain rfl : w = y := e'
    refine hr _ G3 H3 ((s0.trans s2.g).trans s3.g) s3.s _ fun u G4 H4 s4 e4 => ⟨c, e4, ?_⟩
    have t := (s2.trans s3).trans s4
    cases c with
    | false => exact iteF (q _ G4 H4 (t.wk st (by omega)) rfl)
    | true =>
      refine iteT (hc G4 H4 (s0.trans t.g) s4.s _ fun u2 G5 H5 s5 e5 => ?_)
      obtain rfl : u2 = z := e5
      exact hr' _ G5 H5 ((s0.trans t.g).trans s5.g) s5.s _ fun u3 G6 H6 s6 e6 => q u3 G6 H6 (((t.trans s5).trans s6).wk st (by omega)) e6
/-- raise C(e) -/
theorem q_raiseX {S : SR} {n k : Nat} {C : Addr} {nm : Str} {W : WX} {t : TA} {u : TS} {σ : L2.St} {G H : Hp} {v : V} {nx bk ct : L2.St → Hp → Prop} {rt : VK} (s : S n G H) (e : EvA S n k t σ G (IsVs [v])) (h : ∀ G' H' d, Stp S (n + k) G H G' H' → H' d = none → W (.ref C) (some d) σ (upd H' d (.xd [(nm, v)]))) :
    tSeq (tRaiseX C nm W t) u (Ends.mk nx rt bk ct) σ H := e G H (Same.refl _) s _ fun _ G' H' s1 ev => ⟨v, ev, fun d hd => h G' H' d s1 hd⟩
end L2.DS
/-! Scales of contents behind never. -/
namespace L2.DS
open PySem PySem.Spec PyProof.Rows
/-- the place that t.index(y) tells is k -/
def IdxOk (K : PySem.W.Frag) (G : Hp) (pt : Addr) (y : V) (k : Nat) : Prop := ∀ S, Stab S → RC S (rIndexTD K (.ref pt)) [y] G (IsV (.int (k : Nat)))
/-- make_then, make_join of such a scale: B tells what the two contents give, z what never gives -/
def PMk (K : PySem.W.Frag) (C0 : Addr) (m : Str) (B : List V → Hp → HR → Prop) (z : Nat → Nat → Int) : List V → Hp → HR → Prop := fun vs G R => ∃ (x dx pt : Addr) (fs : List (Str × V)) (o : Obj) (ws : List V) (a b : Nat), vs = [.ref x, .int (a : Nat), .int (b : Nat)] ∧
  G x = some (.ins C0 dx fs) ∧ fs.lookup ("contents" : Str) = some (.ref pt) ∧ fs.lookup m = none ∧ G pt = some (.frz o (.tup (.non :: ws))) ∧ o.dict = none ∧
  ((a = 0 ∨ b = 0) → R = IsV (.int (z a b))) ∧ (a ≠ 0 → b ≠ 0 → ∃ va vb Ry k, ws[a - 1]? = some va ∧ ws[b - 1]? = some vb ∧ Mon Ry ∧ (∀ G', Same G G' → B [.ref x, va, vb] G' Ry) ∧ (∀ y G', Same G G' → Ry y G' → IdxOk K G' pt y k) ∧ R = IsV (.int (k : Nat)))
def wnF : List Str := "contents" :: scF
end L2.DS
/-! Scales of integers. -/
namespace L2.DS
open PySem PySem.Spec PyProof.Rows
def ordS (up : Bool) : Str := if up then "up" else "down"
def cthen (m i j : Int) : Int := if i + j > m then m else i + j
def ceit (up : Bool) (i j : Int) : Int := if decide (j < i) = up then i else j
def cth (m : Int) (a b : Nat) : Int := if a = 0 ∨ b = 0 then 0 else cthen m ((a : Int) - 1) ((b : Int) - 1) + 1
def cjn (up : Bool) (a b : Nat) : Int := if a = 0 ∨ b = 0 then (a : Int) + b else ceit up ((a : Int) - 1) ((b : Int) - 1) + 1
def cword (m i : Int) : Str := if i = m then "many" else toString i
def cwords (m : Nat) : List Str := (List.range (m + 1)).map fun i => cword (m : Nat) (i : Nat)
def clabel (m : Int) (up : Bool) : Str := ((((("(count " : Str) ++ (toString m : Str)) ++ (" " : Str)) ++ ordS up) ++ (")" : Str))
end L2.DS
/-! isinstance of an own error that has fields; methods whose errors a try takes. -/
namespace L2.DS
open PySem PySem.Spec PySem.Calls PyProof.Rows
open PySem.W (Frag findIn specialIn subIn mroIn hasDictIn takesIn clsIn findObj InstAt)
section
variable {prog : Program} {w : World} {A : Around} {E : Value → Shared → Prop} {s : Shared} {K : Frag} {x D od : Addr} {ox oc : Obj}
theorem data_found {C : Addr} {name : Str} {a g : Value} {dd : Option Obj} (h1 : (clsIn K C).isSome = true) (h2 : findIn K (.ref C) name = some (some a)) (h3 : specialIn K a "__get__" = some (some g)) (h4 : takesIn K a = some true) : findObj K C dd name = some (.bind g a) := by
  obtain ⟨cd, h1⟩ := Option.isSome_iff_exists.mp h1
  unfold findObj
  rw [h1, Option.bind_some, h2, Option.bind_some]
  simp [h3, h4]
/-- x.__class__, x an error of the class D that has a dict or none -/
theorem class_of_err {dd : Option Obj} {Q : Option Value → Shared → Prop} (C : L2.ExcC K D) (X : K.In s.heap) (I : InstAt s.heap x ox D dd) (done : Q (some (.ref D)) { s with toks := s.toks + 1 }) : wpAny (model prog w) A (getAttr? (.ref x) "__class__") Q E s := by
  have cD : (clsIn K D).isSome = true := by
    obtain ⟨cd, hc, _⟩ := PySem.W.any_some C.hd
    rw [hc]
    rfl
  have hfind : findObj K D dd "__class__" = some (.bind (.builtin "getset_descriptor.__get__") (.builtin "object.__class__")) := data_found cD C.ha C.hn C.ht
  obtain ⟨heap0, gens0, drawn0, toks0, os0⟩ := s
  have T0 := I.type (M := model prog w)
  have T1 := PySem.W.looks_findIn (M := model prog w) X C.hg
  have T2 := PySem.W.looks_findIn (M := model prog w) X C.hk
  have T3 := PySem.W.looks_find (M := model prog w) X I hfind
  have isErr : PySem.W.Looks (model prog w) heap0 (isInstance (.ref x) (.type "BaseException")) true := T0.andThen (PySem.W.looks_subIn X C.hs)
  have b0 : (false && onTheHeap (Value.builtin "BaseException.__getattribute__")) = false := rfl
  have b2 : (Value.builtin "BaseException.__getattribute__" == Value.builtin "object.__getattribute__") = false := by decide +kernel
  have b1 : (onTheHeap (Value.ref D) && Value.builtin "BaseException.__getattribute__" == Value.builtin "object.__getattribute__") = false := by
    rw [b2]
    rfl
  unfold getAttr? getAttrBy? getAttrBy
  refine wpAny_bind (wpAny_mkText (wpAny_bind (wpAny_attempt (wpAny_holding (wpAny_bind (T0.at (wpAny_bind (T1.at ?_))))))))
  show wpAny _ _ (if (onTheHeap (Value.ref D) && Value.builtin "BaseException.__getattribute__" == Value.builtin "object.__getattribute__") = true then _ else _) _ _ _
  rw [b1, if_neg Bool.false_ne_true]
  unfold getAttrByItsOwn hookBefore
  refine wpAny_bind ?_
  rw [if_pos (show onTheHeap (Value.ref D) = true by rfl)]
  refine T2.at ?_
  refine wpAny_bind (wpAny_attempt (wpAny_holding ?_))
  unfold callGetattribute
  rw [b0, if_neg Bool.false_ne_true]
  unfold boundAndCalled
  rw [PySem.F.excAttr_ValueError.ga.bind (.ref x)]
  refine wpAny_bind (wpAny_pure ?_)
  show wpAny _ _ (call (.builtin "BaseException.__getattribute__") [.ref x, .str "__class__" toks0]) _ _ _
  refine wpAny_call (codeAny_call_builtin PySem.F.excAttr_ValueError.ga.plain PySem.F.entry_bexc_ga ?_)
  refine @PySem.W.check_slot (model prog w) _ _ ⟨heap0, gens0, drawn0, toks0 + 1, os0⟩ "BaseException.__getattribute__" "BaseException" "__getattribute__" (.ref x) [.str "__class__" toks0] [] _ (by decide +kernel) (by decide +kernel) isErr (PySem.F.args_bexc_ga (.ref x) (.str "__class__" toks0)) ?_
  unfold Builtin.«object.__getattribute__»
  refine wpAny_bind (wpAny_of_eq (a := ((Value.ref x : Value), [Value.str "__class__" toks0])) (by first | rfl | (simp only [slotArgs]; rfl)) ?_)
  refine wpAny_bind (wpAny_pure (wpAny_bind (T0.at (wpAny_bind (T3.at ?_)))))
  show wpAny _ _ (holding [Value.builtin "object.__class__"] (call (.builtin "getset_descriptor.__get__") [.builtin "object.__class__", .ref x, .ref D]) >>= ret) _ _ _
  refine wpAny_bind (wpAny_holding (wpAny_call (PySem.W.class_get (s := ⟨heap0, gens0, drawn0, toks0 + 1, os0⟩) (ox := ox) (od := dd) X I C.hm ?_)))
  refine wpAny_pure ?_
  show wpAny _ _ (handedOut (.ref D)) _ _ _
  rw [PySem.W.handedOut_of (v := .ref D) rfl]
  first
    | exact wpAny_pure (wpAny_pure done)
    | exact wpAny_pure done
    | exact wpAny_pure (wpAny_bind (wpAny_pure (wpAny_pure done)))
/-- isinstance asks such an error so -/
theorem kit_err {dd : Option Obj} (C : L2.ExcC K D) : PySem.W.KitX K (.ref x) (.ref D) (fun h => InstAt h x ox D dd) := by
  obtain ⟨cdD, hcD, _⟩ := PySem.W.any_some C.hd
  have hcls : ∃ c' d' cd' sl', K.lookup D = some (⟨c', d', .cls cd', sl'⟩ : Obj) := by
    unfold clsIn at hcD
    split at hcD
    · rename_i c' d' cd' sl' ho
      exact ⟨c', d', cd', sl', ho⟩
    · cases hcD
  obtain ⟨c', d', cd', sl', ho⟩ := hcls
  refine ⟨fun _ _ _ I => I.type, fun M h X _ => ?_, fun h tp td its n sl X htp => Bool.eq_false_iff.mpr fun z => ?_, fun X I k => class_of_err C X I k⟩
  · intro A' Q' E' s' k q
    unfold isType loadHead
    exact wpAny_bind (wpAny_loadPart (k _ _ (X _ _ ho)) (wpAny_pure q))
  · have e : D = tp := Value.ref.inj (beq_iff_eq.mp z)
    rw [← e] at htp
    cases (X _ _ ho).symm.trans htp
end
end L2.DS
namespace L2.DS
open PySem PySem.Spec PyProof.Rows
/-- isinstance(e, c), e the error with fields that the suite holds -/
def rIsX (K : PySem.W.Frag) (D a : Addr) (d : Option Addr) : List V → Hp → VK → Prop := fun xs H Q => ∃ (c : V) (cv : Value) (b : Bool) (dd : Addr) (fs : List (Str × V)), xs = [.ref a, c] ∧ (∀ u, RelV c u → u = cv) ∧ PySem.W.kitOne K (.ref D) cv = some b ∧ d = some dd ∧ H dd = some (.xd fs) ∧ Q (.bl b) H
theorem call_isX {X : Cx} {K : PySem.W.Frag} {a D : Addr} {cls : Value} {d : Option Addr} {oe : Obj} {pn : List (Addr × Obj)} (hK : X.K = K) (C : ExcC K D) (hz : Zc cls d oe) (hf : ∃ vs, oe.data = .fields vs) :
    CallR (X.suite a ((a, oe) :: pn)) (.builtin "isinstance") (fun xs H Q => cls = .ref D ∧ rIsX K D a d xs H Q) := by
  subst hK
  intro pins s σ H xs us Q I r h
  obtain ⟨ec, c, cv, b, dd, fs, rfl, hcv, e, rfl, hH, q⟩ := h
  subst ec
  cases r with
  | cons rx rr =>
    cases rr with
    | cons rt rr =>
      cases rr
      cases rx
      have ec := hcv _ rt
      subst ec
      obtain ⟨hget, _⟩ := I.pin (a, oe) (List.mem_append.mpr (.inl List.mem_cons_self))
      obtain ⟨vs, hv⟩ := hf
      have hx : ObjOk X.prog X.w H s.heap dd (.xd fs) := I.hok dd _ hH
      obtain ⟨mA, hns, _⟩ := hx
      obtain ⟨od, ho, _⟩ := lookIn_ns hns
      have J : PySem.W.InstAt s.heap a oe D (some od) := ⟨hget, hz.1, by unfold PySem.W.notCls; rw [hv] <;> rfl, by rw [hz.2]; exact ho⟩
      exact PySem.W.kia_one (kit_err C) I.kIn J e (fun z => nomatch z) fun tk => ⟨.bl b, H, I.kept (t' := tk) fun _ _ z => z, rfl, q⟩
section
variable {S : SR} {n k ka kb : Nat} {te : TE} {t : TA} {σ : L2.St} {G H : Hp} {K : PySem.W.Frag} {a dd D C : Addr} {nm m : Str} {v : V} {fs : List (Str × V)} {c : V} {cv : Value} {b : Bool} {u : TS} {nx bk ct : L2.St → Hp → Prop} {rt : VK}
theorem ev_fldX (st : Stab S) (h : Ev S n k te σ G (IsV (.ref a))) (hd : G dd = some (.xd [(nm, v)])) : Ev S n k (tFldX C nm a (.ref C) (some dd) te) σ G (IsV v) := fun G1 H1 s0 s Q q =>
  h G1 H1 s0 s _ fun x G2 H2 s2 e => ⟨e, rfl, dd, v, rfl, st.sub s2.s _ _ (s2.g _ _ (s0 _ _ hd)), q v G2 H2 s2 rfl⟩
theorem c_isX (st : Stab S) (hd : G dd = some (.xd fs)) (hc : ∀ w, RelV c w → w = cv) (hk : PySem.W.kitOne K (.ref D) cv = some b) : RC S (fun xs H Q => (Value.ref D) = .ref D ∧ rIsX K D a (some dd) xs H Q) [.ref a, c] G (IsV (.bl b)) :=
  rc_val (fun H s Q q => ⟨rfl, c, cv, b, dd, fs, rfl, hc, hk, rfl, s _ _ hd, q⟩) st
end
end L2.DS
/-! Names of worths and odd words. -/
namespace L2.DS
open PySem PySem.Spec PyProof.Rows
/-- what a stretch of statements leaves as it was -/
structure Fr (S : SR) (G H G' H' : Hp) : Prop where
  g : Same G G'
  k : Kp S H H'
  n : ∀ b o, G' b = some o → G b = some o ∨ H b = none
theorem Fr.refl {S : SR} (G H : Hp) : Fr S G H G H := ⟨Same.refl _, Kp.refl _, fun _ _ e => .inl e⟩
theorem Fr.trans {S : SR} {G H G1 H1 G2 H2 : Hp} (a : Fr S G H G1 H1) (b : Fr S G1 H1 G2 H2) : Fr S G H G2 H2 := ⟨a.g.trans b.g, a.k.trans b.k, fun c o e => by
  rcases b.n c o e with z | z
  · exact a.n c o z
  · exact .inr (a.k.v c z)⟩
theorem Fr.kp {S : SR} {G H G1 H1 H2 : Hp} (a : Fr S G H G1 H1) (b : Kp S H1 H2) : Fr S G H G1 H2 := ⟨a.g, a.k.trans b, a.n⟩
theorem Stp.fr {S : SR} {n : Nat} {G H G1 H1 : Hp} (s : Stp S n G H G1 H1) : Fr S G H G1 H1 := ⟨s.g, s.k, s.n⟩
theorem Fr.stp {S : SR} {n : Nat} {G H G1 H1 : Hp} (f : Fr S G H G1 H1) (s : S n G1 H1) : Stp S n G H G1 H1 := ⟨f.g, f.k, s, f.n⟩
def EvO (S : SR) (n k : Nat) (t : TO) (σ : L2.St) (G : Hp) (o : Option Int) : Prop := ∀ G1 H1, Same G G1 → S n G1 H1 → ∀ Q : Option Int → Hp → Prop, (∀ G2 H2, Stp S (n + k) G1 H1 G2 H2 → Q o H2) → t σ H1 Q
section
variable {S : SR} {n k ka kb kc : Nat} {te ta : TE} {t : TA} {tl th : TO} {σ : L2.St} {G : Hp} {K : PySem.W.Frag} {i : Int} {z : Str} {lo hi : Option Int} {p q : Addr} {xs ys : List V}
theorem eo_none : EvO S n 0 tNoPart σ G none := fun G1 H1 s0 s Q q => q G1 H1 (Stp.refl s)
theorem eo_some (h : Ev S n k te σ G (IsV (.int i))) : EvO S n k (tPart te) σ G (some i) := fun G1 H1 s0 s Q q => h G1 H1 s0 s _ fun v G2 H2 s2 e => ⟨i, e, q G2 H2 s2⟩
theorem rv_imp {r : R2} {x y : V} {R R' : HR} (h : RV S r x y G R) (i : ∀ v G', Same G G' → R v G' → R' v G') : RV S r x y G R' := fun n G1 H1 s0 s Q q => h n G1 H1 s0 s Q fun v G2 H2 s2 r => q v G2 H2 s2 (i v G2 (s0.trans s2.g) r)
/-- z[lo:hi] -/
theorem ev_slS (h : Ev S n ka te σ G (IsV (.str z))) (hl : z.length ≤ sizeLine) (h1 : EvO S (n + ka) kb tl σ G lo) (h2 : EvO S (n + ka + kb) kc th σ G hi) : Ev S n (ka + kb + kc) (tSl rSlS te tl th) σ G (IsV (.str (cutS z lo hi))) := fun G1 H1 s0 s Q q =>
  h G1 H1 s0 s _ fun v G2 H2 s2 e => h1 G2 H2 (s0.trans s2.g) s2.s _ fun G3 H3 s3 => h2 G3 H3 ((s0.trans s2.g).trans s3.g) s3.s _ fun G4 H4 s4 => ⟨z, e, hl, q _ G4 H4 (by
    have t := (s2.trans s3).trans s4
    rw [show n + (ka + kb + kc) = n + ka + kb + kc by omega]
    exact t) rfl⟩
/-- a + b, two lists -/
theorem v_cat (st : Stab S) (h1 : G p = some (.lst xs)) (h2 : G q = some (.lst ys)) (hl : xs.length + ys.length ≤ 100000) : RV S rAddA (.ref p) (.ref q) G (IsNew G (.lst (xs ++ ys))) := fun n G1 H1 s0 s Q k =>
  .inr ⟨p, q, xs, ys, rfl, rfl, st.sub s _ _ (s0 _ _ h1), st.sub s _ _ (s0 _ _ h2), Nat.le_trans hl (by decide), fun l hl => k (.ref l) _ _ (st.new s hl) ⟨l, rfl, s0.free ((st.sub s).free hl), upd_same⟩⟩
end
theorem inV_strs {w : Str} : ∀ {names : List Str}, inV (.str w) (names.map V.str) = decide (w ∈ names)
  | [] => rfl
  | a :: r => by
    have ih := inV_strs (w := w) (names := r)
    unfold inV at ih ⊢
    rw [List.map_cons, List.any_cons, ih]
    show (a == w || decide (w ∈ r)) = _
    by_cases h : a = w
    · subst h
      simp
    · have h2 : ¬ w = a := fun z => h z.symm
      simp [h, h2]
end L2.DS
/-! What the laws' own defs need. -/
namespace L2.DS
open PySem PySem.Spec PyProof.Rows
section
variable {S : SR} {n k : Nat} {te : TE} {tt : TT} {ts t1 t2 u tb : TS} {σ : L2.St} {G H : Hp} {R : HR} {P : Bool → Prop} {x : V} {nx bk ct : L2.St → Hp → Prop} {rt : VK} {i : Nat} {K : PySem.W.Frag}
/-- state = _law_source(script) -/
theorem q_source {p : Addr} {ns : List Int} {t : TA} {E : XK} {H0 : Hp} (h : ∀ Q : List V → Hp → Prop, Q [.ref p] H0 → t σ H0 Q) (hq : SqL K H0 p (ns.map V.int)) (hl : ns.length ≤ 100000)
    (hr : ∀ sa cl H', Src sa cl 0 H0 H' → u (Ends.mk nx rt bk ct) (σ.set i (some (.ref sa))) H') : tSeq (tAsg (tCall (sp_source K) [] E t) (gName i)) u (Ends.mk nx rt bk ct) σ H0 :=
  h _ ⟨p, ns, rfl, hq, hl, fun sa cl H' s a b c => hr sa cl H' ⟨s, a, b, c⟩⟩
theorem et_any {ka kb : Nat} {ta tb : TE} {r : R2} {Ra Rb : HR} [Mon Ra] (st : Stab S) (ha : Ev S n ka ta σ G Ra) (hb : Ev S (n + ka) kb tb σ G Rb) (hr : ∀ x y G', Same G G' → Ra x G' → Rb y G' → ∃ b, RV S r x y G' (IsV (.bl b))) : EvT S n (ka + kb) (tTest (tOp r ta tb)) σ G (fun _ => True) :=
  et_test (P := fun _ => True) (ev_op ha hb fun x y G' s rx ry => by
    obtain ⟨b, hb⟩ := hr x y G' s rx ry
    exact fun n G1 H1 s0 s Q q => hb n G1 H1 s0 s Q fun v G2 H2 s2 e => q v G2 H2 s2 ⟨b, trivial, e⟩)
theorem ev_impI {P1 P2 : Int → Prop} (h : Ev S n k te σ G (IsI P1)) (i : ∀ j, P1 j → P2 j) : Ev S n k te σ G (IsI P2) := h.imp fun v G' s ⟨j, p, e⟩ => ⟨j, i j p, e⟩
end
/-- a scale of integers stands at x, of the class at C -/
def CsAt (C x : Addr) (t : Nat) (up : Bool) (G : Hp) : Prop := ∃ dx fs, G x = some (.ins C dx fs) ∧ ScIs (clabel (t : Nat) up) (("never" : Str) :: cwords t) 0 1 1 (cth (t : Nat)) (cjn up) fs G ∧ ∀ f, f ∉ wnF → f ≠ ("most" : Str) → f ≠ ("rising" : Str) → fs.lookup f = none
theorem CsAt.mono {C x : Addr} {t : Nat} {up : Bool} {G G' : Hp} (h : CsAt C x t up G) (s : Same G G') : CsAt C x t up G' :=
  let ⟨dx, fs, a, b, c⟩ := h
  ⟨dx, fs, s _ _ a, b.mono s, c⟩
theorem CsAt.of {C : Addr} {t : Nat} {up : Bool} {v : V} {G : Hp} (h : IsO C (fun _ _ fs' G' => ScIs (clabel (t : Nat) up) (("never" : Str) :: cwords t) 0 1 1 (cth (t : Nat)) (cjn up) fs' G' ∧ (∀ f, f ∉ wnF → f ≠ ("most" : Str) → f ≠ ("rising" : Str) → fs'.lookup f = none)) v G) : ∃ x, v = .ref x ∧ CsAt C x t up G := by
  obtain ⟨x, dx, fs, G', rfl, gx, s, a, b⟩ := h
  have s' : Same G' G := fun c o e => s c o (by rw [upd_ne (ne_of_none e gx)]; exact e)
  exact ⟨x, rfl, dx, fs, s _ _ upd_same, a.mono s', b⟩
/-- what each law's own def promises -/
def sp_law (K : PySem.W.Frag) : Sp := fun vs H Q _ => ∃ (p : Addr) (ns : List Int), vs = [.ref p] ∧ SqL K H p (ns.map V.int) ∧ ns.length ≤ 63 ∧ ∀ H', Q (.bl true) H'
end L2.DS
/-! From what the top has written to what the proofs ask. -/
namespace L2.DS
open PySem PySem.Spec PyProof.Rows
section
variable {P : Program} {K : PySem.W.Frag} {x qual : Str} {st : Stmt} {f cda cc D : Addr} {oc : Value} {od an oc1 oc2 oD : Option Addr} {osl sl1 sl2 slD : Array (Option Value)} {kV doc pm ct c1 c2 cD : Value} {vs : Array Value} {file : Str} {tf : Tok} {cd : ClassData}
theorem mk_exi {mg : Str → Option Value} {nm txt : Str} {B newId initId : String} {C : Addr} (hc : ExC K C B newId) (iC : PySem.W.findIn K (.ref C) "__init__" = some (some (.ref f))) (tI : PySem.W.typeIn K (.ref f) = some (.type "function")) (noN : PySem.W.findIn K (.ref C) nm = some none) (supI : PySem.W.ks_superIn K C C "__init__" = some (some (.builtin initId)))
    (mroC : PySem.W.mroIn K C (.ref C) = some true) (mgS : mg "super" = none) (opq : PySem.W.nsIn K cStatics "thirdparty.any" = some none) (top0 : (P.main.scope.names.lookup ("super" : Str)).isSome = false)
    (l : K.lookup f = some ⟨oc, od, .func (PySem.W.fnX "__init__" qual (defArgs st) (defBody st) (defScope st) [("__class__", cc)] .none .none doc pm an (.ref cda) ct), osl⟩) (c : PySem.W.codeIn K (.ref cda) qual = true) (lc : K.lookup cda = some ⟨c1, oc1, .fields vs, sl1⟩) (hv : vs[2]? = some (.str file tf)) (hf : ((P.main.file : Str) == file) = true)
    (lx : K.lookup cc = some ⟨c2, oc2, .cell (some (.ref C)), sl2⟩)
    (hb : ∃ txt j a b c d e f g h i k, defBody st = xBody nm txt j a b c d e f g h i k ∧ (∀ env, xPlain txt j a b c d e env) ∧ (∀ env l, swapsWith (.Call (.Attribute (.Call (.Name "super" a) [] [] b) "__init__" c) [.Constant (.str txt) j d] [] e) none l env = pure false) ∧ ∀ env l, swapsWith (.Name nm i) (some (.Attribute (.Name "self" g) nm h)) l env = pure false)
    (hs : (defScope st).kind = .function ∧ (defScope st).isCoroutine = false ∧ (defScope st).isGenerator = false ∧ (∀ x ∈ (defScope st).names, x.2 ≠ NameKind.cell))
    (hn : (defScope st).names.lookup ("self" : Str) = some .local ∧ (defScope st).names.lookup nm = some .local ∧ (defScope st).names.lookup ("__class__" : Str) = some .free ∧ (defScope st).names.lookup ("super" : Str) = some .globalImplicit)
    (ha : ∃ a, ((defArgs st).posonlyargs ++ (defArgs st).args).head? = some a ∧ a.arg = ("self" : Str)) (h1 : nm ≠ ("self" : Str)) (h2 : (nm == ("__debug__" : Str)) = false)
    (hB : ∀ (fd : FuncData) (s : Shared) (x v : Value), fd.params = defArgs st → fd.scope = defScope st → fd.defaults = .none → fd.kwdefaults = .none → BindsTo s fd ⟨[x, v], []⟩ [("self", x), (nm, v)]) : ExI P K mg C f nm B newId initId :=
  ⟨hc, iC, tI, noN, supI, mroC, mgS, opq, top0, st, qual, oc, od, doc, pm, an, cda, ct, osl, cc, _, vs, file, tf, _, l, c, lc, rfl, hv, hf, lx, rfl, hb, hs, hn, ha, h1, h2, hB⟩
end
end L2.DS
/-! Own errors as values. -/
namespace L2.DS
open PySem PySem.Spec PyProof.Rows
/-- an error of the class at C stands at e, its dict at d (or none) -/
def ErO (C : Addr) (d : Option Addr) (e : Addr) : HO := .ext fun h => ∃ (oe : Obj) (vs : Array Value), h.get? e = some oe ∧ Zc (.ref C) d oe ∧ oe.data = .fields vs
/-! ### what evaluates to an error -/
def IsEr (C : Addr) (nm : Str) (v : V) : HR := fun u G => ∃ e dd, u = .ref e ∧ G e = some (ErO C (some dd) e) ∧ G dd = some (.xd [(nm, v)])
def IsEr0 (C : Addr) : HR := fun u G => ∃ e, u = .ref e ∧ G e = some (ErO C none e)
instance (C nm v) : Mon (IsEr C nm v) := ⟨fun s ⟨e, dd, a, b, c⟩ => ⟨e, dd, a, s _ _ b, s _ _ c⟩⟩
instance (C) : Mon (IsEr0 C) := ⟨fun s ⟨e, a, b⟩ => ⟨e, a, s _ _ b⟩⟩
/-- an error of the class at C, with a field or none -/
def IsErA (C : Addr) : HR := fun u G => ∃ e d, u = .ref e ∧ G e = some (ErO C d e) ∧ (d = none ∨ ∃ dd fs, d = some dd ∧ G dd = some (.xd fs))
theorem IsEr.any {C : Addr} {nm : Str} {v u : V} {G : Hp} (h : IsEr C nm v u G) : IsErA C u G := let ⟨e, dd, a, b, c⟩ := h; ⟨e, _, a, b, .inr ⟨dd, _, rfl, c⟩⟩
theorem IsEr0.any {C : Addr} {u : V} {G : Hp} (h : IsEr0 C u G) : IsErA C u G := let ⟨e, a, b⟩ := h; ⟨e, _, a, b, .inl rfl⟩
instance (C) : Mon (IsErA C) := ⟨fun s ⟨e, d, a, b, c⟩ => ⟨e, d, a, s _ _ b, c.imp id fun ⟨dd, fs, x, y⟩ => ⟨dd, fs, x, s _ _ y⟩⟩⟩
/-- a list of things as RA tells -/
def IsLX (RA : HRs) : HR := fun v G => ∃ p xs, v = .ref p ∧ G p = some (.lst xs) ∧ RA xs G
instance (RA) [Mons RA] : Mon (IsLX RA) := ⟨fun s ⟨p, xs, e, h, r⟩ => ⟨p, xs, e, s _ _ h, Mons.mon s r⟩⟩
/-- an error told by its class and its field -/
def IsErS (s : Addr × Option (Str × V)) : HR := fun u G => match s.2 with
  | none => IsEr0 s.1 u G
  | some p => IsEr s.1 p.1 p.2 u G
instance (s) : Mon (IsErS s) := ⟨fun {u G G'} t h => by
  obtain ⟨C, o⟩ := s
  cases o with
  | none => exact (Mon.mon t (show IsEr0 C u G from h) : IsEr0 C u G')
  | some p => exact (Mon.mon t (show IsEr C p.1 p.2 u G from h) : IsEr C p.1 p.2 u G')⟩
theorem IsErS.any {s : Addr × Option (Str × V)} {u : V} {G : Hp} (h : IsErS s u G) : IsErA s.1 u G := by
  obtain ⟨C, o⟩ := s
  cases o with
  | none => exact (show IsEr0 C u G from h).any
  | some p => exact (show IsEr C p.1 p.2 u G from h).any
def RE : List (Addr × Option (Str × V)) → HRs
  | [] => RNil
  | s :: r => RCons (IsErS s) (RE r)
theorem re_mon : ∀ {ss : List (Addr × Option (Str × V))} {vs : List V} {G G' : Hp}, Same G G' → RE ss vs G → RE ss vs G'
  | [], _, _, _, _, h => h
  | s :: r, _, _, _, t, ⟨v, w, e, h, h'⟩ => ⟨v, w, e, Mon.mon t h, re_mon t h'⟩
instance (ss) : Mons (RE ss) := ⟨re_mon⟩
/-! ### texts and lists several times -/
def rMulS : R2 := fun x y H Q => ∃ (a : Str) (k : Int), x = .str a ∧ y = .int k ∧ 2 ≤ k ∧ k ≤ 1000 ∧ 1 ≤ a.length ∧ a.length ≤ 1000 ∧ ((List.replicate k.toNat a.cps).foldl (· ++ ·) #[]).size ≤ sizeLine ∧ Q (.str ⟨(List.replicate k.toNat a.cps).foldl (· ++ ·) #[]⟩) H
theorem op_mulS {X : Cx} : OpR X (binaryOp .Mult) rMulS := by
  intro pins s σ H x y v u Q I rx ry h
  obtain ⟨a, k, rfl, rfl, k0, k1, l0, l1, hz, q⟩ := h
  obtain ⟨t, rfl⟩ := rx
  obtain ⟨t2, rfl⟩ := ry
  have n1 : ¬ k < 1 := by omega
  have n2 : (k == 1 || a.length == 0) = false := by
    rw [Bool.or_eq_false_iff]
    exact ⟨by simp; omega, by simp; omega⟩
  refine PySem.P.mul_str ?_ (fun _ _ => ?_) (fun _ _ => ?_) ?_
  · rw [Bool.or_eq_false_iff]
    exact ⟨by simp; omega, by simp; omega⟩
  · have h3 : (2 ^ 63 - 1 : Int) / 1000 ≤ (2 ^ 63 - 1) / k := by
      rw [Int.le_ediv_iff_mul_le (by omega)]
      have : (2 ^ 63 - 1 : Int) / 1000 * k ≤ (2 ^ 63 - 1 : Int) / 1000 * 1000 := Int.mul_le_mul_of_nonneg_left k1 (by decide)
      omega
    have h4 : ((a.length : Nat) : Int) ≤ 1000 := by omega
    have h5 : (1000 : Int) ≤ (2 ^ 63 - 1) / 1000 := by decide
    omega
  · have : a.length * k.toNat ≤ 1000 * 1000 := Nat.mul_le_mul l1 (by omega)
    unfold PySem.Builtin.Str.tooLong
    rw [decide_eq_false]
    rw [sizeLine_eq]
    omega
  · rw [if_neg n1, n2, if_neg (by decide)]
    exact ⟨hz, ⟨.str _, H, I.tok _, ⟨_, rfl⟩, q⟩⟩
def IsBl (L : List V) : HR := fun v G' => ∃ p, v = .ref p ∧ G' p = some (.lst L)
instance (L) : Mon (IsBl L) := ⟨fun s ⟨p, e, h⟩ => ⟨p, e, s _ _ h⟩⟩
end L2.DS
/-! Lists told thing by thing; comprehensions of two loops, over pairs. -/
namespace L2.DS
open PySem PySem.Spec PyProof.Rows
section
variable {α : Type} {R : α → HR}
/-- one thing behind the other, as R tells each -/
def RL (R : α → HR) : List α → HRs
  | [] => RNil
  | a :: r => RCons (R a) (RL R r)
theorem rl_mon [∀ a, Mon (R a)] : ∀ {ss : List α} {vs : List V} {G G' : Hp}, Same G G' → RL R ss vs G → RL R ss vs G'
  | [], _, _, _, _, h => h
  | s :: r, _, _, _, t, ⟨v, w, e, h, h'⟩ => ⟨v, w, e, Mon.mon t h, rl_mon t h'⟩
instance [∀ a, Mon (R a)] (ss : List α) : Mons (RL R ss) := ⟨rl_mon⟩
theorem rl_len : ∀ {ss : List α} {vs : List V} {G : Hp}, RL R ss vs G → vs.length = ss.length
  | [], _, _, h => by rw [show _ = [] from h]; rfl
  | s :: r, _, _, ⟨v, w, e, _, h⟩ => by rw [e, List.length_cons, List.length_cons, rl_len h]
theorem rl_app : ∀ {ss ts : List α} {vs ws : List V} {G : Hp}, RL R ss vs G → RL R ts ws G → RL R (ss ++ ts) (vs ++ ws) G
  | [], _, _, _, _, h, h' => by
    obtain rfl := (show _ = [] from h)
    exact h'
  | s :: r, _, _, _, _, ⟨v, w, e, a, b⟩, h' => ⟨v, w ++ _, by rw [e]; rfl, a, rl_app b h'⟩
theorem rl_one {a : α} {v : V} {G : Hp} (h : R a v G) : RL R [a] [v] G := ⟨v, [], rfl, h, rfl⟩
theorem rl_get : ∀ {ss : List α} {vs : List V} {G : Hp} {i : Nat} {s : α}, RL R ss vs G → ss[i]? = some s → ∃ v, vs[i]? = some v ∧ R s v G
  | [], _, _, i, s, _, e => by simp at e
  | t :: r, _, _, 0, s, ⟨v, w, e, a, b⟩, h => by
    cases h
    exact ⟨v, by rw [e]; rfl, a⟩
  | t :: r, _, _, i + 1, s, ⟨v, w, e, a, b⟩, h => by
    obtain ⟨u, h1, h2⟩ := rl_get (i := i) b h
    exact ⟨u, by rw [e]; exact h1, h2⟩
theorem rl_vals {g : α → V} : ∀ {ss : List α} {vs : List V} {G : Hp}, RL (fun a => IsV (g a)) ss vs G → vs = ss.map g
  | [], _, _, h => h
  | s :: r, _, _, ⟨v, w, e, a, b⟩ => by rw [e, show v = g s from a, rl_vals b]; rfl
/-- a list newly made -/
def IsNX (F : Hp) (RA : HRs) : HR := fun v G => ∃ p xs, v = .ref p ∧ F p = none ∧ G p = some (.lst xs) ∧ RA xs G
instance (F RA) [Mons RA] : Mon (IsNX F RA) := ⟨fun s ⟨p, xs, e, f, h, r⟩ => ⟨p, xs, e, f, s _ _ h, Mons.mon s r⟩⟩
/-- the list at D grows -/
def LcQ (S : SR) (G2 H2 : Hp) (n : Nat) (D : Addr) (R : α → HR) (ss : List α) (J : Hp) : Prop := ∃ G3 acc, Stp S n G2 H2 G3 J ∧ G3 D = none ∧ J D = some (.lst acc) ∧ RL R ss acc G3
variable {S : SR} {n k c1 : Nat} {te el : TE} {σ : L2.St} {G : Hp} {K : PySem.W.Frag}
theorem lcq_start (st : Stab S) {G2 H2 : Hp} {D : Addr} (a : S n G2 H2) (hD : H2 D = none) : LcQ S G2 H2 n D R [] (upd H2 D (.lst [])) := by
  have gD : G2 D = none := (st.sub a).free hD
  exact ⟨G2, [], ⟨Same.refl _, kp_new (Kp.refl H2) hD, st.chg a hD a gD, fun _ _ h => .inl h⟩, gD, upd_same, rfl⟩
theorem lcq_end (st : Stab S) [∀ a, Mon (R a)] {G1 H1 G2 H2 H : Hp} {D : Addr} {ss : List α} {Q : VK} (a : Stp S n G1 H1 G2 H2) (hD : H2 D = none) (h : LcQ S G2 H2 n D R ss H)
    (q : ∀ v G' H', Stp S n G1 H1 G' H' → IsNX G1 (RL R ss) v G' → Q v H') : Q (.ref D) H := by
  obtain ⟨G3, acc, s3, c, d, r⟩ := h
  have t := a.trans s3
  have g4 : Same G3 (upd G3 D (.lst acc)) := fun y o z => by
    rw [upd_ne (ne_of_none z c)]
    exact z
  refine q (.ref D) _ H ⟨t.g.trans g4, t.k, st.pub a.s hD s3.s c d, fun b o e => ?_⟩ ⟨D, acc, rfl, t.g.free c, upd_same, rl_mon g4 r⟩
  by_cases hb : b = D
  · rw [hb]
    exact .inr (a.k.v D hD)
  · rw [upd_ne hb] at e
    exact t.n b o e
/-- one more thing -/
theorem lcq_step (st : Stab S) [∀ a, Mon (R a)] {G2 H2 J : Hp} {D : Addr} {ss : List α} {x : α} {Nx : Hp → Prop} (a : S n G2 H2) (hD : H2 D = none) (h : LcQ S G2 H2 n D R ss J) (hl : ss.length < 100000)
    (hs : ∀ G', Same G2 G' → Ev S n 0 el σ G' (R x)) (hN : ∀ J', LcQ S G2 H2 n D R (ss ++ [x]) J' → Nx J') :
    el σ J fun y H4 => ∃ acc, H4 D = some (.lst acc) ∧ acc.length < sizeLine ∧ Nx (upd H4 D (.lst (acc ++ [y]))) := by
  obtain ⟨G3, acc, s3, c, d, r⟩ := h
  refine hs G3 s3.g G3 J (Same.refl _) s3.s _ fun y G4 J4 s4 ry => ?_
  have d4 : J4 D = some (.lst acc) := s4.k.k D _ (st.fre a hD) d
  have c4 : G4 D = none := by
    cases e : G4 D with
    | none => rfl
    | some o =>
      rcases s4.n D o e with q | q
      · rw [c] at q
        cases q
      · rw [d] at q
        cases q
  have t : Stp S n G2 H2 G4 J4 := s3.trans s4
  have ll := rl_len r
  refine ⟨acc, d4, Nat.lt_of_lt_of_le (show acc.length < 100000 by omega) (by decide), hN _ ⟨G4, acc ++ [y], ⟨t.g, kp_new t.k hD, st.chg a hD t.s c4, t.n⟩, c4, upd_same, rl_app (rl_mon s4.g r) (rl_one ry)⟩⟩
theorem lcq_move (st : Stab S) [∀ a, Mon (R a)] {G2 H2 J G3 G4 H4 : Hp} {D : Addr} {ss : List α} {acc : List V} (a : S n G2 H2) (hD : H2 D = none) (s3 : Stp S n G2 H2 G3 J) (c : G3 D = none) (d : J D = some (.lst acc)) (r : RL R ss acc G3) (s4 : Stp S n G3 J G4 H4) : LcQ S G2 H2 n D R ss H4 := by
  have c4 : G4 D = none := by
    cases e : G4 D with
    | none => rfl
    | some o =>
      rcases s4.n D o e with q | q
      · rw [c] at q
        cases q
      · rw [d] at q
        cases q
  exact ⟨G4, acc, s3.trans s4, c4, s4.k.k D _ (st.fre a hD) d, rl_mon s4.g r⟩
end
end L2.DS
/-! Scales of spans. -/
namespace L2.DS
open PySem PySem.Spec PyProof.Rows
/-- the tuple of two whole numbers -/
def IsPr (s : Int × Int) : HR := fun v G => ∃ p, v = .ref p ∧ G p = some (.tup [.int s.1, .int s.2])
instance (s) : Mon (IsPr s) := ⟨fun t ⟨p, e, h⟩ => ⟨p, e, t _ _ h⟩⟩
def spansL (m : Nat) : List (Int × Int) := (List.range (m + 1)).flatMap fun a => (List.range (((m : Int) + 1) - (a : Nat)).toNat).map fun t => (((a : Nat) : Int), ((a : Nat) : Int) + (t : Nat))
def scut (m : Int) (a b : Int × Int) : Int × Int := (if a.1 + b.1 > m then m else a.1 + b.1, if a.2 + b.2 > m then m else a.2 + b.2)
def seit (a b : Int × Int) : Int × Int := (if a.1 < b.1 then a.1 else b.1, if a.2 > b.2 then a.2 else b.2)
/-- the place of a span behind never -/
def spl (m : Nat) (s : Int × Int) : Nat := (spansL m).idxOf s + 1
def sth (m : Nat) (a b : Nat) : Int := if a = 0 ∨ b = 0 then 0 else (spl m (scut m ((spansL m).getD (a - 1) (0, 0)) ((spansL m).getD (b - 1) (0, 0))) : Nat)
def sjn (m : Nat) (a b : Nat) : Int := if a = 0 ∨ b = 0 then (a : Int) + b else (spl m (seit ((spansL m).getD (a - 1) (0, 0)) ((spansL m).getD (b - 1) (0, 0))) : Nat)
def sword (m : Int) (s : Int × Int) : Str := (cword m s.1 ++ ("to" : Str)) ++ cword m s.2
def swords (m : Nat) : List Str := (spansL m).map (sword (m : Nat))
def slabel (m : Int) : Str := (("(span " : Str) ++ (toString m : Str)) ++ (")" : Str)
end L2.DS
/-! Growing lists told thing by thing; loops with free invariants; l.index. -/
namespace L2.DS
open PySem PySem.Spec PyProof.Rows
section
variable {α : Type} {R : α → HR} {S : SR} {n n0 k : Nat} {te : TE} {t : TA} {tb u : TS} {σ : L2.St} {G H G1 H1 J : Hp} {nx bk ct : L2.St → Hp → Prop} {rt : VK} {i j : Nat} {K : PySem.W.Frag} {D p : Addr} {ss : List α} {x : α} {xs : List V}
/-- x = [..], a list that shall grow -/
theorem q_newX (st : Stab S) [∀ a, Mon (R a)] (s : S n G H) (e : EvA S n k t σ G (RL R ss)) (hl : ss.length ≤ 100000)
    (h : ∀ D G1 H1 J, Stp S (n + k) G H G1 H1 → H1 D = none → LcQ S G1 H1 (n + k) D R ss J → u (Ends.mk nx rt bk ct) (σ.set i (some (.ref D))) J) :
    tSeq (tAsg (tLst t) (gName i)) u (Ends.mk nx rt bk ct) σ H := e G H (Same.refl _) s _ fun ws G1 H1 s1 ev => by
  refine ⟨by rw [rl_len ev]; exact Nat.le_trans hl (by decide), fun D hD => ?_⟩
  have gD : G1 D = none := (st.sub s1.s).free hD
  exact h D G1 H1 _ s1 hD ⟨G1, ws, ⟨Same.refl _, kp_new (Kp.refl H1) hD, st.chg s1.s hD s1.s gD, fun _ _ h => .inl h⟩, gD, upd_same, ev⟩
theorem LcQ.sub (st : Stab S) (h : LcQ S G1 H1 n D R ss J) : ∃ G3, Same G1 G3 ∧ S n G3 J := by
  obtain ⟨G3, acc, s3, _⟩ := h
  exact ⟨G3, s3.g, s3.s⟩
/-- the list is done -/
theorem LcQ.pub (st : Stab S) [∀ a, Mon (R a)] (a : S n0 G1 H1) (hn : n0 ≤ n) (hD : H1 D = none) (h : LcQ S G1 H1 n D R ss J) : ∃ G', Stp S n G1 H1 G' J ∧ IsNX G1 (RL R ss) (.ref D) G' :=
  lcq_end (Q := fun v H => ∃ G', Stp S n G1 H1 G' H ∧ IsNX G1 (RL R ss) v G') st (Stp.refl (st.wk a hn)) hD h fun v G' H' s r => ⟨G', s, r⟩
/-- for x in range(m), any invariant -/
theorem q_forI1 {m : Int} {ta : TA} (s : S n G H) (e : EvA S n k ta σ G (IsVs [.int m])) (h1 : -(2 ^ 62) ≤ m) (h2 : m < 2 ^ 62) (Pv : Nat → L2.St → Hp → Prop) (h0 : ∀ G' H', Stp S (n + k) G H G' H' → Pv 0 σ H')
    (hs : ∀ (j : Nat) σ' J, (j : Int) < m → Pv j σ' J → tb (Ends.mk (Pv (j + 1)) rt (u (Ends.mk nx rt bk ct)) (Pv (j + 1))) (σ'.set i (some (.int j))) J)
    (hd : ∀ σ' J, Pv m.toNat σ' J → u (Ends.mk nx rt bk ct) σ' J) : tSeq (tFor (iRng1 ta) (gName i) tb) u (Ends.mk nx rt bk ct) σ H := by
  refine e G H (Same.refl _) s _ fun v G1 H1 s1 ev => ⟨m, ev, h1, h2, for_range (lo := 0) (n := m.toNat) Pv (h0 _ _ s1) (fun j τ J hx hp => ?_) hd⟩
  show tb _ (τ.set i (some (.int (0 + j)))) J
  rw [Int.zero_add]
  exact hs j τ J (by omega) hp
theorem v_eqD (st : Stab S) {y z : V} {d e : PyData} (h1 : Dp K G y d) (h2 : Dp K G z e) (s1 : SeqAt.shaped d = true) (s2 : SeqAt.shaped e = true) : RV S (rEqA K) y z G (IsV (.bl (PyData.eqv d e))) :=
  rv_r (rv_val (fun H s Q k => ⟨_, _, dp_mon s h1, dp_mon s h2, s1, s2, k⟩) st)
end
end L2.DS
/-! Spans as the law tells them: lists, the empty one is never. -/
namespace L2.DS
open PySem PySem.Spec PyProof.Rows
abbrev OS := Option (Int × Int)
def lsv : OS → List V
  | none => [] | some s => [.int s.1, .int s.2]
def IsLs (o : OS) : HR := fun v G => ∃ p, v = .ref p ∧ G p = some (.lst (lsv o))
instance (o) : Mon (IsLs o) := ⟨fun t ⟨p, e, h⟩ => ⟨p, e, t _ _ h⟩⟩
end L2.DS
/-! A scale of any family, made and asked. -/
namespace L2.DS
open PySem PySem.Spec PyProof.Rows
def metF : List Str := ["then_at", "join_at", "within_at", "name_at", "at_name"]
/-- a scale of the class at C stands at x -/
def ScC (C x : Addr) (label : Str) (names : List Str) (nv sl dep : Int) (th jn : Nat → Nat → Int) (G : Hp) : Prop := ∃ dx fs, G x = some (.ins C dx fs) ∧ ScIs label names nv sl dep th jn fs G ∧ ∀ f ∈ metF, fs.lookup f = none
section
variable {C x : Addr} {label : Str} {names : List Str} {nv sl dep : Int} {th jn : Nat → Nat → Int} {G G' : Hp} {K : PySem.W.Frag}
theorem ScC.mono (h : ScC C x label names nv sl dep th jn G) (s : Same G G') : ScC C x label names nv sl dep th jn G' :=
  let ⟨dx, fs, a, b, c⟩ := h
  ⟨dx, fs, s _ _ a, b.mono s, c⟩
theorem ScC.of {R : OR} {v : V} (h : IsO C R v G) (i : ∀ a b fs' G', R a b fs' G' → ScIs label names nv sl dep th jn fs' G' ∧ ∀ f ∈ metF, fs'.lookup f = none) : ∃ x, v = .ref x ∧ ScC C x label names nv sl dep th jn G := by
  obtain ⟨x, dx, fs, G', rfl, gx, s, a⟩ := h
  have s' : Same G' G := fun c o e => s c o (by rw [upd_ne (ne_of_none e gx)]; exact e)
  obtain ⟨b, c⟩ := i _ _ _ _ a
  exact ⟨x, rfl, dx, fs, s _ _ upd_same, b.mono s', c⟩
variable {S : SR} {n k ka kb : Nat} {ta tb : TE} {σ : L2.St} {i : Nat} {P : Program} {w : World} {mg : Str → Option Value} {base : Heap}
end
end L2.DS
/-! Loops whose turns leave the heap; comprehensions with tests; readings of several kinds; bits. -/
namespace L2.DS
open PySem PySem.Spec PyProof.Rows
section
variable {α : Type} {R : α → HR} {S : SR} {n n0 k c1 : Nat} {te el : TE} {tt : TT} {t ta : TA} {tb u : TS} {σ : L2.St} {G H G1 H1 J : Hp} {nx bk ct : L2.St → Hp → Prop} {rt : VK} {i j : Nat} {K : PySem.W.Frag} {D p : Addr} {ss : List α} {x : α} {xs : List V} {vs : List Nat} {g : TG}
theorem et_yes : EvT S n 0 tYes σ G (fun c => c = true) := fun G1 H1 _ s Q q => tYes_run (q true G1 H1 (Stp.refl s) rfl)
theorem Stp.go {H' : Hp} (a : Stp S n0 G H G J) (k : Kp S J H') (s : S n G H') : Stp S n G H G H' := ⟨Same.refl _, a.k.trans k, s, fun _ _ h => .inl h⟩
theorem Stp.go0 {H' : Hp} (k : Kp S H H') (s : S n G H') : Stp S n G H G H' := ⟨Same.refl _, k, s, fun _ _ h => .inl h⟩
/-- for x in range(m): the turns change locals alone -/
theorem q_forP {m : Int} (st : Stab S) (s : S n G H) (e : EvA S n k ta σ G (IsVs [.int m])) (h1 : -(2 ^ 62) ≤ m) (h2 : m < 2 ^ 62) (Pv : Nat → L2.St → Prop) (h0 : Pv 0 σ)
    (hs : ∀ (j : Nat) σ' J, (j : Int) < m → Pv j σ' → Stp S (n + k) G H G J → tb (Ends.mk (fun τ J => Pv (j + 1) τ ∧ Stp S (n + k) G H G J) rt (u (Ends.mk nx rt bk ct)) (fun τ J => Pv (j + 1) τ ∧ Stp S (n + k) G H G J)) (σ'.set i (some (.int j))) J)
    (hd : ∀ σ' J, Pv m.toNat σ' → Stp S (n + k) G H G J → u (Ends.mk nx rt bk ct) σ' J) : tSeq (tFor (iRng1 ta) (gName i) tb) u (Ends.mk nx rt bk ct) σ H := by
  refine e G H (Same.refl _) s _ fun v G1 H1 s1 ev => ⟨m, ev, h1, h2, for_range (lo := 0) (n := m.toNat) (fun j τ J => Pv j τ ∧ Stp S (n + k) G H G J) ⟨h0, Stp.go0 s1.k (st.anti s s1.s s1.g)⟩ (fun j τ J hx hp => ?_) fun τ J hp => hd τ J hp.1 hp.2⟩
  show tb _ (τ.set i (some (.int (0 + j)))) J
  rw [Int.zero_add]
  exact hs j τ J (by omega) hp.1 hp.2
/-- a turn of a comprehension with a test -/
theorem lcq_test (st : Stab S) [∀ a, Mon (R a)] {G2 H2 J : Hp} {D : Addr} {ss : List α} {x : α} {b : Bool} {Nx : Hp → Prop} (a : S n G2 H2) (hD : H2 D = none) (h : LcQ S G2 H2 n D R ss J) (hl : ss.length < 100000)
    (ht : ∀ G', Same G2 G' → EvT S n 0 tt σ G' (fun c => c = b)) (hs : b = true → ∀ G', Same G2 G' → Ev S n 0 el σ G' (R x)) (hN : ∀ J', LcQ S G2 H2 n D R (if b then ss ++ [x] else ss) J' → Nx J') :
    tt σ J fun b H3 => if b = true then el σ H3 fun y H4 => ∃ acc, H4 D = some (.lst acc) ∧ acc.length < sizeLine ∧ Nx (upd H4 D (.lst (acc ++ [y]))) else Nx H3 := by
  obtain ⟨G3, acc, s3, c, d, r⟩ := id h
  refine ht G3 s3.g G3 J (Same.refl _) s3.s _ fun c' G4 H4 s4 e => ?_
  have e : c' = b := e
  subst e
  have h4 : LcQ S G2 H2 n D R ss H4 := lcq_move st a hD s3 c d r s4
  cases c' with
  | true => exact iteT (lcq_step st a hD h4 hl (hs rfl) hN)
  | false => exact iteF (hN _ h4)
theorem filt_step {b : Nat → Bool} {sj : Nat → α} (j : Nat) : ((List.range (j + 1)).filter b).map sj = if b j then ((List.range j).filter b).map sj ++ [sj j] else ((List.range j).filter b).map sj := by
  rw [List.range_succ, List.filter_append, List.map_append]
  by_cases h : b j
  · rw [if_pos h, List.filter_cons_of_pos h]
    rfl
  · rw [if_neg h, List.filter_cons_of_neg h]
    simp
theorem filt_len {b : Nat → Bool} {sj : Nat → α} (j : Nat) : (((List.range j).filter b).map sj).length ≤ j := by
  rw [List.length_map]
  have := List.length_filter_le b (List.range j)
  rw [List.length_range] at this
  exact this
/-- [el for .. in xs if tt], any target -/
theorem ev_lcF (st : Stab S) [∀ a, Mon (R a)] {b : Nat → Bool} {sj : Nat → α} {σf : Nat → L2.St} (e : Ev S n k te σ G (IsV (.ref p))) (hq : SqL K G p xs) (hl : xs.length ≤ 100000)
    (hg : ∀ j x G' J, xs[j]? = some x → Same G G' → Same G' J → ∀ Q : L2.St → Hp → Prop, Q (σf j) J → g x (wipe σ vs) J Q) (hw : ∀ j, wipe (σf j) vs = wipe σ vs)
    (ht : ∀ j x G', xs[j]? = some x → Same G G' → EvT S (n + k) 0 tt (σf j) G' (fun c => c = b j))
    (hs : ∀ j x G', xs[j]? = some x → b j = true → Same G G' → Ev S (n + k) 0 el (σf j) G' (R (sj j))) : Ev S n k (tLc (iList K te) g tt el vs) σ G (IsNX G (RL R (((List.range xs.length).filter b).map sj))) := fun G1 H1 s0 s Q q =>
  e G1 H1 s0 s _ fun v G2 H2 s2 ev => ⟨p, ev, ⟨xs, Same.seq (s0.trans (s2.g.trans (st.sub s2.s))) hq⟩, fun D hD =>
    lc_list (K := K) (a := p) (xs := xs) (fun j J => LcQ S G2 H2 (n + k) D R (((List.range j).filter b).map sj) J) (lcq_start st s2.s hD) (fun j J _ ⟨G3, acc, a, _⟩ => ((s0.trans s2.g).trans (a.g.trans (st.sub a.s))).seq hq)
      (fun j x J hx' h => by
        have hj : j < xs.length := (List.getElem?_eq_some_iff.mp hx').1
        obtain ⟨G3, acc, a, _⟩ := id h
        refine hg j x G3 J hx' ((s0.trans s2.g).trans a.g) (st.sub a.s) _ ⟨hw j, ?_⟩
        have hll := filt_len (b := b) (sj := sj) j
        refine lcq_test (b := b j) (x := sj j) (Nx := fun J => LcQ S G2 H2 (n + k) D R (((List.range (j + 1)).filter b).map sj) J) st s2.s hD h (by omega) (fun G' g' => ht j x G' hx' ((s0.trans s2.g).trans g')) (fun hb G' g' => hs j x G' hx' hb ((s0.trans s2.g).trans g')) fun J' h' => ?_
        rw [filt_step]
        exact h')
      fun J h => by
        refine lcq_end st s2 hD h fun v G' H' s' r => q v G' H' s' ?_
        obtain ⟨p', ys, e1, e2, e3, e4⟩ := r
        exact ⟨p', ys, e1, s0.free e2, e3, e4⟩⟩
/-- values alone -/
theorem isNX_V {F : Hp} {f : α → V} {v : V} (h : IsNX F (RL (fun a => IsV (f a)) ss) v G) : IsNew F (.lst (ss.map f)) v G := by
  obtain ⟨p, xs, e, a, b, r⟩ := h
  rw [rl_vals r] at b
  exact ⟨p, e, a, b⟩
theorem filt_true {m : Nat} {sj : Nat → α} : ((List.range m).filter fun _ => true).map sj = (List.range m).map sj := by
  rw [List.filter_eq_self.mpr fun _ _ => rfl]
theorem ev_eq {y z : V} (h : y = z) (e : Ev S n k te σ G (IsV y)) : Ev S n k te σ G (IsV z) := h ▸ e
/-- .. if .. else .., the test anything -/
theorem ev_ifA (st : Stab S) {Rr : HR} {ta2 tb2 : TE} {ka kb kc : Nat} (h : EvT S n kc tt σ G (fun _ => True)) (h1 : Ev S (n + kc) ka ta2 σ G Rr) (h2 : Ev S (n + kc) kb tb2 σ G Rr) : Ev S n (kc + (ka + kb)) (tIf tt ta2 tb2) σ G Rr := fun G1 H1 s0 s Q q =>
  h G1 H1 s0 s _ fun b G2 H2 s2 _ => by
    cases b with
    | true => exact iteT (h1 G2 H2 (s0.trans s2.g) s2.s Q fun v G3 H3 s3 e => q v G3 H3 ((s2.trans s3).wk st (by omega)) e)
    | false => exact iteF (h2 G2 H2 (s0.trans s2.g) s2.s Q fun v G3 H3 s3 e => q v G3 H3 ((s2.trans s3).wk st (by omega)) e)
end
/-! ### readings of one of two kinds -/
/-! ### bits -/
/-! ### str.join -/
def rJoinK (K : PySem.W.Frag) : V → List V → Hp → VK → Prop := fun x xs H Q => ∃ a p, ∃ ys : List Str, x = .str a ∧ xs = [.ref p] ∧ (SqL K H p (ys.map V.str) ∨ SqT K H p (ys.map V.str)) ∧ (ys.map (·.length)).sum + ys.length * a.length ≤ 16777216 ∧ Q (.str (Txt.join a ys)) H
theorem pe_joinK {X : Cx} (K : PySem.W.Frag) {o e : Expr} {to te : TE} {apos pos : Pos} (ho : PE X o to) (he : PE X e te) (hs : starEach [e] X.env = [(false, eval e X.env)] := by rfl) (hbase : attributeBase o "join" X.env (eval o X.env) = eval o X.env := by rfl) (hline : (apos.endLine == pos.line) = true := by rfl) (hK : X.K = K := by rfl) :
    PE X (.Call (.Attribute o "join" apos) [e] [] pos) (tM1 (rJoinK K) to te) := by
  subst hK
  exact pe_join ho he hs hbase hline
section
variable {S : SR} {n k ka kb : Nat} {to te : TE} {σ : L2.St} {K : PySem.W.Frag} {G : Hp} {a : Str} {ys : List Str}
theorem ev_join (st : Stab S) (ho : Ev S n ka to σ G (IsV (.str a))) (he : Ev S (n + ka) kb te σ G (IsL K (ys.map V.str))) (hl : (ys.map (·.length)).sum + ys.length * a.length ≤ 16777216) : Ev S n (ka + kb) (tM1 (rJoinK K) to te) σ G (IsV (.str (Txt.join a ys))) := fun G1 H1 s0 s Q q =>
  ho G1 H1 s0 s _ fun v G2 H2 s2 e => ⟨⟨a, e⟩, he G2 H2 (s0.trans s2.g) s2.s _ fun w G3 H3 s3 ⟨p, e', hp⟩ => by
    obtain rfl : v = _ := e
    subst e'
    exact ⟨a, p, ys, rfl, rfl, .inl ((st.sub s3.s).seq hp), hl, q _ G3 H3 (s2.trans s3).up rfl⟩⟩
end
/-- a scale of the class at C -/
def IsSc (C : Addr) (label : Str) (names : List Str) (nv sl dep : Int) (th jn : Nat → Nat → Int) : HR := fun v G => ∃ x, v = .ref x ∧ ScC C x label names nv sl dep th jn G
instance (C label names nv sl dep th jn) : Mon (IsSc C label names nv sl dep th jn) := ⟨fun s ⟨x, e, h⟩ => ⟨x, e, h.mono s⟩⟩
end L2.DS
/-! Scales of sets and of relations; bits as the law tells them. -/
namespace L2.DS
open PySem PySem.Spec PyProof.Rows
/-- digits_of(number, width) -/
def digs : Nat → Int → Str
  | 0, _ => ("" : Str)
  | w + 1, n => (toString (Builtin.bitAnd (n / 2 ^ w) 1) : Str) ++ digs w n
def joinS (may : Bool) : Str := if may then "may" else "must"
/-- scales of sets -/
def tth (a b : Nat) : Int := if a = 0 ∨ b = 0 then 0 else Builtin.bitOr ((a : Int) - 1) ((b : Int) - 1) + 1
def teit (may : Bool) (x y : Int) : Int := if may then Builtin.bitOr x y else Builtin.bitAnd x y
def tjn (may : Bool) (a b : Nat) : Int := if a = 0 ∨ b = 0 then (a : Int) + b else teit may ((a : Int) - 1) ((b : Int) - 1) + 1
def twords (c : Nat) : List Str := (List.range (2 ^ c)).map fun i => digs c (i : Nat)
def tlabel (c : Int) (may : Bool) : Str := (((("(set " : Str) ++ (toString c : Str)) ++ (" " : Str)) ++ joinS may) ++ (")" : Str)
/-! scales of relations -/
def arr (s : Nat) (p : Int) : List (Int × Int) := ((List.range (s * s)).filter fun c => decide (Builtin.bitAnd (p / 2 ^ (((s : Int) * s - 1 - (c : Nat)).toNat)) 1 = 1)).map fun c => (((c : Nat) : Int) / (s : Nat), ((c : Nat) : Int) % (s : Nat))
def wput (s : Nat) (f : Int) (p q : Int × Int) : Int := if p.2 = q.1 then Builtin.bitOr f (1 * 2 ^ (((s : Int) * s - 1 - p.1 * s - q.2).toNat)) else f
def wth (s a b : Nat) : Int := (arr s a).foldl (fun f p => (arr s b).foldl (fun f q => wput s f p q) f) 0
def wjn (a b : Nat) : Int := Builtin.bitOr (a : Nat) (b : Nat)
def wwords (s : Nat) : List Str := (List.range (2 ^ (s * s))).map fun i => digs (s * s) (i : Nat)
def wstill (s : Nat) : Int := ((List.range s).map fun k => (1 * 2 ^ (((s : Int) * s - 1 - (k : Nat) * ((s : Int) + 1)).toNat) : Int)).sum
def wlabel (s : Int) : Str := (("(watch " : Str) ++ (toString s : Str)) ++ (")" : Str)
/-! the law's own bits -/
end L2.DS
/-! Tables: texts sign by sign, all and any, dicts of places; lists that are changed behind what stands. -/
namespace L2.DS
open PySem PySem.Spec PyProof.Rows
/-! ### texts -/
theorem lc_str {x : Str} {g : TG} {tt : TT} {te : TE} {vs : List Nat} {σ : L2.St} {H1 : Hp} {D : Addr} {Qd : Hp → Prop} (Pv : Nat → Hp → Prop) (h0 : Pv 0 (upd H1 D (.lst [])))
    (hs : ∀ (i : Nat) c H, x.cps[i]? = some c → Pv i H → g (.str ⟨#[c]⟩) (wipe σ vs) H fun σ2 H2 => wipe σ2 vs = wipe σ vs ∧ tt σ2 H2 fun b H3 =>
      if b = true then te σ2 H3 fun y H4 => ∃ acc, H4 D = some (.lst acc) ∧ acc.length < sizeLine ∧ Pv (i + 1) (upd H4 D (.lst (acc ++ [y]))) else Pv (i + 1) H3) (hd : ∀ H, Pv x.cps.size H → Qd H) :
    ∃ W : Nat → Nat → Hp → Prop, (∃ m, W 0 m (upd H1 D (.lst []))) ∧ ∀ i m H, W i m H →
      ((Its x).stop i H ∧ Qd H) ∨ ((Its x).go i H ∧ ∃ Nx : Hp → Prop, (∀ H', Nx H' → ∃ m', m' < m ∧ W (i + 1) m' H') ∧ ∀ v H', (Its x).yld i H v H' → g v (wipe σ vs) H' fun σ2 H2 => wipe σ2 vs = wipe σ vs ∧ tt σ2 H2 fun b H3 =>
        if b = true then te σ2 H3 fun y H4 => ∃ acc, H4 D = some (.lst acc) ∧ acc.length < sizeLine ∧ Nx (upd H4 D (.lst (acc ++ [y]))) else Nx H3) := by
  refine ⟨fun i m H => m = x.cps.size - i ∧ i ≤ x.cps.size ∧ Pv i H, ⟨x.cps.size, by simp, Nat.zero_le _, h0⟩, ?_⟩
  rintro i m H ⟨rfl, hi, p⟩
  by_cases hlt : i < x.cps.size
  · refine .inr ⟨hlt, Pv (i + 1), fun H' p' => ⟨x.cps.size - (i + 1), by omega, rfl, hlt, p'⟩, fun v H' y => ?_⟩
    obtain ⟨rfl, c, hc, rfl⟩ := y
    exact hs i c _ hc p
  · have e : i = x.cps.size := by omega
    subst e
    exact .inl ⟨Nat.le_refl _, hd H p⟩
section
variable {S : SR} {n k ka kb : Nat} {te el ta : TE} {t : TA} {σ : L2.St} {G : Hp} {K : PySem.W.Frag} {i j : Nat} {z : Str} {vs : List Nat} {p : Addr} {xs : List V}
/-- [el for c in z], values -/
theorem ev_lcS (st : Stab S) {f : Nat → V} (e : Ev S n k te σ G (IsV (.str z))) (hl : z.length ≤ 100000) (hw : ∀ x : V, wipe ((wipe σ vs).set i (some x)) vs = wipe σ vs)
    (hs : ∀ c G', c ∈ z.cps.toList → Same G G' → Ev S (n + k) 0 el ((wipe σ vs).set i (some (.str ⟨#[c]⟩))) G' (IsV (f c))) : Ev S n k (tLc (iStr te) (gName i) tYes el vs) σ G (IsNew G (.lst (z.cps.toList.map f))) := fun G1 H1 s0 s Q q =>
  e G1 H1 s0 s _ fun v G2 H2 s2 ev => ⟨z, ev, fun D hD =>
    lc_str (x := z) (fun j J => LcQ S G2 H2 (n + k) D (fun v : V => IsV v) ((z.cps.toList.take j).map f) J) (lcq_start st s2.s hD)
      (fun j c J hc h => by
        have hj : j < z.cps.size := (Array.getElem?_eq_some_iff.mp hc).1
        have hcl : z.cps.toList[j]? = some c := by rw [Array.getElem?_toList]; exact hc
        refine ⟨hw _, tYes_run (iteT ?_)⟩
        refine lcq_step (x := f c) (Nx := fun J => LcQ S G2 H2 (n + k) D (fun v : V => IsV v) ((z.cps.toList.take (j + 1)).map f) J) st s2.s hD h (by rw [List.length_map, List.length_take]; have : z.cps.toList.length = z.length := rfl; have : z.cps.size = z.length := rfl; omega) (fun G' g' => hs c G' (List.mem_of_getElem? hcl) ((s0.trans s2.g).trans g')) fun J' h' => ?_
        rw [List.take_succ, hcl, List.map_append]
        exact h')
      fun J h => by
        rw [show z.cps.size = z.cps.toList.length from rfl, List.take_length] at h
        refine lcq_end st s2 hD h fun v G' H' s' r => q v G' H' s' ?_
        obtain ⟨p', ys, e1, e2, e3, e4⟩ := r
        rw [rl_vals (g := fun v : V => v) e4, List.map_id'] at e3
        exact ⟨p', e1, s0.free e2, e3⟩⟩
theorem v_ixS (st : Stab S) {a : Int} {c : Nat} (hl : z.length ≤ sizeLine) (ha : atI z.cps.toList a = some c) : RV S (rIxA K) (.str z) (.int a) G (IsV (.str ⟨#[c]⟩)) := rv_l (rv_r (rv_r (rv_val (fun H _ Q q => ⟨z, a, c, rfl, rfl, hl, ha, q⟩) st)))
theorem v_inS (st : Stab S) {y : Str} : RV S (fun x y H Q => ∃ i j, x = .str i ∧ y = .str j ∧ Q (.bl (!(Builtin.Str.occurrences j i 0 j.length 1).isEmpty)) H) (.str y) (.str z) G (IsV (.bl (!(Builtin.Str.occurrences z y 0 z.length 1).isEmpty))) := rv_val (fun H _ Q q => ⟨y, z, rfl, rfl, q⟩) st
theorem c_all (st : Stab S) {bs : List Bool} (h : SqL K G p (bs.map V.bl)) : RC S (rAll K) [.ref p] G (IsV (.bl (bs.all id))) := rc_val (fun H s Q q => ⟨p, bs, rfl, s.seq h, q⟩) st
theorem v_inD (st : Stab S) {neg : Bool} {kvs : List (Key × V)} {key : Key} (h : G p = some (.dK kvs)) : RV S (rInA K neg) (kV key) (.ref p) G (IsV (.bl (if neg then !(valV kvs key).isSome else (valV kvs key).isSome))) := rv_r (rv_val (fun H s Q q => ⟨p, _, rfl, DGet.k (s _ _ h), q⟩) st)
end
/-! ### name = {..} on one line -/
/-! ### all that stands but some lists -/
noncomputable def cut (G : Hp) (X : Addr → Prop) : Hp := fun b => open Classical in if X b then none else G b
theorem cut_in {G : Hp} {X : Addr → Prop} {b : Addr} (h : X b) : cut G X b = none := if_pos h
theorem cut_out {G : Hp} {X : Addr → Prop} {b : Addr} (h : ¬ X b) : cut G X b = G b := if_neg h
theorem cut_same {G : Hp} {X : Addr → Prop} : Same (cut G X) G := fun b o e => by
  by_cases h : X b
  · rw [cut_in h] at e
    cases e
  · rw [cut_out h] at e
    exact e
theorem cut_old {G0 G : Hp} {X : Addr → Prop} (s : Same G0 G) (h : ∀ b, X b → G0 b = none) : Same G0 (cut G X) := fun b o e => by
  rw [cut_out fun z => by rw [h b z] at e; cases e]
  exact s b o e
def LstX (G : Hp) (X : Addr → Prop) : Prop := ∀ b, X b → ∃ xs, G b = some (.lst xs)
theorem LstX.keep {G : Hp} {X : Addr → Prop} (h : LstX G X) {b : Addr} {o : HO} (e : G b = some o) (n : ∀ xs, o ≠ .lst xs) : cut G X b = some o := by
  rw [cut_out]
  · exact e
  · intro z
    obtain ⟨xs, hx⟩ := h b z
    rw [hx] at e
    exact n xs (Option.some.inj e).symm
theorem tab_cut {G : Hp} {X : Addr → Prop} {p : Addr} {n : Nat} {th : Nat → Nat → Int} (hX : LstX G X) (h : Tab G p n th) : Tab (cut G X) p n th := by
  obtain ⟨p', ys, e, hp, l, r⟩ := h
  refine ⟨p', ys, e, hX.keep hp (fun _ z => by cases z), l, fun i y z => ?_⟩
  obtain ⟨q, zs, e2, hq, l2, r2⟩ := r i y z
  exact ⟨q, zs, e2, hX.keep hq (fun _ z => by cases z), l2, r2⟩
theorem ScC.cut {C x : Addr} {label : Str} {names : List Str} {nv sl dep : Int} {th jn : Nat → Nat → Int} {G : Hp} {X : Addr → Prop} (hX : LstX G X) (h : ScC C x label names nv sl dep th jn G) : ScC C x label names nv sl dep th jn (DS.cut G X) := by
  obtain ⟨dx, fs, a, b, c⟩ := h
  refine ⟨dx, fs, hX.keep a (fun _ z => by cases z), ⟨b.lab, b.siz, b.nev, b.sti, b.dep, ?_, ?_, ?_, ?_⟩, c⟩
  · obtain ⟨p, e, g⟩ := b.nam
    exact ⟨p, e, hX.keep g (fun _ z => by cases z)⟩
  · obtain ⟨p, e, g⟩ := b.pla
    exact ⟨p, e, hX.keep g (fun _ z => by cases z)⟩
  · obtain ⟨p, e, g⟩ := b.pro
    exact ⟨p, e, tab_cut hX g⟩
  · obtain ⟨p, e, g⟩ := b.joi
    exact ⟨p, e, tab_cut hX g⟩
theorem src_cut {st cl : Addr} {n : Nat} {G H : Hp} {X : Addr → Prop} (h : Src st cl n G H) : Src st cl n (cut G X) H := by
  obtain ⟨a, b, c, d⟩ := h
  have k : ∀ {b : Addr}, G b = none → cut G X b = none := fun {b} e => by
    by_cases z : X b
    · exact cut_in z
    · rw [cut_out z]; exact e
  exact ⟨cut_same.trans a, k b, k c, d⟩
/-! ### statements that change a list -/
end L2.DS
/-! Scales of tables: what the tables tell. -/
namespace L2.DS
open PySem PySem.Spec PyProof.Rows
def signsL : Str := "abcdefghijklmnopqrstuvwxyz0123456789"
def sgn (c : Nat) : Bool := !(Builtin.Str.occurrences signsL ⟨#[c]⟩ 0 signsL.length 1).isEmpty
def okNm (nm : Str) : Bool := (decide ((1 : Int) ≤ nm.length) && decide ((nm.length : Int) ≤ 12)) && (nm.cps.toList.map sgn).all id
theorem okNm_len {nm : Str} (h : okNm nm = true) : 1 ≤ nm.length ∧ nm.length ≤ 12 := by
  unfold okNm at h
  rw [Bool.and_eq_true, Bool.and_eq_true] at h
  have h1 := of_decide_eq_true h.1.1
  have h2 := of_decide_eq_true h.1.2
  omega
def joinR (rows : List (List Str)) : Str := Txt.join (" " : Str) (rows.map fun r => Txt.join (" " : Str) r)
def tbLab (names : List Str) (never still : Str) (joins products : List (List Str)) : Str :=
  ("(table (" : Str) ++ Txt.join (" " : Str) names ++ (") " : Str) ++ (never ++ (" " : Str) ++ still) ++ (" (" : Str) ++ joinR joins ++ (") (" : Str) ++ joinR products ++ ("))" : Str)
structure TbOk (names : List Str) (joins products : List (List Str)) (never still : Str) : Prop where
  l1 : 1 ≤ names.length
  l2 : names.length ≤ 16
  nd : names.Nodup
  ok : ∀ nm ∈ names, okNm nm = true
  nv : never ∈ names
  sl : still ∈ names
  jl : joins.length = names.length
  jr : ∀ r ∈ joins, r.length = names.length ∧ ∀ e ∈ r, e ∈ names
  pl : products.length = names.length
  pr : ∀ r ∈ products, r.length = names.length ∧ ∀ e ∈ r, e ∈ names
/-- a list of texts, of places -/
def IsSR (row : List Str) : HR := fun v G => ∃ p, v = .ref p ∧ G p = some (.lst (row.map V.str))
instance (row) : Mon (IsSR row) := ⟨fun s ⟨p, e, h⟩ => ⟨p, e, s _ _ h⟩⟩
def IsIR (names row : List Str) : HR := fun v G => ∃ p, v = .ref p ∧ G p = some (.lst (row.map fun e => V.int (names.idxOf e : Nat)))
instance (names row) : Mon (IsIR names row) := ⟨fun s ⟨p, e, h⟩ => ⟨p, e, s _ _ h⟩⟩
def TabS (G : Hp) (p : Addr) (rows : List (List Str)) : Prop := ∃ vs, G p = some (.lst vs) ∧ RL IsSR rows vs G
theorem TabS.mono {G G' : Hp} {p : Addr} {rows : List (List Str)} (h : TabS G p rows) (s : Same G G') : TabS G' p rows := let ⟨vs, a, b⟩ := h; ⟨vs, s _ _ a, rl_mon s b⟩
def TabI (names : List Str) (G : Hp) (p : Addr) (rows : List (List Str)) : Prop := ∃ vs, G p = some (.lst vs) ∧ RL (IsIR names) rows vs G
theorem TabI.mono {names : List Str} {G G' : Hp} {p : Addr} {rows : List (List Str)} (h : TabI names G p rows) (s : Same G G') : TabI names G' p rows := let ⟨vs, a, b⟩ := h; ⟨vs, s _ _ a, rl_mon s b⟩
/-! lengths -/
/-! promises -/
end L2.DS
/-! The laws' own tables: drawn names, their places, data of tables. -/
namespace L2.DS
open PySem PySem.Spec PyProof.Rows
section
variable {S : SR} {n k : Nat} {ta : TA} {tb u : TS} {σ : L2.St} {G H : Hp} {nx bk ct : L2.St → Hp → Prop} {rt : VK} {i : Nat}
/-- for x in range(m), m as Pm tells, the turn below m -/
theorem q_forRB {Pm : Int → Prop} (st : Stab S) (s : S n G H) (e : EvA S n k ta σ G (RCons (IsI Pm) RNil)) (c : Nat → Nat) (P : Nat → L2.St → Hp → Hp → Prop) (hc : c 0 = 0) (hm : ∀ m, Pm m → 0 ≤ m ∧ m ≤ 100000) (h0 : ∀ H', Kp S H H' → S (n + k) G H' → P 0 σ G H')
    (hs : ∀ (m : Int) (j : Nat) σ' G' H', Pm m → (j : Int) < m → Same G G' → S (n + k + c j) G' H' → P j σ' G' H' →
      tb (Ends.mk (fun τ J => ∃ G2, Same G G2 ∧ S (n + k + c (j + 1)) G2 J ∧ P (j + 1) τ G2 J) rt (u (Ends.mk nx rt bk ct)) (fun τ J => ∃ G2, Same G G2 ∧ S (n + k + c (j + 1)) G2 J ∧ P (j + 1) τ G2 J)) (σ'.set i (some (.int j))) H')
    (hd : ∀ (m : Nat) σ' G' H', Pm (m : Nat) → Same G G' → S (n + k + c m) G' H' → P m σ' G' H' → u (Ends.mk nx rt bk ct) σ' H') : tSeq (tFor (iRng1 ta) (gName i) tb) u (Ends.mk nx rt bk ct) σ H := by
  refine e G H (Same.refl _) s _ fun v G1 H1 s1 ev => ?_
  obtain ⟨_, _, rfl, ⟨m, pm, rfl⟩, ev⟩ := ev
  obtain rfl := (show _ = _ from ev)
  obtain ⟨m0, m1⟩ := hm m pm
  have hs2 := st.anti s s1.s s1.g
  refine ⟨m, rfl, by omega, by omega, for_range (lo := 0) (n := m.toNat) (fun j τ J => ∃ G2, Same G G2 ∧ S (n + k + c j) G2 J ∧ P j τ G2 J) ⟨G, Same.refl _, by rw [hc]; exact hs2, h0 H1 s1.k hs2⟩ (fun j τ J hx ⟨G2, a, b, d⟩ => ?_) fun τ J ⟨G2, a, b, d⟩ => hd m.toNat τ G2 J (by rw [show ((m.toNat : Nat) : Int) = m by omega]; exact pm) a b d⟩
  show tb _ (τ.set i (some (.int (0 + j)))) J
  rw [Int.zero_add]
  exact hs m j τ G2 J pm (by omega) a b d
end
/-! names that are drawn -/
theorem cutS_suf {z : Str} {c : Nat} (h : c ≤ z.length) : (cutS z (some (c : Nat)) none).cps.toList = z.cps.toList.drop c := by
  unfold cutS
  have e1 : HT.sIx z.length 0 (some ((c : Nat) : Int)) = c := by
    rw [HT.sIx_nat]
    omega
  have e2 : HT.sIx z.length z.length none = z.length := rfl
  rw [e1, e2]
  have e3 : z.cps.toList.length = z.length := rfl
  show List.take (z.length - c) (List.drop c z.cps.toList) = _
  rw [List.take_of_length_le (by rw [List.length_drop, e3]; omega)]
/-- a row of names -/
def IsRw (names : List Str) : HR := fun v G => ∃ row : List Str, IsSR row v G ∧ row.length = names.length ∧ ∀ e ∈ row, e ∈ names
instance (names) : Mon (IsRw names) := ⟨fun s ⟨row, a, b⟩ => ⟨row, Mon.mon s a, b⟩⟩
/-- rows newly made -/
def IsSRn (F : Hp) (row : List Str) : HR := IsNew F (.lst (row.map V.str))
instance (F row) : Mon (IsSRn F row) := inferInstanceAs (Mon (IsNew _ _))
/-! tables as data -/
theorem dp_strs {K : PySem.W.Frag} {G : Hp} : ∀ xs : List Str, DpAll K G (xs.map V.str) (xs.map PyData.str)
  | [] => .nil
  | a :: r => .cons (.str a) (dp_strs r)
end L2.DS
/-! Scales of any of some classes; defs with a star parameter; pairs of ranges. -/
namespace L2.DS
open PySem PySem.Spec PyProof.Rows
/-! ### scales -/
structure SD where
  label : Str
  names : List Str
  nv : Int
  sl : Int
  dep : Int
  th : Nat → Nat → Int
  jn : Nat → Nat → Int
structure ClsOk (K : PySem.W.Frag) (C : Addr) : Prop where
  c : Cls K C
  n : ∀ f ∈ scF, NoAttr K C f
def ScD (K : PySem.W.Frag) (Cs : List Addr) (d : SD) (x : Addr) (G : Hp) : Prop := ∃ C ∈ Cs, ClsOk K C ∧ ScC C x d.label d.names d.nv d.sl d.dep d.th d.jn G
theorem ScD.mono {K : PySem.W.Frag} {Cs : List Addr} {d : SD} {x : Addr} {G G' : Hp} (h : ScD K Cs d x G) (s : Same G G') : ScD K Cs d x G' := let ⟨C, a, b, c⟩ := h; ⟨C, a, b, c.mono s⟩
def IsScD (K : PySem.W.Frag) (Cs : List Addr) (d : SD) : HR := fun v G => ∃ x, v = .ref x ∧ ScD K Cs d x G
instance (K Cs d) : Mon (IsScD K Cs d) := ⟨fun s ⟨x, e, h⟩ => ⟨x, e, h.mono s⟩⟩
/-! ### a, b = f(..) -/
/-! ### [el for i in range(m) for j in range(c)] -/
/-! ### defs with a star parameter -/
end L2.DS
/-! Scales of pairs, turned scales. -/
namespace L2.DS
open PySem PySem.Spec PyProof.Rows
/-- the depth above some scales -/
def depL (ds : List SD) : Int := ds.foldl (fun m d => if d.dep ≥ m then d.dep + 1 else m) 1
def pairNames (d1 d2 : SD) : List Str := (List.range d1.names.length).flatMap fun a => (List.range d2.names.length).map fun b => ("<" : Str) ++ d1.names.getD a ("" : Str) ++ ("/" : Str) ++ d2.names.getD b ("" : Str) ++ (">" : Str)
def pairSD (d1 d2 : SD) : SD where
  label := ("(pair " : Str) ++ d1.label ++ (" " : Str) ++ d2.label ++ (")" : Str)
  names := pairNames d1 d2
  nv := d1.nv * d2.names.length + d2.nv
  sl := d1.sl * d2.names.length + d2.sl
  dep := depL [d1, d2]
  th := fun a b => d1.th (a / d2.names.length) (b / d2.names.length) * d2.names.length + d2.th (a % d2.names.length) (b % d2.names.length)
  jn := fun a b => d1.jn (a / d2.names.length) (b / d2.names.length) * d2.names.length + d2.jn (a % d2.names.length) (b % d2.names.length)
def turnSD (d : SD) : SD where
  label := ("(turned " : Str) ++ d.label ++ (")" : Str)
  names := d.names
  nv := d.nv
  sl := d.sl
  dep := depL [d]
  th := fun a b => d.th b a
  jn := d.jn
/-- what is known of a scale beside what it holds -/
structure SdOk (d : SD) : Prop where
  nd : d.names.Nodup
  l1 : 1 ≤ d.names.length
  l2 : d.names.length ≤ 64
  sh : ∀ nm ∈ d.names, nm.length ≤ 100000
  ll : d.label.length ≤ 1000000
  nv : 0 ≤ d.nv ∧ d.nv < d.names.length
  sl : 0 ≤ d.sl ∧ d.sl < d.names.length
  th : ∀ a b, a < d.names.length → b < d.names.length → 0 ≤ d.th a b ∧ d.th a b < d.names.length
  jn : ∀ a b, a < d.names.length → b < d.names.length → 0 ≤ d.jn a b ∧ d.jn a b < d.names.length
theorem flat_len {α : Type} (f : Nat → Nat → α) (c : Nat) : ∀ m, ((List.range m).flatMap fun a => (List.range c).map fun b => f a b).length = m * c := by
  intro m
  induction m with
  | zero => simp
  | succ m ih => rw [List.range_succ, List.flatMap_append, List.length_append, ih, List.flatMap_cons, List.flatMap_nil, List.append_nil, List.length_map, List.length_range, Nat.succ_mul]
theorem pairNames_len (d1 d2 : SD) : (pairNames d1 d2).length = d1.names.length * d2.names.length := flat_len _ _ _
/-! promises -/
end L2.DS
/-! The law's own rows of pairs and turned scales. -/
namespace L2.DS
open PySem PySem.Spec PyProof.Rows
/-- a table of whole numbers -/
def IsIRow (n : Nat) (f : Nat → Int) : HR := fun v G => ∃ q, v = .ref q ∧ G q = some (.lst ((List.range n).map fun b => V.int (f b)))
instance (n f) : Mon (IsIRow n f) := ⟨fun s ⟨q, e, h⟩ => ⟨q, e, s _ _ h⟩⟩
def TabN (G : Hp) (p : Addr) (n : Nat) (f : Nat → Nat → Int) : Prop := ∃ vs, G p = some (.lst vs) ∧ RL (fun a => IsIRow n (f a)) (List.range n) vs G
theorem TabN.mono {G G' : Hp} {p : Addr} {n : Nat} {f : Nat → Nat → Int} (h : TabN G p n f) (s : Same G G') : TabN G' p n f := let ⟨vs, a, b⟩ := h; ⟨vs, s _ _ a, rl_mon s b⟩
theorem TabN.at {G : Hp} {p : Addr} {n : Nat} {f : Nat → Nat → Int} (h : TabN G p n f) : ∃ vs, G p = some (.lst vs) ∧ vs.length = n ∧ ∀ a, a < n → ∃ q, vs[a]? = some (.ref q) ∧ G q = some (.lst ((List.range n).map fun b => V.int (f a b))) := by
  obtain ⟨vs, hp, rl⟩ := h
  have lv := rl_len rl
  rw [List.length_range] at lv
  refine ⟨vs, hp, lv, fun a ha => ?_⟩
  obtain ⟨u, hu, q, rfl, hq⟩ := rl_get rl (List.getElem?_range ha)
  exact ⟨q, hu, hq⟩
/-- the rows of a scale as the law holds them -/
def RowsAt (G : Hp) (p : Addr) (d : SD) : Prop := ∃ pn pj pp, G p = some (.lst [.ref pn, .ref pj, .ref pp, .int d.nv, .int d.sl]) ∧ G pn = some (.lst (d.names.map V.str)) ∧ TabN G pj d.names.length d.jn ∧ TabN G pp d.names.length d.th
theorem RowsAt.mono {G G' : Hp} {p : Addr} {d : SD} (h : RowsAt G p d) (s : Same G G') : RowsAt G' p d := let ⟨a, b, c, h1, h2, h3, h4⟩ := h; ⟨a, b, c, s _ _ h1, s _ _ h2, h3.mono s, h4.mono s⟩
def IsRows (d : SD) : HR := fun v G => ∃ p, v = .ref p ∧ RowsAt G p d
instance (d) : Mon (IsRows d) := ⟨fun s ⟨p, e, h⟩ => ⟨p, e, h.mono s⟩⟩
def rnames (sign : Str) (m : Nat) : List Str := (List.range m).map fun k => sign ++ (toString (((m : Nat) : Int) - (k : Nat)) : Str)
/-- rows drawn for m names -/
structure RowOk (sign : Str) (m : Nat) (d : SD) : Prop where
  nm : d.names = rnames sign m
  nv : 0 ≤ d.nv ∧ d.nv < m
  sl : 0 ≤ d.sl ∧ d.sl < m
  th : ∀ a b, a < m → b < m → 0 ≤ d.th a b ∧ d.th a b < m
  jn : ∀ a b, a < m → b < m → 0 ≤ d.jn a b ∧ d.jn a b < m
/-- two scales' rows told alike -/
structure Tells (ds dr : SD) (turned : Bool) : Prop where
  nm : ds.names = dr.names
  nv : ds.nv = dr.nv
  sl : ds.sl = dr.sl
  th : ∀ a b, a < dr.names.length → b < dr.names.length → ds.th a b = if turned then dr.th b a else dr.th a b
  jn : ∀ a b, a < dr.names.length → b < dr.names.length → ds.jn a b = dr.jn a b
theorem SdOk.turn {d : SD} (o : SdOk d) (h : d.label.length ≤ 900000) : SdOk (turnSD d) := by
  refine ⟨o.nd, o.l1, o.l2, o.sh, ?_, o.nv, o.sl, fun a b ha hb => o.th b a hb ha, o.jn⟩
  show (("(turned " : Str) ++ d.label ++ (")" : Str)).length ≤ _
  have c1 : ("(turned " : Str).length = 8 ∧ (")" : Str).length = 1 := by decide +kernel
  rw [Str.length_append, Str.length_append]
  omega
theorem pairs_bd {n1 n2 : Nat} {u v : Int} (u0 : 0 ≤ u) (u1 : u < n1) (v0 : 0 ≤ v) (v1 : v < n2) : 0 ≤ u * n2 + v ∧ u * n2 + v < ((n1 * n2 : Nat) : Int) := by
  obtain ⟨a, rfl⟩ : ∃ a : Nat, u = (a : Nat) := ⟨u.toNat, by omega⟩
  obtain ⟨b, rfl⟩ : ∃ b : Nat, v = (b : Nat) := ⟨v.toNat, by omega⟩
  have ha : a < n1 := by omega
  have hb : b < n2 := by omega
  have e : ((a : Nat) : Int) * ((n2 : Nat) : Int) + ((b : Nat) : Int) = ((a * n2 + b : Nat) : Int) := by rw [Int.natCast_add, Int.natCast_mul]
  rw [e]
  have : (a + 1) * n2 ≤ n1 * n2 := Nat.mul_le_mul_right n2 (by omega)
  rw [Nat.succ_mul] at this
  omega
theorem SdOk.pair {d1 d2 : SD} (o1 : SdOk d1) (o2 : SdOk d2) (h64 : d1.names.length * d2.names.length ≤ 64) (nd : (pairNames d1 d2).Nodup) (sh : ∀ nm ∈ pairNames d1 d2, nm.length ≤ 100000) (h1 : d1.label.length ≤ 400000) (h2 : d2.label.length ≤ 400000) : SdOk (pairSD d1 d2) := by
  have hl : (pairSD d1 d2).names.length = d1.names.length * d2.names.length := pairNames_len d1 d2
  have b1 : ∀ {c : Nat}, c < d1.names.length * d2.names.length → c / d2.names.length < d1.names.length := fun h => Nat.div_lt_of_lt_mul (by rw [Nat.mul_comm]; exact h)
  have b2 : ∀ {c : Nat}, c % d2.names.length < d2.names.length := Nat.mod_lt _ o2.l1
  refine ⟨nd, ?_, by rw [hl]; exact h64, sh, ?_, ?_, ?_, fun a b ha hb => ?_, fun a b ha hb => ?_⟩
  · rw [hl]
    exact Nat.mul_pos o1.l1 o2.l1
  · show (("(pair " : Str) ++ d1.label ++ (" " : Str) ++ d2.label ++ (")" : Str)).length ≤ _
    have c1 : ("(pair " : Str).length = 6 ∧ (" " : Str).length = 1 ∧ (")" : Str).length = 1 := by decide +kernel
    rw [Str.length_append, Str.length_append, Str.length_append, Str.length_append]
    omega
  · rw [hl]
    exact pairs_bd o1.nv.1 o1.nv.2 o2.nv.1 o2.nv.2
  · rw [hl]
    exact pairs_bd o1.sl.1 o1.sl.2 o2.sl.1 o2.sl.2
  · rw [hl] at ha hb ⊢
    have t1 := o1.th _ _ (b1 ha) (b1 hb)
    have t2 := o2.th _ _ (b2 (c := a)) (b2 (c := b))
    exact pairs_bd t1.1 t1.2 t2.1 t2.2
  · rw [hl] at ha hb ⊢
    have t1 := o1.jn _ _ (b1 ha) (b1 hb)
    have t2 := o2.jn _ _ (b2 (c := a)) (b2 (c := b))
    exact pairs_bd t1.1 t1.2 t2.1 t2.2
/-! the table scale made of rows -/
def rowsS (names : List Str) (f : Nat → Nat → Int) : List (List Str) := (List.range names.length).map fun a => (List.range names.length).map fun b => names.getD (f a b).toNat ("" : Str)
theorem rowsS_ok {names : List Str} {f : Nat → Nat → Int} (h : ∀ a b, a < names.length → b < names.length → 0 ≤ f a b ∧ f a b < names.length) : (rowsS names f).length = names.length ∧ ∀ r ∈ rowsS names f, r.length = names.length ∧ ∀ e ∈ r, e ∈ names := by
  unfold rowsS
  refine ⟨by rw [List.length_map, List.length_range], fun r hr => ?_⟩
  obtain ⟨a, ha, rfl⟩ := List.mem_map.mp hr
  have ha := List.mem_range.mp ha
  refine ⟨by rw [List.length_map, List.length_range], fun e he => ?_⟩
  obtain ⟨b, hb, rfl⟩ := List.mem_map.mp he
  have hb := List.mem_range.mp hb
  have := h a b ha hb
  have hi : (f a b).toNat < names.length := by omega
  rw [List.getD_eq_getElem?_getD, List.getElem?_eq_getElem hi]
  exact List.getElem_mem hi
theorem idx_getD {names : List Str} (nd : names.Nodup) {i : Nat} (h : i < names.length) : names.getD i ("" : Str) ∈ names ∧ names.idxOf (names.getD i ("" : Str)) = i := by
  have e : names.getD i ("" : Str) = names[i] := by rw [List.getD_eq_getElem?_getD, List.getElem?_eq_getElem h]; rfl
  rw [e]
  exact ⟨List.getElem_mem h, nd.idxOf_getElem i h⟩
/-! promises -/
/-- rows drawn -/
def IsTabl (sign : Str) : HR := fun v G => ∃ (m : Nat) (d : SD), 1 ≤ m ∧ m < 5 ∧ IsRows d v G ∧ RowOk sign m d
instance (sign) : Mon (IsTabl sign) := ⟨fun s ⟨m, d, a, b, h, o⟩ => ⟨m, d, a, b, Mon.mon s h, o⟩⟩
def IsRI (m : Nat) : HR := fun v G => ∃ fr : Nat → Int, IsIRow m fr v G ∧ ∀ b, b < m → 0 ≤ fr b ∧ fr b < m
instance (m) : Mon (IsRI m) := ⟨fun s ⟨fr, a, b⟩ => ⟨fr, Mon.mon s a, b⟩⟩
theorem Tells.pair {d1 d2 e1 e2 : SD} (h1 : Tells e1 d1 false) (h2 : Tells e2 d2 false) (l2 : 0 < d2.names.length) : Tells (pairSD e1 e2) (pairSD d1 d2) false := by
  have hl : (pairSD d1 d2).names.length = d1.names.length * d2.names.length := pairNames_len d1 d2
  have n2 : e2.names.length = d2.names.length := by rw [h2.nm]
  have b1 : ∀ {c : Nat}, c < d1.names.length * d2.names.length → c / d2.names.length < d1.names.length := fun h => Nat.div_lt_of_lt_mul (by rw [Nat.mul_comm]; exact h)
  have b2 : ∀ {c : Nat}, c % d2.names.length < d2.names.length := Nat.mod_lt _ l2
  refine ⟨?_, ?_, ?_, fun a b ha hb => ?_, fun a b ha hb => ?_⟩
  · show pairNames e1 e2 = pairNames d1 d2
    unfold pairNames
    rw [h1.nm, h2.nm]
  · show e1.nv * e2.names.length + e2.nv = d1.nv * d2.names.length + d2.nv
    rw [h1.nv, h2.nv, n2]
  · show e1.sl * e2.names.length + e2.sl = d1.sl * d2.names.length + d2.sl
    rw [h1.sl, h2.sl, n2]
  · rw [hl] at ha hb
    show e1.th (a / e2.names.length) (b / e2.names.length) * e2.names.length + e2.th (a % e2.names.length) (b % e2.names.length) = d1.th (a / d2.names.length) (b / d2.names.length) * d2.names.length + d2.th (a % d2.names.length) (b % d2.names.length)
    rw [n2, h1.th _ _ (b1 ha) (b1 hb), h2.th _ _ b2 b2]
    rfl
  · rw [hl] at ha hb
    show e1.jn (a / e2.names.length) (b / e2.names.length) * e2.names.length + e2.jn (a % e2.names.length) (b % e2.names.length) = d1.jn (a / d2.names.length) (b / d2.names.length) * d2.names.length + d2.jn (a % d2.names.length) (b % d2.names.length)
    rw [n2, h1.jn _ _ (b1 ha) (b1 hb), h2.jn _ _ b2 b2]
theorem Tells.turn {ds dr : SD} {t : Bool} (h : Tells ds dr t) : Tells (turnSD ds) dr (!t) := by
  refine ⟨h.nm, h.nv, h.sl, fun a b ha hb => ?_, h.jn⟩
  show ds.th b a = _
  rw [h.th b a hb ha]
  cases t <;> rfl
end L2.DS
/-! Scales of heaps. -/
namespace L2.DS
open PySem PySem.Spec PyProof.Rows
/-- the places that a number tells -/
def bitsOf (n : Nat) (a : Nat) : List Nat := (List.range n).filter fun k => decide (Builtin.bitAnd (((a : Nat) : Int) / 2 ^ k) 1 = 1)
def heapName (names : List Str) (a : Nat) : Str := ("{" : Str) ++ Txt.join ("," : Str) ((bitsOf names.length a).map fun k => names.getD k ("" : Str)) ++ ("}" : Str)
def heapNames (names : List Str) : List Str := (List.range (2 ^ names.length)).map (heapName names)
/-- the sets of all products -/
def hth (n : Nat) (th : Nat → Nat → Int) (a b : Nat) : Int := (bitsOf n a).foldl (fun f k => (bitsOf n b).foldl (fun f l => Builtin.bitOr f (1 * 2 ^ (th k l).toNat)) f) 0
def heapSD (d : SD) : SD where
  label := ("(heap " : Str) ++ d.label ++ (")" : Str)
  names := heapNames d.names
  nv := 0
  sl := 1 * 2 ^ d.sl.toNat
  dep := depL [d]
  th := hth d.names.length d.th
  jn := fun a b => Builtin.bitOr (a : Nat) (b : Nat)
/-! bits -/
/-- a list of places -/
def IsIL (L : List Nat) : HR := fun v G => ∃ q, v = .ref q ∧ G q = some (.lst (L.map fun k => V.int (k : Nat)))
instance (L) : Mon (IsIL L) := ⟨fun s ⟨q, e, h⟩ => ⟨q, e, s _ _ h⟩⟩
def HeapsAt (n : Nat) (G : Hp) (p : Addr) : Prop := ∃ hs, G p = some (.lst hs) ∧ RL (fun a => IsIL (bitsOf n a)) (List.range (2 ^ n)) hs G
theorem HeapsAt.mono {n : Nat} {G G' : Hp} {p : Addr} (h : HeapsAt n G p) (s : Same G G') : HeapsAt n G' p := let ⟨hs, a, b⟩ := h; ⟨hs, s _ _ a, rl_mon s b⟩
theorem HeapsAt.at {n : Nat} {G : Hp} {p : Addr} (h : HeapsAt n G p) : ∃ hs, G p = some (.lst hs) ∧ hs.length = 2 ^ n ∧ ∀ a, a < 2 ^ n → ∃ q, hs[a]? = some (.ref q) ∧ G q = some (.lst ((bitsOf n a).map fun k => V.int (k : Nat))) := by
  obtain ⟨hs, hp, rl⟩ := h
  have lv := rl_len rl
  rw [List.length_range] at lv
  refine ⟨hs, hp, lv, fun a ha => ?_⟩
  obtain ⟨u, hu, q, rfl, hq⟩ := rl_get rl (List.getElem?_range ha)
  exact ⟨q, hu, hq⟩
end L2.DS
/-! The law's own rows of heaps. -/
namespace L2.DS
open PySem PySem.Spec PyProof.Rows
/-- rows of a scale as the law holds them -/
def InnAt (K : PySem.W.Frag) (Cs : List Addr) (d : SD) (G : Hp) (p : Addr) : Prop := ∃ x pn pp, G p = some (.lst [.ref x, .ref pn, .ref pp, .int d.sl]) ∧ ScD K Cs d x G ∧ G pn = some (.lst (d.names.map V.str)) ∧ TabN G pp d.names.length d.th
theorem InnAt.mono {K : PySem.W.Frag} {Cs : List Addr} {d : SD} {G G' : Hp} {p : Addr} (h : InnAt K Cs d G p) (s : Same G G') : InnAt K Cs d G' p := let ⟨x, a, b, h1, h2, h3, h4⟩ := h; ⟨x, a, b, s _ _ h1, h2.mono s, s _ _ h3, h4.mono s⟩
def IsInn (K : PySem.W.Frag) (Cs : List Addr) (d : SD) : HR := fun v G => ∃ p, v = .ref p ∧ InnAt K Cs d G p
instance (K Cs d) : Mon (IsInn K Cs d) := ⟨fun s ⟨p, e, h⟩ => ⟨p, e, h.mono s⟩⟩
structure InOk (d : SD) : Prop where
  ok : SdOk d
  n5 : d.names.length ≤ 5
  d0 : 1 ≤ d.dep
  dp : d.dep ≤ 4
  ll : d.label.length ≤ 60000
  hn : (heapNames d.names).Nodup
  sh : ∀ nm ∈ d.names, nm.length ≤ 100
structure FreeOk (sign : Str) (m : Nat) (d : SD) : Prop where
  nm : d.names = rnames sign m
  ok : InOk d
  dp : d.dep = 1
  ll : d.label.length ≤ 20000
def IsFree (K : PySem.W.Frag) (Cs : List Addr) (sign : Str) (mx : Nat) : HR := fun v G => ∃ (m : Nat) (d : SD), 1 ≤ m ∧ m ≤ mx ∧ IsInn K Cs d v G ∧ FreeOk sign m d
instance (K Cs sign mx) : Mon (IsFree K Cs sign mx) := ⟨fun s ⟨m, d, a, b, h, o⟩ => ⟨m, d, a, b, Mon.mon s h, o⟩⟩
def IsInner (K : PySem.W.Frag) (Cs : List Addr) : HR := fun v G => ∃ d : SD, IsInn K Cs d v G ∧ InOk d
instance (K Cs) : Mon (IsInner K Cs) := ⟨fun s ⟨d, h, o⟩ => ⟨d, Mon.mon s h, o⟩⟩
/-! promises -/
end L2.DS
/-! The inner scales of the law of heaps; tables by two comprehensions. -/
namespace L2.DS
open PySem PySem.Spec PyProof.Rows
/-! the law's tables -/
/-- a list of whole numbers -/
def IsIV (L : List Int) : HR := fun v G => ∃ q, v = .ref q ∧ G q = some (.lst (L.map V.int))
instance (L) : Mon (IsIV L) := ⟨fun s ⟨q, e, h⟩ => ⟨q, e, s _ _ h⟩⟩
/-- the scale that stands first in a row -/
def IsFrS (K : PySem.W.Frag) (Cs : List Addr) (sign : Str) (m : Nat) : HR := fun v G => ∃ d, IsScD K Cs d v G ∧ FreeOk sign m d
instance (K Cs sign m) : Mon (IsFrS K Cs sign m) := ⟨fun s ⟨d, h, o⟩ => ⟨d, Mon.mon s h, o⟩⟩
/-! the law's products -/
theorem depthAll_le {k : Nat} : ∀ {ds : List PyData}, (∀ d ∈ ds, PyData.depth d ≤ k) → PyData.depthAll ds ≤ k
  | [], _ => Nat.zero_le _
  | d :: r, h => by
    show max (PyData.depth d) (PyData.depthAll r) ≤ k
    have := h d List.mem_cons_self
    have := depthAll_le fun x hx => h x (List.mem_cons_of_mem _ hx)
    omega
end L2.DS
/-! Regular scales: the rules of joins and products, kept by pairs, turned scales and heaps. -/
namespace L2.DS
open PySem PySem.Spec PyProof.Rows
structure RegF (n : Nat) (t j : Nat → Nat → Nat) (z u : Nat) : Prop where
  zn : z < n
  un : u < n
  tb : ∀ {a b}, a < n → b < n → t a b < n
  jb : ∀ {a b}, a < n → b < n → j a b < n
  jj : ∀ {a}, a < n → j a a = a
  jc : ∀ {a b}, a < n → b < n → j a b = j b a
  ja : ∀ {a b c}, a < n → b < n → c < n → j (j a b) c = j a (j b c)
  jz : ∀ {a}, a < n → j a z = a
  ta : ∀ {a b c}, a < n → b < n → c < n → t (t a b) c = t a (t b c)
  tu : ∀ {a}, a < n → t u a = a ∧ t a u = a
  tz : ∀ {a}, a < n → t z a = z ∧ t a z = z
  dl : ∀ {a b c}, a < n → b < n → c < n → t a (j b c) = j (t a b) (t a c)
  dr : ∀ {a b c}, a < n → b < n → c < n → t (j a b) c = j (t a c) (t b c)
def SD.T (d : SD) (a b : Nat) : Nat := (d.th a b).toNat
def SD.J (d : SD) (a b : Nat) : Nat := (d.jn a b).toNat
def Reg (d : SD) : Prop := RegF d.names.length d.T d.J d.nv.toNat d.sl.toNat
/-! counts -/
def cntSD (t : Nat) (up : Bool) : SD := ⟨clabel (t : Nat) up, ("never" : Str) :: cwords t, 0, 1, 1, cth (t : Nat), cjn up⟩
/-! spans -/
def spanSD (m : Nat) : SD := ⟨slabel (m : Nat), ("never" : Str) :: swords m, 0, 1, 1, sth m, sjn m⟩
/-! sets -/
def stSD (c : Nat) (may : Bool) : SD := ⟨tlabel (c : Nat) may, ("never" : Str) :: twords c, 0, 1, 1, tth, tjn may⟩
/-! relations -/
def wtSD (s : Nat) : SD := ⟨wlabel (s : Nat), wwords s, 0, wstill s, 1, wth s, wjn⟩
/-! turned scales, pairs, heaps -/
end L2.DS
/-! Names of pairs and heaps are told apart: words with brackets. -/
namespace L2.DS
open PySem PySem.Spec PyProof.Rows
def opnC (c : Nat) : Bool := c == 60 || c == 123
def clsC (c : Nat) : Bool := c == 62 || c == 125
def sepC (c : Nat) : Bool := c == 44 || c == 47
def scanW : Nat → List Nat → Option Nat
  | d, [] => some d
  | d, c :: r => if opnC c then scanW (d + 1) r else if clsC c then (match d with | 0 => none | e + 1 => scanW e r) else if sepC c then (match d with | 0 => none | e + 1 => scanW (e + 1) r) else scanW d r
def okW (s : Str) : Prop := s.cps.toList ≠ [] ∧ scanW 0 s.cps.toList = some 0
instance (s) : Decidable (okW s) := inferInstanceAs (Decidable (_ ∧ _))
theorem str_inj {a b : Str} (h : a.cps.toList = b.cps.toList) : a = b := by
  cases a
  cases b
  congr
  exact Array.toList_inj.mp h
theorem cps_app (a b : Str) : (a ++ b).cps.toList = a.cps.toList ++ b.cps.toList := by
  rw [Str.cps_append]
  simp
/-! pairs -/
/-! heaps -/
end L2.DS
/-! Scales around scales: all that is known of them. -/
namespace L2.DS
open PySem PySem.Spec PyProof.Rows
def nmB (n : Nat) : Nat := 20 * 8 ^ n
def lbB (n : Nat) : Nat := 100 * 3 ^ n
theorem nmB_s (n : Nat) : nmB (n + 1) = nmB n * 8 := by unfold nmB; rw [Nat.pow_succ, Nat.mul_assoc]
theorem lbB_s (n : Nat) : lbB (n + 1) = lbB n * 3 := by unfold lbB; rw [Nat.pow_succ, Nat.mul_assoc]
/-- all that is known of a scale that is n deep at most *above* a family -/
structure TrOk (n : Nat) (d : SD) : Prop where
  ok : SdOk d
  rg : Reg d
  wd : ∀ nm ∈ d.names, okW nm
  nl : ∀ nm ∈ d.names, nm.length ≤ nmB n
  ll : d.label.length ≤ lbB n
  d1 : 1 ≤ d.dep
  d2 : d.dep ≤ n + 1
theorem TrOk.up {n : Nat} {d : SD} (h : TrOk n d) : TrOk (n + 1) d := by
  have e := h.d2
  exact ⟨h.ok, h.rg, h.wd, fun nm m => Nat.le_trans (h.nl nm m) (by rw [nmB_s]; omega), Nat.le_trans h.ll (by rw [lbB_s]; omega), h.d1, by omega⟩
/-! families -/
/-! scales around scales -/
/-- some scale of that kind -/
def IsTr (K : PySem.W.Frag) (Cs : List Addr) (n : Nat) : HR := fun v G => ∃ d, IsScD K Cs d v G ∧ TrOk n d
instance (K Cs n) : Mon (IsTr K Cs n) := ⟨fun s ⟨d, a, b⟩ => ⟨d, Mon.mon s a, b⟩⟩
end L2.DS
/-! The rules of regular scales as sides; the first fault. -/
namespace L2.DS
open PySem PySem.Spec PyProof.Rows
/-! ### general -/
theorem sl_tupAK {X : Cx} (K : PySem.W.Frag) (hK : X.K = K := by rfl) : SlR X (rSlA K) := hK ▸ sl_tupA
/-- a tuple of values -/
def IsTup (L : List V) : HR := fun v G => ∃ p, v = .ref p ∧ G p = some (.tup L)
instance (L) : Mon (IsTup L) := ⟨fun s ⟨p, e, h⟩ => ⟨p, e, s _ _ h⟩⟩
/-- a tuple of two data -/
def IsPd (K : PySem.W.Frag) (l r : PyData) : HR := fun v G => ∃ p u w, v = .ref p ∧ SqT K G p [u, w] ∧ Dp K G u l ∧ Dp K G w r
instance (K l r) : Mon (IsPd K l r) := ⟨fun s ⟨p, u, w, e, h, a, b⟩ => ⟨p, u, w, e, same_t s h, dp_mon s a, dp_mon s b⟩⟩
theorem IsPd.dp {K : PySem.W.Frag} {l r : PyData} {v : V} {G : Hp} (h : IsPd K l r v G) : IsD K (.tuple [l, r]) v G := by
  obtain ⟨p, u, w, rfl, h, a, b⟩ := h
  exact .tup h (.cons a (.cons b .nil))
/-! ### sides -/
section
variable {S : SR} {n : Nat} {t0 ta tb : TE} {σ : L2.St} {G : Hp} {K : PySem.W.Frag} {Cs : List Addr} {d : SD} {x : Addr} {E : XK} {a b : Nat}
theorem SdOk.T {d : SD} (o : SdOk d) {a b : Nat} (ha : a < d.names.length) (hb : b < d.names.length) : ((d.T a b : Nat) : Int) = d.th a b ∧ d.T a b < d.names.length := by
  have := o.th a b ha hb
  unfold SD.T
  omega
theorem SdOk.J {d : SD} (o : SdOk d) {a b : Nat} (ha : a < d.names.length) (hb : b < d.names.length) : ((d.J a b : Nat) : Int) = d.jn a b ∧ d.J a b < d.names.length := by
  have := o.jn a b ha hb
  unfold SD.J
  omega
end
def dI (n : Nat) : PyData := .int (n : Nat)
/-! ### the first worths for which two sides are not equal -/
def wordsF (i : Nat) : Str := (["join-same", "join-swap", "join-group", "join-never", "then-group", "then-still", "then-never", "spread-left", "spread-right"] : List Str).getD i ("" : Str)
def IsFn : Option (List Nat) → HR
  | none => IsV .non
  | some t => fun v G => ∃ p, v = .ref p ∧ G p = some (.tup (t.map fun k => V.int (k : Nat)))
instance : (o : Option (List Nat)) → Mon (IsFn o)
  | none => inferInstanceAs (Mon (IsV .non))
  | some t => ⟨fun s ⟨p, e, h⟩ => ⟨p, e, s _ _ h⟩⟩
def IsFt (K : PySem.W.Frag) (d : SD) : Option (Nat × List Nat) → HR
  | none => IsV .non
  | some (i, t) => fun v G => ∃ p q, v = .ref p ∧ SqT K G p [.str (wordsF i), .ref q] ∧ G q = some (.tup (t.map fun k => V.str (d.names.getD k ("" : Str))))
instance (K d) : (o : Option (Nat × List Nat)) → Mon (IsFt K d o)
  | none => inferInstanceAs (Mon (IsV .non))
  | some (i, t) => ⟨fun s ⟨p, q, e, h, h'⟩ => ⟨p, q, e, same_t s h, s _ _ h'⟩⟩
end L2.DS
/-! Scales that a law makes. -/
namespace L2.DS
open PySem PySem.Spec PyProof.Rows
/-- a scale of which P tells -/
def IsScP (K : PySem.W.Frag) (Cs : List Addr) (P : SD → Prop) : HR := fun v G => ∃ d, IsScD K Cs d v G ∧ P d
instance (K Cs P) : Mon (IsScP K Cs P) := ⟨fun s ⟨d, a, b⟩ => ⟨d, Mon.mon s a, b⟩⟩
section
variable {S : SR} {n ka kb : Nat} {te tk tl tr : TE} {t tks : TA} {σ : L2.St} {G : Hp} {K : PySem.W.Frag} {Cs : List Addr} {C : Addr} {E : XK} {P P1 P2 : SD → Prop} {Pm : Int → Prop} {Ps : Str → Prop} {R : OR} {RA RB : HRs} {v : V} {m1 m2 : Nat} {gV : List V → List V → List V}
theorem ea_1I (h : Ev S n ka te σ G (IsI Pm)) : EvA S n (ka + 0) (tCons te tNil) σ G (RCons (IsI Pm) RNil) := ea_cons h ea_nil
theorem one_I {vs : List V} (h : RCons (IsI Pm) RNil vs G) : ∃ i, vs = [.int i] ∧ Pm i := by
  obtain ⟨_, _, rfl, ⟨i, hi, rfl⟩, e⟩ := h
  obtain rfl := (show _ = [] from e)
  exact ⟨i, rfl, hi⟩
/-- .. the place any -/
theorem ev_wordP {ws : List Str} (st : Stab S) (hs : EvA S n ka t σ G (IsVs (ws.map V.str))) (hl : ws.length ≤ 1000) (e : Ev S (n + ka) kb te σ G (IsI fun i => 0 ≤ i ∧ i < ws.length)) : Ev S n (ka + kb) (tOp (rIxA K) (tLst t) te) σ G (IsS fun s => s ∈ ws) :=
  ev_op (Ra := IsNew G (.lst (ws.map V.str))) (Rb := IsI fun i => 0 ≤ i ∧ i < ws.length) (ev_lstN st hs (by rw [List.length_map]; omega)) e fun x y G' s' hx hy => by
    obtain ⟨p, rfl, _, g⟩ := hx
    obtain ⟨i, hi, rfl⟩ := hy
    obtain ⟨j, rfl⟩ : ∃ j : Nat, i = (j : Nat) := ⟨i.toNat, by omega⟩
    have hj : j < ws.length := by omega
    refine rv_imp (v_ixL st (SqL.of g) (atI_nat (v := .str ws[j]) (by rw [List.getElem?_map, List.getElem?_eq_getElem hj]; rfl))) fun v G' _ e => ?_
    obtain rfl := (show _ = _ from e)
    exact ⟨_, List.getElem_mem hj, rfl⟩
end
end L2.DS
/-! Operators of own classes. -/
namespace L2.DS
open PySem PySem.Spec PyProof.Rows
/-! ### x != y by an own __eq__ -/
/-! ### rules -/
/-! ### own errors without an own __init__ -/
/-! ### while -/
section
variable {S : SR} {tt : TT} {tb u : TS} {σ : L2.St} {H : Hp} {nx bk ct : L2.St → Hp → Prop} {rt : VK}
/-- while t: .., W with a measure -/
theorem q_while (W : Nat → L2.St → Hp → Prop) {m0 : Nat} (h0 : W m0 σ H)
    (hs : ∀ m τ J, W m τ J → ∃ (n : Nat) (G : Hp) (k : Nat) (P : Bool → Prop), S n G J ∧ EvT S n k tt τ G P ∧
      (∀ G2 J2, Stp S (n + k) G J G2 J2 → P true → tb (Ends.mk (fun τ' J' => ∃ m', m' < m ∧ W m' τ' J') rt (u (Ends.mk nx rt bk ct)) (fun τ' J' => ∃ m', m' < m ∧ W m' τ' J')) τ J2) ∧
      (∀ G2 J2, Stp S (n + k) G J G2 J2 → P false → u (Ends.mk nx rt bk ct) τ J2)) : tSeq (tWhile tt tb) u (Ends.mk nx rt bk ct) σ H := by
  refine ⟨W, ⟨m0, h0⟩, fun m τ J w => ?_⟩
  obtain ⟨n, G, k, P, s, e, h1, h2⟩ := hs m τ J w
  refine e G J (Same.refl _) s _ fun b G2 J2 s2 hp => ?_
  cases b with
  | true => exact ⟨_, fun _ _ x => x, h1 G2 J2 s2 hp⟩
  | false => exact h2 G2 J2 s2 hp
end
/-! ### errors that go on -/
theorem passE {X : Cx} {E : XK} (tk : Takes X (fun cls d _ H => E cls d H)) : Passes (L2.CX X.prog X.w) X E := fun pins σ H s e s' I c => passAt tk σ pins H s e s' I c
end L2.DS
/-! Worths: what their defs promise; powers and stars. -/
namespace L2.DS
open PySem PySem.Spec PyProof.Rows
def wtF : List Str := ["scale", "place", "name"]
/-- a worth p of the scale d stands at w -/
def WtAt (K : PySem.W.Frag) (Cs : List Addr) (CW : Addr) (d : SD) (p : Nat) (w : Addr) (G : Hp) : Prop := ∃ dx fs x, G w = some (.ins CW dx fs) ∧ fs.lookup ("scale" : Str) = some (.ref x) ∧ fs.lookup ("place" : Str) = some (.int (p : Nat)) ∧ fs.lookup ("name" : Str) = some (.str (d.names.getD p ("" : Str))) ∧
  ScD K Cs d x G ∧ p < d.names.length ∧ ∀ f, f ∉ wtF → fs.lookup f = none
theorem WtAt.mono {K : PySem.W.Frag} {Cs : List Addr} {CW : Addr} {d : SD} {p : Nat} {w : Addr} {G G' : Hp} (h : WtAt K Cs CW d p w G) (s : Same G G') : WtAt K Cs CW d p w G' := by
  obtain ⟨dx, fs, x, a, b, c, e, f, g⟩ := h
  exact ⟨dx, fs, x, s _ _ a, b, c, e, f.mono s, g⟩
def IsWt (K : PySem.W.Frag) (Cs : List Addr) (CW : Addr) (d : SD) (p : Nat) : HR := fun v G => ∃ w, v = .ref w ∧ WtAt K Cs CW d p w G
instance (K Cs CW d p) : Mon (IsWt K Cs CW d p) := ⟨fun s ⟨w, e, h⟩ => ⟨w, e, h.mono s⟩⟩
section
variable {S : SR} {n k ka kb : Nat} {te ta tb : TE} {t : TA} {σ : L2.St} {G : Hp} {K : PySem.W.Frag} {Cs : List Addr} {CW : Addr} {d : SD} {p : Nat} {w : Addr} {E : XK}
theorem WtAt.at (h : WtAt K Cs CW d p w G) : ∃ dx fs, G w = some (.ins CW dx fs) := by
  obtain ⟨dx, fs, x, a, _⟩ := h
  exact ⟨dx, fs, a⟩
end
/-! ### promises -/
/-! ### powers -/
def pw (d : SD) (p : Nat) : Nat → Nat
  | 0 => d.sl.toNat
  | n + 1 => d.T (pw d p n) p
theorem SdOk.sl' {d : SD} (o : SdOk d) : d.sl.toNat < d.names.length := by have := o.sl; omega
theorem pw_lt {d : SD} (o : SdOk d) {p : Nat} (hp : p < d.names.length) : ∀ n, pw d p n < d.names.length
  | 0 => o.sl'
  | n + 1 => (o.T (pw_lt o hp n) hp).2
/-- the first L powers are told apart -/
def Dst (d : SD) (p L : Nat) : Prop := ∀ i j, i < j → j < L → pw d p i ≠ pw d p j
/-- .. and the next one is among them, at b -/
structure Orb (d : SD) (p L b : Nat) : Prop where
  ds : Dst d p L
  lt : b < L
  eq : pw d p L = pw d p b
def pwL (d : SD) (p L : Nat) : List Nat := (List.range L).map (pw d p)
theorem pwL_len (d : SD) (p L : Nat) : (pwL d p L).length = L := by unfold pwL; rw [List.length_map, List.length_range]
theorem pwL_mem {d : SD} {p L x : Nat} : x ∈ pwL d p L ↔ ∃ i, i < L ∧ pw d p i = x := by
  unfold pwL
  rw [List.mem_map]
  constructor
  · rintro ⟨i, hi, e⟩
    exact ⟨i, List.mem_range.mp hi, e⟩
  · rintro ⟨i, hi, e⟩
    exact ⟨i, List.mem_range.mpr hi, e⟩
theorem Dst.snoc {d : SD} {p L : Nat} (h : Dst d p L) (n : pw d p L ∉ pwL d p L) : Dst d p (L + 1) := by
  intro i j hij hj e
  by_cases hjl : j = L
  · subst hjl
    exact n (pwL_mem.mpr ⟨i, hij, e⟩)
  · exact h i j hij (by omega) e
/-- boxes and pigeons -/
theorem pig : ∀ (n : Nat) (l : List Nat), l.Nodup → (∀ x ∈ l, x < n) → l.length ≤ n
  | 0, [], _, _ => Nat.le_refl 0
  | 0, a :: _, _, h => absurd (h a List.mem_cons_self) (Nat.not_lt_zero _)
  | n + 1, l, nd, h => by
    have z := pig n (l.erase n) (nd.erase n) fun x hx => by
      have h1 := h x (List.mem_of_mem_erase hx)
      have h2 : x ≠ n := ((List.Nodup.mem_erase_iff nd).mp hx).1
      omega
    by_cases hm : n ∈ l
    · rw [List.length_erase_of_mem hm] at z
      omega
    · rw [List.erase_of_not_mem hm] at z
      omega
theorem Dst.len {d : SD} {p L : Nat} (o : SdOk d) (hp : p < d.names.length) (h : Dst d p L) : L ≤ d.names.length := by
  have z := pig d.names.length (pwL d p L) ?_ fun x hx => by
    obtain ⟨i, _, rfl⟩ := pwL_mem.mp hx
    exact pw_lt o hp i
  · rw [pwL_len] at z
    exact z
  · unfold pwL List.Nodup
    rw [List.pairwise_map]
    refine List.Pairwise.imp_of_mem (fun {x y} hx hy hxy => h x y hxy (List.mem_range.mp hy)) (List.pairwise_lt_range (n := L))
/-! ### stars -/
/-- the join of the powers 0 to n -/
def stj (d : SD) (p : Nat) : Nat → Nat
  | 0 => d.sl.toNat
  | n + 1 => d.J (stj d p n) (pw d p (n + 1))
/-- a.star -/
def IsStar (K : PySem.W.Frag) (Cs : List Addr) (CW : Addr) (d : SD) (p : Nat) : HR := fun v G => ∃ L b, Orb d p L b ∧ IsWt K Cs CW d (stj d p (L - 1)) v G
instance (K Cs CW d p) : Mon (IsStar K Cs CW d p) := ⟨fun s ⟨L, b, o, h⟩ => ⟨L, b, o, Mon.mon s h⟩⟩
/-! ### lists of places -/
abbrev nVs (l : List Nat) : List V := l.map fun k => V.int (k : Nat)
/-! ### operators by values -/
end L2.DS
/-! The laws' own tables of places, and the table scale made of them. -/
namespace L2.DS
open PySem PySem.Spec PyProof.Rows
/-- the scale that a table of places makes -/
def tabSD (names : List Str) (nv sl : Nat) (th jn : Nat → Nat → Int) : SD := ⟨tbLab names (names.getD nv ("" : Str)) (names.getD sl ("" : Str)) (rowsS names jn) (rowsS names th), names, (nv : Nat), (sl : Nat), 1, th, jn⟩
/-- what is known of such tables -/
structure TbIs (names : List Str) (nv sl : Nat) (th jn : Nat → Nat → Int) : Prop where
  l1 : 1 ≤ names.length
  l2 : names.length ≤ 16
  nd : names.Nodup
  ok : ∀ nm ∈ names, okNm nm = true
  so : ∀ nm ∈ names, PyData.strOk nm = true
  nv : nv < names.length
  sl : sl < names.length
  th : ∀ a b, a < names.length → b < names.length → 0 ≤ th a b ∧ th a b < names.length
  jn : ∀ a b, a < names.length → b < names.length → 0 ≤ jn a b ∧ jn a b < names.length
section
variable {names : List Str} {nv sl : Nat} {th jn : Nat → Nat → Int}
theorem TbIs.tb (h : TbIs names nv sl th jn) : TbOk names (rowsS names jn) (rowsS names th) (names.getD nv ("" : Str)) (names.getD sl ("" : Str)) := by
  have rj := rowsS_ok h.jn
  have rt := rowsS_ok h.th
  exact ⟨h.l1, h.l2, h.nd, h.ok, (idx_getD h.nd h.nv).1, (idx_getD h.nd h.sl).1, rj.1, rj.2, rt.1, rt.2⟩
end
/-- the laws' rows of a table scale: names, joins, products, never, still, the scale -/
def TbAt (K : PySem.W.Frag) (Cs : List Addr) (names : List Str) (nv sl : Nat) (th jn : Nat → Nat → Int) (p : Addr) (G : Hp) : Prop := ∃ pn pj pp x, G p = some (.lst [.ref pn, .ref pj, .ref pp, .int (nv : Nat), .int (sl : Nat), .ref x]) ∧ G pn = some (.lst (names.map V.str)) ∧ TabN G pj names.length jn ∧ TabN G pp names.length th ∧ ScD K Cs (tabSD names nv sl th jn) x G
theorem TbAt.mono {K : PySem.W.Frag} {Cs : List Addr} {names : List Str} {nv sl : Nat} {th jn : Nat → Nat → Int} {p : Addr} {G G' : Hp} (h : TbAt K Cs names nv sl th jn p G) (s : Same G G') : TbAt K Cs names nv sl th jn p G' := by
  obtain ⟨pn, pj, pp, x, a, b, c, d, e⟩ := h
  exact ⟨pn, pj, pp, x, s _ _ a, s _ _ b, c.mono s, d.mono s, e.mono s⟩
def IsTb (K : PySem.W.Frag) (Cs : List Addr) (P : SD → Prop) : HR := fun v G => ∃ (p : Addr) (names : List Str) (nv sl : Nat) (th jn : Nat → Nat → Int), v = .ref p ∧ TbAt K Cs names nv sl th jn p G ∧ TbIs names nv sl th jn ∧ P (tabSD names nv sl th jn)
instance (K Cs P) : Mon (IsTb K Cs P) := ⟨fun s ⟨p, names, nv, sl, th, jn, e, a, b, c⟩ => ⟨p, names, nv, sl, th, jn, e, a.mono s, b, c⟩⟩
/-! ### the five sorts of regular tables -/
/-! ### a list that was newly made is changed -/
/-- a row newly made -/
def IsIRn (F : Hp) (n : Nat) (f : Nat → Int) : HR := IsNew F (.lst ((List.range n).map fun b => V.int (f b)))
instance (F n f) : Mon (IsIRn F n f) := inferInstanceAs (Mon (IsNew _ _))
/-! ### rows told apart -/
end L2.DS
/-! Residuals and stars on regular scales; joins of lists of places. -/
/-! Lists of things of one kind that grow; the values of and, or, not of worths. -/
namespace L2.DS
open PySem PySem.Spec PyProof.Rows
/-- n things of one kind -/
def AllR (R : HR) (n : Nat) : HRs := fun xs G => ∃ ss : List Nat, RL (fun _ => R) ss xs G ∧ ss.length = n
instance (R : HR) [Mon R] (n : Nat) : Mons (AllR R n) := ⟨fun s ⟨ss, r, l⟩ => ⟨ss, rl_mon s r, l⟩⟩
theorem AllR.len {R : HR} {n : Nat} {xs : List V} {G : Hp} (h : AllR R n xs G) : xs.length = n := by
  obtain ⟨ss, r, l⟩ := h
  rw [rl_len r, l]
theorem AllR.app {R : HR} {n m : Nat} {xs ys : List V} {G : Hp} (h : AllR R n xs G) (h' : AllR R m ys G) : AllR R (n + m) (xs ++ ys) G := by
  obtain ⟨ss, r, l⟩ := h
  obtain ⟨ts, r', l'⟩ := h'
  exact ⟨ss ++ ts, rl_app r r', by rw [List.length_append, l, l']⟩
theorem AllR.get {R : HR} {n i : Nat} {xs : List V} {G : Hp} (h : AllR R n xs G) (hi : i < n) : ∃ v, xs[i]? = some v ∧ R v G := by
  obtain ⟨ss, r, l⟩ := h
  exact rl_get r (List.getElem?_eq_getElem (by omega))
/-- a list newly made of things that stood before it -/
def IsNXF (S : SR) (G0 : Hp) (RA : HRs) : HR := fun v G => ∃ F p xs m J, S m F J ∧ v = .ref p ∧ Same G0 F ∧ F p = none ∧ Same F G ∧ RA xs F ∧ G p = some (.lst xs)
instance (S G0 RA) : Mon (IsNXF S G0 RA) := ⟨fun s ⟨F, p, xs, m, J, z, e, a, b, c, d, g⟩ => ⟨F, p, xs, m, J, z, e, a, b, c.trans s, d, s _ _ g⟩⟩
section
variable {S : SR} {n k ka kb m i : Nat} {te to : TE} {t : TA} {σ : L2.St} {G : Hp} {K : PySem.W.Frag} {R : HR} {p q : Addr} {xs ys : List V}
theorem ev_IP {Pm : Int → Prop} {j : Int} (e : Ev S n k te σ G (IsV (.int j))) (h : Pm j) : Ev S n k te σ G (IsI Pm) := e.imp fun v G' s' e => ⟨j, h, e⟩
theorem Fr.new {S : SR} {G H F G1 H1 : Hp} {D : Addr} {o : HO} (f : Fr S G H G1 H1) (a : Same G F) (hF : F D = none) (hD : G1 D = some o) : H D = none := (f.n D o hD).resolve_left fun z => by rw [a _ _ z] at hF; cases hF
end
/-! ### worths of one scale -/
/-- some worth of d -/
def IsWtA (K : PySem.W.Frag) (Cs : List Addr) (CW : Addr) (d : SD) : HR := fun v G => ∃ (w : Addr) (p : Nat), v = .ref w ∧ WtAt K Cs CW d p w G
instance (K Cs CW d) : Mon (IsWtA K Cs CW d) := ⟨fun s ⟨w, p, e, h⟩ => ⟨w, p, e, h.mono s⟩⟩
end L2.DS
/-! Texts cut into words; lists of lists that grow and are closed. -/
namespace L2.DS
open PySem PySem.Spec PyProof.Rows
/-! ### a def in which a token is out -/
/-! ### words in lists -/
inductive Wd where
  | w (s : Str)
  | l (ws : List Wd)
mutual
def WdAt : Wd → V → Hp → Prop
  | .w s, v, _ => v = .str s
  | .l ws, v, G => ∃ p xs, v = .ref p ∧ G p = some (.lst xs) ∧ WdsAt ws xs G
def WdsAt : List Wd → List V → Hp → Prop
  | [], xs, _ => xs = []
  | a :: r, xs, G => ∃ x ys, xs = x :: ys ∧ WdAt a x G ∧ WdsAt r ys G
end
mutual
theorem WdAt.mono : ∀ {a : Wd} {v : V} {G G' : Hp}, WdAt a v G → Same G G' → WdAt a v G'
  | .w _, _, _, _, h, _ => by
    unfold WdAt at h ⊢
    exact h
  | .l ws, _, _, _, h, s => by
    unfold WdAt at h ⊢
    obtain ⟨p, xs, e, g, h⟩ := h
    exact ⟨p, xs, e, s _ _ g, WdsAt.mono h s⟩
theorem WdsAt.mono : ∀ {a : List Wd} {v : List V} {G G' : Hp}, WdsAt a v G → Same G G' → WdsAt a v G'
  | [], _, _, _, h, _ => by
    unfold WdsAt at h ⊢
    exact h
  | a :: r, _, _, _, h, s => by
    unfold WdsAt at h ⊢
    obtain ⟨x, ys, e, h1, h2⟩ := h
    exact ⟨x, ys, e, WdAt.mono h1 s, WdsAt.mono h2 s⟩
end
theorem WdsAt.nil {G : Hp} : WdsAt [] [] G := by
  unfold WdsAt
  rfl
theorem WdsAt.cons {a : Wd} {r : List Wd} {x : V} {ys : List V} {G : Hp} (h : WdAt a x G) (h' : WdsAt r ys G) : WdsAt (a :: r) (x :: ys) G := by
  unfold WdsAt
  exact ⟨x, ys, rfl, h, h'⟩
theorem WdsAt.of_nil {xs : List V} {G : Hp} (h : WdsAt [] xs G) : xs = [] := by
  unfold WdsAt at h
  exact h
theorem WdsAt.of_cons {a : Wd} {r : List Wd} {xs : List V} {G : Hp} (h : WdsAt (a :: r) xs G) : ∃ x ys, xs = x :: ys ∧ WdAt a x G ∧ WdsAt r ys G := by
  unfold WdsAt at h
  exact h
theorem WdsAt.len : ∀ {a : List Wd} {xs : List V} {G : Hp}, WdsAt a xs G → xs.length = a.length
  | [], _, _, h => by rw [h.of_nil]; rfl
  | a :: r, _, _, h => by
    obtain ⟨x, ys, rfl, _, h2⟩ := h.of_cons
    rw [List.length_cons, List.length_cons, h2.len]
theorem WdsAt.snoc : ∀ {a : List Wd} {xs : List V} {G : Hp} {b : Wd} {y : V}, WdsAt a xs G → WdAt b y G → WdsAt (a ++ [b]) (xs ++ [y]) G
  | [], _, _, _, _, h, h' => by
    rw [h.of_nil]
    exact .cons h' .nil
  | a :: r, _, _, _, _, h, h' => by
    obtain ⟨x, ys, rfl, h1, h2⟩ := h.of_cons
    exact .cons h1 (h2.snoc h')
theorem WdsAt.get : ∀ {a : List Wd} {xs : List V} {G : Hp} {i : Nat} {b : Wd}, WdsAt a xs G → a[i]? = some b → ∃ x, xs[i]? = some x ∧ WdAt b x G
  | [], _, _, _, _, _, e => by simp at e
  | a :: r, _, _, 0, _, h, e => by
    obtain ⟨x, ys, rfl, h1, h2⟩ := h.of_cons
    obtain rfl : a = _ := by simpa using e
    exact ⟨x, rfl, h1⟩
  | a :: r, _, _, i + 1, _, h, e => by
    obtain ⟨x, ys, rfl, h1, h2⟩ := h.of_cons
    exact h2.get (i := i) (by simpa using e)
theorem WdAt.w {s : Str} {G : Hp} : WdAt (.w s) (.str s) G := by
  unfold WdAt
  rfl
theorem WdAt.l {ws : List Wd} {p : Addr} {xs : List V} {G : Hp} (g : G p = some (.lst xs)) (h : WdsAt ws xs G) : WdAt (.l ws) (.ref p) G := by
  unfold WdAt
  exact ⟨p, xs, rfl, g, h⟩
/-! ### parentheses -/
def nwOp (t : Str) (st : List (List Wd)) : Option (List (List Wd)) :=
  if t = ("(" : Str) then some ([] :: st) else if t = (")" : Str) then (match st with | a :: b :: r => some ((b ++ [.l a]) :: r) | _ => none) else if t = ("" : Str) then some st else match st with | a :: r => some ((a ++ [.w t]) :: r) | [] => none
def nwStep (D : Nat) (t : Str) (st : List (List Wd)) : Option (List (List Wd)) := (nwOp t st).bind fun s => if s.length ≤ D then some s else none
def nwRun (D : Nat) : List Str → List (List Wd) → Option (List (List Wd))
  | [], st => some st
  | t :: r, st => (nwStep D t st).bind (nwRun D r)
def nwEnd : List (List Wd) → Option (List Wd)
  | [ws] => some ws
  | _ => none
def nw (D : Nat) (ts : List Str) : Option (List Wd) := (nwRun D ts [[]]).bind nwEnd
def toks (x : Str) : List Str := Txt.split (Txt.replace (Txt.replace x ("(" : Str) (" ( " : Str)) (")" : Str) (" ) " : Str)) (" " : Str)
def Opn (H G : Hp) : List Addr → List (List Wd) → Prop
  | [], [] => True
  | r :: rs, ws :: st => (∃ xs, H r = some (.lst xs) ∧ WdsAt ws xs G) ∧ Opn H G rs st
  | _, _ => False
theorem Opn.len {H G : Hp} : ∀ {rs : List Addr} {st : List (List Wd)}, Opn H G rs st → rs.length = st.length
  | [], [], _ => rfl
  | _ :: rs, _ :: st, h => by rw [List.length_cons, List.length_cons, h.2.len]
  | [], _ :: _, h => h.elim
  | _ :: _, [], h => h.elim
theorem Opn.go {H G H' G' : Hp} : ∀ {rs : List Addr} {st : List (List Wd)}, Opn H G rs st → Same G G' → (∀ r ∈ rs, ∀ xs, H r = some (.lst xs) → H' r = some (.lst xs)) → Opn H' G' rs st
  | [], [], _, _, _ => trivial
  | r :: rs, _ :: st, h, s, k => by
    obtain ⟨⟨xs, hx, hw⟩, h⟩ := h
    exact ⟨⟨xs, k r List.mem_cons_self _ hx, hw.mono s⟩, h.go s fun r' hr => k r' (List.mem_cons_of_mem _ hr)⟩
  | [], _ :: _, h, _, _ => h.elim
  | _ :: _, [], h, _, _ => h.elim
theorem Opn.some {H G : Hp} : ∀ {rs : List Addr} {st : List (List Wd)}, Opn H G rs st → ∀ r ∈ rs, ∃ xs, H r = some (.lst xs)
  | [], [], _, r, hr => by cases hr
  | a :: rs, _ :: st, h, r, hr => by
    rcases List.mem_cons.mp hr with rfl | hr
    · exact ⟨_, h.1.choose_spec.1⟩
    · exact h.2.some r hr
  | [], _ :: _, h, _, _ => h.elim
  | _ :: _, [], h, _, _ => h.elim
/-- the open lists at L, in the heap H; G tells of what stands still -/
structure NwI (G0 H0 G H : Hp) (L : Addr) (rs : List Addr) (st : List (List Wd)) : Prop where
  s : Grow G0 H0 G H
  l : H L = some (.lst (rs.reverse.map V.ref))
  o : Opn H G rs st
  n : (L :: rs).Nodup
  h0 : ∀ r ∈ L :: rs, H0 r = none
  g : ∀ r ∈ L :: rs, G r = none
section
variable {G0 H0 G H J : Hp} {L r : Addr} {rs : List Addr} {st : List (List Wd)} {K : PySem.W.Frag}
theorem NwI.sp (h : NwI G0 H0 G H L rs st) : (SP0 G0 H0).s 0 G H := h.s
theorem NwI.pub (hs : Same G0 H0) (h : NwI G0 H0 G H L rs st) : (SP0 G0 H0).s 0 (upd G L (.lst (rs.reverse.map V.ref))) H :=
  (stab0 G0 H0).pub (n := 0) (m := 0) (Grow.refl hs) (h.h0 L List.mem_cons_self) h.sp (h.g L List.mem_cons_self) h.l
theorem NwI.same (h : NwI G0 H0 G H L rs st) : Same G (upd G L (.lst (rs.reverse.map V.ref))) := fun b o e => by
  rw [upd_ne (ne_of_none e (h.g L List.mem_cons_self))]
  exact e
theorem NwI.k (h : NwI G0 H0 G H L rs st) (k : Kp (SP0 G0 H0) H J) (s : Grow G0 H0 G J) : NwI G0 H0 G J L rs st :=
  ⟨s, k.k _ _ (fun z => z) h.l, h.o.go (Same.refl _) fun r hr xs e => k.k _ _ (fun z => z) e, h.n, h.h0, h.g⟩
theorem NwI.grow {n : Nat} {G2 H2 : Hp} (h : NwI G0 H0 G H L rs st) (s : Stp (SP0 G0 H0) n G H G2 H2) : NwI G0 H0 G2 H2 L rs st := by
  refine ⟨s.s, s.k.k _ _ (fun z => z) h.l, h.o.go s.g fun r hr xs e => s.k.k _ _ (fun z => z) e, h.n, h.h0, fun r hr => ?_⟩
  cases hz : G2 r with
  | none => rfl
  | some o =>
    rcases s.n r o hz with e | e
    · rw [h.g r hr] at e
      cases e
    · rcases List.mem_cons.mp hr with rfl | hr
      · rw [h.l] at e
        cases e
      · obtain ⟨xs, e'⟩ := h.o.some r hr
        rw [e'] at e
        cases e
/-- a list more -/
theorem NwI.push (h : NwI G0 H0 G H L rs st) (k : Kp (SP0 G0 H0) H J) (hr : J r = some (.lst [])) (hr0 : H r = none) (gr : G r = none) (s : Grow G0 H0 G (upd J L (.lst (rs.reverse.map V.ref ++ [.ref r])))) : NwI G0 H0 G (upd J L (.lst (rs.reverse.map V.ref ++ [.ref r]))) L (r :: rs) ([] :: st) := by
  have hl : H L ≠ none := by rw [h.l]; simp
  have rL : r ≠ L := fun e => hl (e ▸ hr0)
  have rr : r ∉ rs := fun hm => by
    obtain ⟨xs, e⟩ := h.o.some r hm
    rw [hr0] at e
    cases e
  have nL : L ∉ rs := (List.nodup_cons.mp h.n).1
  refine ⟨s, ?_, ⟨⟨[], by rw [upd_ne rL]; exact hr, .nil⟩, h.o.go (Same.refl _) fun r' hr' xs e => ?_⟩, ?_, fun r' hm => ?_, fun r' hm => ?_⟩
  · rw [upd_same, List.reverse_cons, List.map_append]
    rfl
  · rw [upd_ne (show r' ≠ L from fun z => nL (z ▸ hr'))]
    exact k.k _ _ (fun z => z) e
  · refine List.nodup_cons.mpr ⟨fun hm => ?_, List.nodup_cons.mpr ⟨rr, (List.nodup_cons.mp h.n).2⟩⟩
    rcases List.mem_cons.mp hm with e | hm
    · exact rL e.symm
    · exact nL hm
  · rcases List.mem_cons.mp hm with rfl | hm
    · exact h.h0 _ List.mem_cons_self
    rcases List.mem_cons.mp hm with rfl | hm
    · cases hz : H0 r' with
      | none => rfl
      | some o =>
        have := h.s.h _ _ hz
        rw [hr0] at this
        cases this
    · exact h.h0 _ (List.mem_cons_of_mem _ hm)
  · rcases List.mem_cons.mp hm with rfl | hm
    · exact h.g _ List.mem_cons_self
    rcases List.mem_cons.mp hm with rfl | hm
    · exact gr
    · exact h.g _ (List.mem_cons_of_mem _ hm)
/-- a word more in the last list -/
theorem NwI.word {ws : List Wd} {xs : List V} {b : Wd} {v : V} (h : NwI G0 H0 G H L (r :: rs) (ws :: st)) (k : Kp (SP0 G0 H0) H J) (hx : H r = some (.lst xs)) (hw : WdsAt ws xs G) (hb : WdAt b v G) (s : Grow G0 H0 G (upd J r (.lst (xs ++ [v])))) : NwI G0 H0 G (upd J r (.lst (xs ++ [v]))) L (r :: rs) ((ws ++ [b]) :: st) := by
  have nL := (List.nodup_cons.mp h.n).1
  have nr := (List.nodup_cons.mp (List.nodup_cons.mp h.n).2).1
  refine ⟨s, ?_, ⟨⟨_, upd_same, hw.snoc hb⟩, h.o.2.go (Same.refl _) fun r' hr' xs' e => ?_⟩, h.n, h.h0, h.g⟩
  · rw [upd_ne (show L ≠ r from fun z => nL (z ▸ List.mem_cons_self))]
    exact k.k _ _ (fun z => z) h.l
  · rw [upd_ne (show r' ≠ r from fun z => nr (z ▸ hr'))]
    exact k.k _ _ (fun z => z) e
/-- the last list is closed -/
theorem NwI.close {ws : List Wd} {xs : List V} (hs : Same G0 H0) (h : NwI G0 H0 G H L (r :: rs) (ws :: st)) (hx : H r = some (.lst xs)) (hw : WdsAt ws xs G) (s : Grow G0 H0 G (upd H L (.lst (rs.reverse.map V.ref)))) : NwI G0 H0 (upd G r (.lst xs)) (upd H L (.lst (rs.reverse.map V.ref))) L rs st ∧ WdAt (.l ws) (.ref r) (upd G r (.lst xs)) := by
  have nL := (List.nodup_cons.mp h.n).1
  have nn := List.nodup_cons.mp (List.nodup_cons.mp h.n).2
  have rm : r ∈ L :: r :: rs := List.mem_cons_of_mem _ List.mem_cons_self
  have rL : r ≠ L := fun z => nL (z ▸ List.mem_cons_self)
  have su : Same G (upd G r (.lst xs)) := fun b o e => by
    rw [upd_ne (ne_of_none e (h.g r rm))]
    exact e
  refine ⟨⟨(stab0 G0 H0).pub (n := 0) (m := 0) (Grow.refl hs) (h.h0 r rm) s (h.g r rm) (by rw [upd_ne rL]; exact hx), upd_same, h.o.2.go su fun r' hr' xs' e => ?_, List.nodup_cons.mpr ⟨fun hm => nL (List.mem_cons_of_mem _ hm), nn.2⟩, fun r' hm => ?_, fun r' hm => ?_⟩, .l upd_same (hw.mono su)⟩
  · rw [upd_ne (show r' ≠ L from fun z => nL (z ▸ List.mem_cons_of_mem _ hr'))]
    exact e
  · rcases List.mem_cons.mp hm with rfl | hm
    · exact h.h0 _ List.mem_cons_self
    · exact h.h0 _ (List.mem_cons_of_mem _ (List.mem_cons_of_mem _ hm))
  · have e : r' ≠ r := by
      rcases List.mem_cons.mp hm with e | hm
      · rw [e]
        exact fun z => rL z.symm
      · exact fun z => nn.1 (z ▸ hm)
    rw [upd_ne e]
    rcases List.mem_cons.mp hm with rfl | hm
    · exact h.g _ List.mem_cons_self
    · exact h.g _ (List.mem_cons_of_mem _ (List.mem_cons_of_mem _ hm))
end
end L2.DS
/-! The words of a label (plain law). -/
namespace L2.DS
open PySem PySem.Spec PyProof.Rows _root_.TL
/-! ### signs -/
def g1S (k : Nat) : List Nat := if k = 40 then [32, 40, 32] else [k]
def g2S (k : Nat) : List Nat := if k = 41 then [32, 41, 32] else [k]
def gS (k : Nat) : List Nat := if k = 40 then [32, 40, 32] else if k = 41 then [32, 41, 32] else [k]
theorem repl_one {c : Nat} {z : List Nat} : ∀ l : List Nat, StrLaws.replL [c] z l = l.flatMap fun k => if k = c then z else [k]
  | [] => StrLaws.replL_nil
  | k :: r => by
    rw [List.flatMap_cons]
    by_cases h : k = c
    · subst h
      rw [StrLaws.replL_hit (by simp) (by simp), if_pos rfl]
      show z ++ StrLaws.replL [k] z r = _
      rw [repl_one r]
    · rw [StrLaws.replL_miss (by simpa using h), if_neg h, repl_one r]
      rfl
theorem gS_is (l : List Nat) : (l.flatMap g1S).flatMap g2S = l.flatMap gS := by
  rw [List.flatMap_assoc]
  congr 1
  funext k
  unfold g1S gS
  by_cases h : k = 40
  · rw [if_pos h, if_pos h]
    decide
  · rw [if_neg h, if_neg h]
    show g2S k ++ [] = _
    rw [List.append_nil]
    rfl
theorem toks_tl (x : Str) : (toks x).map tl = TL.spl [32] 0 [] ((tl x).flatMap gS) := by
  unfold toks
  have a1 : tl (Txt.replace x ("(" : Str) (" ( " : Str)) = (tl x).flatMap g1S := by
    rw [show tl (Txt.replace x ("(" : Str) (" ( " : Str)) = _ from StrLaws.replace_list (by decide +kernel), show ("(" : Str).cps.toList = [40] from by decide +kernel, show (" ( " : Str).cps.toList = [32, 40, 32] from by decide +kernel, repl_one]
    rfl
  have a2 : tl (Txt.replace (Txt.replace x ("(" : Str) (" ( " : Str)) (")" : Str) (" ) " : Str)) = (tl x).flatMap gS := by
    rw [show tl (Txt.replace (Txt.replace x ("(" : Str) (" ( " : Str)) (")" : Str) (" ) " : Str)) = _ from StrLaws.replace_list (by decide +kernel), show (")" : Str).cps.toList = [41] from by decide +kernel, show (" ) " : Str).cps.toList = [32, 41, 32] from by decide +kernel, repl_one]
    show (tl (Txt.replace x ("(" : Str) (" ( " : Str))).flatMap g2S = _
    rw [a1, gS_is]
  have sp : tl (" " : Str) = [32] := by decide +kernel
  rw [split_spl _ _ (by rw [sp]; simp) (by
    have : Builtin.Str.strKind (" " : Str) = 1 := by decide +kernel
    rw [this]
    unfold Builtin.Str.strKind
    split
    · omega
    · split <;> omega), a2, sp]
/-- the words of a text that are not empty -/
def TLw (l : List Nat) : List (List Nat) := (TL.spl [32] 0 [] (l.flatMap gS)).filter (· ≠ [])
def Tk (x : Str) : List Str := (toks x).filter (· ≠ ("" : Str))
theorem tl_nil {x : Str} : x = ("" : Str) ↔ tl x = [] := ⟨fun h => by rw [h]; decide +kernel, fun h => ext_tl (by rw [h]; decide +kernel)⟩
theorem Tk_tl (x : Str) : (Tk x).map tl = TLw (tl x) := by
  unfold Tk TLw
  rw [← toks_tl, List.filter_map]
  congr 1
  apply List.filter_congr
  intro a _
  show decide (a ≠ ("" : Str)) = decide (tl a ≠ [])
  exact decide_eq_decide.mpr (not_congr tl_nil)
theorem spl_app {b : List Nat} : ∀ (a acc : List Nat), TL.spl [32] 0 acc (a ++ 32 :: b) = TL.spl [32] 0 acc a ++ TL.spl [32] 0 [] b
  | [], acc => by
    rw [List.nil_append, spl_hit (by simp [pre]), spl_nil]
    rfl
  | c :: r, acc => by
    by_cases h : c = 32
    · subst h
      rw [List.cons_append, spl_hit (by simp [pre]), spl_hit (by simp [pre])]
      show acc :: TL.spl [32] 0 [] (r ++ 32 :: b) = acc :: TL.spl [32] 0 [] r ++ _
      rw [spl_app r]
      rfl
    · have hp : ∀ q, pre [32] (c :: q) = false := fun q => by simp [pre, h]
      rw [List.cons_append, spl_miss (hp _), spl_miss (hp _), spl_app r]
theorem TLw_sp (a b : List Nat) : TLw (a ++ 32 :: b) = TLw a ++ TLw b := by
  unfold TLw
  rw [List.flatMap_append, List.flatMap_cons, show gS 32 = [32] from by decide]
  show (TL.spl [32] 0 [] (a.flatMap gS ++ 32 :: b.flatMap gS)).filter _ = _
  rw [spl_app, List.filter_append]
theorem TLw_par {c : Nat} (hc : c = 40 ∨ c = 41) (a b : List Nat) : TLw (a ++ c :: b) = TLw a ++ [c] :: TLw b := by
  unfold TLw
  have e : gS c = [32, c, 32] := by rcases hc with rfl | rfl <;> decide
  rw [List.flatMap_append, List.flatMap_cons, e]
  show (TL.spl [32] 0 [] (a.flatMap gS ++ 32 :: ([c] ++ 32 :: b.flatMap gS))).filter _ = _
  rw [spl_app, spl_app, show TL.spl [32] 0 [] [c] = [[c]] from by rcases hc with rfl | rfl <;> decide, List.filter_append]
  rfl
theorem TLw_nil : TLw [] = [] := by decide
/-- no blank, no parenthesis -/
def plW (l : List Nat) : Prop := l ≠ [] ∧ ∀ k ∈ l, k ≠ 32 ∧ k ≠ 40 ∧ k ≠ 41
theorem TLw_word {l : List Nat} (h : plW l) : TLw l = [l] := by
  have e : l.flatMap gS = l := by
    have : ∀ l : List Nat, (∀ k ∈ l, k ≠ 32 ∧ k ≠ 40 ∧ k ≠ 41) → l.flatMap gS = l := fun l => by
      induction l with
      | nil => exact fun _ => rfl
      | cons k r ih =>
        intro h
        have hk := h k List.mem_cons_self
        rw [List.flatMap_cons, ih fun x hx => h x (List.mem_cons_of_mem _ hx)]
        unfold gS
        rw [if_neg hk.2.1, if_neg hk.2.2]
        rfl
    exact this l h.2
  unfold TLw
  rw [e, spl_last1 (s := 32) (S := []) fun m => (h.2 32 m).1 rfl, List.nil_append]
  simp [h.1]
/-! ### texts -/
theorem Tk_sp (a b : Str) : Tk (a ++ (" " : Str) ++ b) = Tk a ++ Tk b := map_tl_inj (by
  rw [List.map_append, Tk_tl, Tk_tl, Tk_tl, tl_append, tl_append, show tl (" " : Str) = [32] from by decide +kernel, List.append_assoc]
  exact TLw_sp _ _)
theorem Tk_lp (a b : Str) : Tk (a ++ ("(" : Str) ++ b) = Tk a ++ ("(" : Str) :: Tk b := map_tl_inj (by
  rw [List.map_append, List.map_cons, Tk_tl, Tk_tl, Tk_tl, tl_append, tl_append, show tl ("(" : Str) = [40] from by decide +kernel, List.append_assoc]
  exact TLw_par (.inl rfl) _ _)
theorem Tk_rp (a b : Str) : Tk (a ++ (")" : Str) ++ b) = Tk a ++ (")" : Str) :: Tk b := map_tl_inj (by
  rw [List.map_append, List.map_cons, Tk_tl, Tk_tl, Tk_tl, tl_append, tl_append, show tl (")" : Str) = [41] from by decide +kernel, List.append_assoc]
  exact TLw_par (.inr rfl) _ _)
theorem Tk_nil : Tk ("" : Str) = [] := map_tl_inj (by
  rw [Tk_tl, show tl ("" : Str) = [] from by decide +kernel]
  exact TLw_nil)
def PlW (s : Str) : Prop := plW (tl s)
theorem Tk_word {s : Str} (h : PlW s) : Tk s = [s] := map_tl_inj (by rw [Tk_tl, TLw_word h]; rfl)
theorem Tk_join : ∀ {ws : List Str}, (∀ s ∈ ws, PlW s) → Tk (Txt.join (" " : Str) ws) = ws
  | [], _ => Tk_nil
  | [a], h => Tk_word (h a List.mem_cons_self)
  | a :: b :: r, h => by
    have e : Txt.join (" " : Str) (a :: b :: r) = a ++ (" " : Str) ++ Txt.join (" " : Str) (b :: r) := by
      show Builtin.Str.glued _ _ = _ ++ _ ++ Builtin.Str.glued _ _
      rw [StrLaws.glued_eq_join, StrLaws.glued_eq_join]
      rfl
    rw [e, Tk_sp, Tk_word (h a List.mem_cons_self), Tk_join fun s hs => h s (List.mem_cons_of_mem _ hs)]
    rfl
theorem Tk_joins : ∀ ws : List Str, Tk (Txt.join (" " : Str) ws) = ws.flatMap Tk
  | [] => Tk_nil
  | [a] => by
    show Tk a = Tk a ++ []
    rw [List.append_nil]
  | a :: b :: r => by
    have e : Txt.join (" " : Str) (a :: b :: r) = a ++ (" " : Str) ++ Txt.join (" " : Str) (b :: r) := by
      show Builtin.Str.glued _ _ = _ ++ _ ++ Builtin.Str.glued _ _
      rw [StrLaws.glued_eq_join, StrLaws.glued_eq_join]
      rfl
    rw [e, Tk_sp, Tk_joins (b :: r)]
    rfl
/-! ### words in lists, written -/
mutual
def tkW : Wd → List Str
  | .w s => [s]
  | .l ws => ("(" : Str) :: (tkWs ws ++ [(")" : Str)])
def tkWs : List Wd → List Str
  | [] => []
  | a :: r => tkW a ++ tkWs r
end
mutual
def dpW : Wd → Nat
  | .w _ => 0
  | .l ws => dpWs ws + 1
def dpWs : List Wd → Nat
  | [] => 0
  | a :: r => max (dpW a) (dpWs r)
end
mutual
def PlWd : Wd → Prop
  | .w s => PlW s
  | .l ws => PlWds ws
def PlWds : List Wd → Prop
  | [] => True
  | a :: r => PlWd a ∧ PlWds r
end
theorem PlW.ne {s : Str} (h : PlW s) : s ≠ ("(" : Str) ∧ s ≠ (")" : Str) ∧ s ≠ ("" : Str) := by
  refine ⟨fun e => ?_, fun e => ?_, fun e => ?_⟩
  · have := h.2 40 (by rw [e]; decide +kernel)
    exact this.2.1 rfl
  · have := h.2 41 (by rw [e]; decide +kernel)
    exact this.2.2 rfl
  · exact h.1 (by rw [e]; decide +kernel)
mutual
theorem run_tkW {D : Nat} {rest : List Str} : ∀ {w : Wd} {a : List Wd} {st : List (List Wd)}, PlWd w → dpW w + st.length + 1 ≤ D → nwRun D (tkW w ++ rest) (a :: st) = nwRun D rest ((a ++ [w]) :: st)
  | .w s, a, st, h, hd => by
    unfold PlWd at h
    unfold dpW at hd
    obtain ⟨h1, h2, h3⟩ := h.ne
    unfold tkW
    show (nwStep D s (a :: st)).bind (nwRun D rest) = _
    unfold nwStep nwOp
    rw [if_neg h1, if_neg h2, if_neg h3]
    show ((if ((a ++ [.w s]) :: st).length ≤ D then some ((a ++ [.w s]) :: st) else none).bind _) = _
    rw [if_pos (by rw [List.length_cons]; omega)]
    rfl
  | .l ws, a, st, h, hd => by
    unfold PlWd at h
    unfold dpW at hd
    unfold tkW
    rw [List.cons_append, List.append_assoc]
    show (nwStep D ("(" : Str) (a :: st)).bind (nwRun D (tkWs ws ++ ([(")" : Str)] ++ rest))) = _
    unfold nwStep nwOp
    rw [if_pos rfl]
    show ((if ([] :: a :: st).length ≤ D then some ([] :: a :: st) else none).bind _) = _
    rw [if_pos (by rw [List.length_cons, List.length_cons]; omega)]
    show nwRun D (tkWs ws ++ ([(")" : Str)] ++ rest)) ([] :: a :: st) = _
    rw [run_tkWs h (by rw [List.length_cons]; omega), List.nil_append]
    show (nwStep D (")" : Str) (ws :: a :: st)).bind (nwRun D rest) = _
    unfold nwStep nwOp
    rw [if_neg (by decide +kernel), if_pos rfl]
    show ((if ((a ++ [.l ws]) :: st).length ≤ D then some ((a ++ [.l ws]) :: st) else none).bind _) = _
    rw [if_pos (by rw [List.length_cons]; omega)]
    rfl
theorem run_tkWs {D : Nat} {rest : List Str} : ∀ {ws : List Wd} {a : List Wd} {st : List (List Wd)}, PlWds ws → dpWs ws + st.length + 1 ≤ D → nwRun D (tkWs ws ++ rest) (a :: st) = nwRun D rest ((a ++ ws) :: st)
  | [], a, st, _, _ => by
    unfold tkWs
    rw [List.nil_append, List.append_nil]
  | w :: r, a, st, h, hd => by
    unfold PlWds at h
    unfold dpWs at hd
    unfold tkWs
    rw [List.append_assoc, run_tkW h.1 (by omega), run_tkWs h.2 (by omega), List.append_assoc]
    rfl
end
theorem nwRun_filter {D : Nat} : ∀ (ts : List Str) (st : List (List Wd)), st.length ≤ D → nwRun D ts st = nwRun D (ts.filter (· ≠ ("" : Str))) st
  | [], _, _ => rfl
  | t :: r, st, h => by
    by_cases e : t = ("" : Str)
    · rw [List.filter_cons_of_neg (by simpa using e)]
      show (nwStep D t st).bind _ = _
      unfold nwStep nwOp
      rw [if_neg (by rw [e]; decide +kernel), if_neg (by rw [e]; decide +kernel), if_pos e]
      show ((if st.length ≤ D then some st else none).bind _) = _
      rw [if_pos h]
      exact nwRun_filter r st h
    · rw [List.filter_cons_of_pos (by simpa using e)]
      show (nwStep D t st).bind _ = (nwStep D t st).bind _
      cases hz : nwStep D t st with
      | none => rfl
      | some s2 =>
        have hl : s2.length ≤ D := by
          unfold nwStep at hz
          cases hy : nwOp t st with
          | none =>
            rw [hy] at hz
            cases hz
          | some s3 =>
            rw [hy] at hz
            replace hz : (if s3.length ≤ D then some s3 else none) = some s2 := hz
            split at hz
            · rw [← Option.some.inj hz]
              assumption
            · cases hz
        exact nwRun_filter r s2 hl
theorem nw_of {D : Nat} {x : Str} {ws : List Wd} (h : Tk x = tkWs ws) (p : PlWds ws) (hd : dpWs ws + 1 ≤ D) : nw D (toks x) = some ws := by
  unfold nw
  rw [nwRun_filter _ _ (by simp; omega)]
  show (nwRun D (Tk x) [[]]).bind _ = _
  rw [h, ← List.append_nil (tkWs ws), run_tkWs p (by simpa using hd)]
  rfl
theorem tkWs_map (l : List Str) : tkWs (l.map Wd.w) = l := by
  induction l with
  | nil => unfold tkWs; rfl
  | cons a r ih =>
    rw [List.map_cons]
    unfold tkWs tkW
    rw [ih]
    rfl
theorem PlWds_map {l : List Str} (h : ∀ s ∈ l, PlW s) : PlWds (l.map Wd.w) := by
  induction l with
  | nil => unfold PlWds; trivial
  | cons a r ih =>
    rw [List.map_cons]
    unfold PlWds PlWd
    exact ⟨h a List.mem_cons_self, ih fun s hs => h s (List.mem_cons_of_mem _ hs)⟩
theorem dpWs_map (l : List Str) : dpWs (l.map Wd.w) = 0 := by
  induction l with
  | nil => unfold dpWs; rfl
  | cons a r ih =>
    rw [List.map_cons]
    unfold dpWs dpW
    rw [ih]
    rfl
/-! ### the label of a table -/
def wdTb (names : List Str) (never still : Str) (joins products : List (List Str)) : Wd := .l [.w ("table" : Str), .l (names.map Wd.w), .w never, .w still, .l (joins.flatten.map Wd.w), .l (products.flatten.map Wd.w)]
theorem Tk_joinR {rows : List (List Str)} (h : ∀ r ∈ rows, ∀ s ∈ r, PlW s) : Tk (joinR rows) = rows.flatten := by
  unfold joinR
  rw [Tk_joins, List.flatMap_map]
  induction rows with
  | nil => rfl
  | cons a r ih =>
    rw [List.flatMap_cons, List.flatten_cons, ih fun x hx => h x (List.mem_cons_of_mem _ hx), Tk_join (h a List.mem_cons_self)]
theorem Tk_tbLab {names : List Str} {never still : Str} {joins products : List (List Str)} (hn : ∀ s ∈ names, PlW s) (h1 : PlW never) (h2 : PlW still) (hj : ∀ r ∈ joins, ∀ s ∈ r, PlW s) (hp : ∀ r ∈ products, ∀ s ∈ r, PlW s) : Tk (tbLab names never still joins products) = tkWs [wdTb names never still joins products] := map_tl_inj (by
  have eN : TLw (tl (Txt.join (" " : Str) names)) = names.map tl := by rw [← Tk_tl, Tk_join hn]
  have eJ : TLw (tl (joinR joins)) = joins.flatten.map tl := by rw [← Tk_tl, Tk_joinR hj]
  have eP : TLw (tl (joinR products)) = products.flatten.map tl := by rw [← Tk_tl, Tk_joinR hp]
  have e1 : TLw (tl never) = [tl never] := TLw_word h1
  have e2 : TLw (tl still) = [tl still] := TLw_word h2
  have e3 : TLw [116, 97, 98, 108, 101] = [[116, 97, 98, 108, 101]] := TLw_word (by constructor <;> decide)
  have lit : tl ("(table (" : Str) = [40, 116, 97, 98, 108, 101, 32, 40] ∧ tl (") " : Str) = [41, 32] ∧ tl (" " : Str) = [32] ∧ tl (" (" : Str) = [32, 40] ∧ tl (") (" : Str) = [41, 32, 40] ∧ tl ("))" : Str) = [41, 41] ∧ tl ("(" : Str) = [40] ∧ tl (")" : Str) = [41] ∧ tl ("table" : Str) = [116, 97, 98, 108, 101] := by decide +kernel
  obtain ⟨l1, l2, l3, l4, l5, l6, l7, l8, l9⟩ := lit
  rw [Tk_tl]
  unfold tbLab
  simp only [tl_append, l1, l2, l3, l4, l5, l6, List.append_assoc, List.cons_append, List.nil_append]
  show TLw ([] ++ 40 :: ([116, 97, 98, 108, 101] ++ 32 :: ([] ++ 40 :: (tl (Txt.join (" " : Str) names) ++ 41 :: ([] ++ 32 :: (tl never ++ 32 :: (tl still ++ 32 :: ([] ++ 40 :: (tl (joinR joins) ++ 41 :: ([] ++ 32 :: ([] ++ 40 :: (tl (joinR products) ++ 41 :: ([] ++ 41 :: []))))))))))))) = _
  rw [TLw_par (.inl rfl), TLw_sp, TLw_par (.inl rfl), TLw_par (.inr rfl), TLw_sp, TLw_sp, TLw_sp, TLw_par (.inl rfl), TLw_par (.inr rfl), TLw_sp, TLw_par (.inl rfl), TLw_par (.inr rfl), TLw_par (.inr rfl), TLw_nil, eN, eJ, eP, e1, e2, e3]
  unfold wdTb
  simp only [tkWs, tkW, tkWs_map, List.map_append, List.map_cons, List.map_nil, List.append_nil, List.nil_append, List.cons_append, List.append_assoc, l7, l8, l9])
end L2.DS
/-! Rows cut from a list; tables read. -/
namespace L2.DS
open PySem PySem.Spec PyProof.Rows
section
variable {S : SR} {n k ka kb kc i c1 : Nat} {te el : TE} {tl th : TO} {σ : L2.St} {G : Hp} {K : PySem.W.Frag} {vs : List Nat} {lo hi : Option Int} {p : Addr} {xs : List V}
/-- l[lo:hi] -/
theorem ev_slLN (st : Stab S) (h : Ev S n ka te σ G (IsV (.ref p))) (hq : SqL K G p xs) (h1 : EvO S (n + ka) kb tl σ G lo) (h2 : EvO S (n + ka + kb) kc th σ G hi) :
    Ev S n (ka + kb + kc) (tSl (rSlL K) te tl th) σ G (IsNew G (.lst (cutV xs lo hi))) := fun G1 H1 s0 s Q q =>
  h G1 H1 s0 s _ fun v G2 H2 s2 e => h1 G2 H2 (s0.trans s2.g) s2.s _ fun G3 H3 s3 => h2 G3 H3 ((s0.trans s2.g).trans s3.g) s3.s _ fun G4 H4 s4 => by
    obtain rfl := (show _ = _ from e)
    have t := (s2.trans s3).trans s4
    have g4 : Same G G4 := s0.trans t.g
    refine ⟨p, xs, rfl, (g4.trans (st.sub t.s)).seq hq, fun q' hp => ?_⟩
    have nn := st.new (o := .lst (cutV xs lo hi)) t.s hp
    have tt : Stp S (n + (ka + kb + kc)) G1 H1 (upd G4 q' (.lst (cutV xs lo hi))) (upd H4 q' (.lst (cutV xs lo hi))) := by
      have := t.trans nn
      rw [show n + ka + kb + kc = n + (ka + kb + kc) by omega] at this
      exact this
    exact q (.ref q') _ _ tt ⟨q', rfl, (g4.trans (st.sub t.s)).free hp, upd_same⟩
end
theorem sgn_no : sgn 32 = false ∧ sgn 40 = false ∧ sgn 41 = false := by decide +kernel
theorem okNm_pl {nm : Str} (h : okNm nm = true) : PlW nm := by
  obtain ⟨h1, h2⟩ := okNm_len h
  unfold okNm at h
  rw [Bool.and_eq_true] at h
  have ha := List.all_eq_true.mp h.2
  refine ⟨fun e => ?_, fun k hk => ?_⟩
  · have : nm.length = 0 := by rw [_root_.TL.len_tl, e]; rfl
    omega
  · have := ha (sgn k) (List.mem_map_of_mem hk)
    refine ⟨fun e => ?_, fun e => ?_, fun e => ?_⟩
    · rw [e, sgn_no.1] at this
      cases this
    · rw [e, sgn_no.2.1] at this
      cases this
    · rw [e, sgn_no.2.2] at this
      cases this
def IsTabS (rows : List (List Str)) : HR := fun v G' => ∃ q, v = .ref q ∧ TabS G' q rows
instance (rows) : Mon (IsTabS rows) := ⟨fun s ⟨q, e, h⟩ => ⟨q, e, h.mono s⟩⟩
/-! ### promises -/
/-- the words of a table -/
def wdT (names : List Str) (nv sl : Nat) (th jn : Nat → Nat → Int) : List Wd := [.l (names.map Wd.w), .w (names.getD nv ("" : Str)), .w (names.getD sl ("" : Str)), .l ((rowsS names jn).flatten.map Wd.w), .l ((rowsS names th).flatten.map Wd.w)]
def IsWd (a : Wd) : HR := fun v G => WdAt a v G
instance (a) : Mon (IsWd a) := ⟨fun s h => WdAt.mono h s⟩
section
variable {S : SR} {n k : Nat} {t : TA} {σ : L2.St} {G : Hp} {K : PySem.W.Frag} {CB p : Addr} {x : Str} {ws : List Wd} {xs : List V}
theorem cutV_1 {x0 : V} {r : List V} : cutV (x0 :: r) (some 1) none = r := by
  unfold cutV
  rw [show (some (1 : Int)) = some (((1 : Nat)) : Int) from rfl, HT.sIx_nat, HT.sIx_none, List.length_cons, Nat.min_eq_left (by omega)]
  simp
end
end L2.DS
/-! A def that a try watches. -/
namespace L2.DS
open PySem PySem.Spec PyProof.Rows
section
variable {X : Cx} {CX : CXT} {k : Nat} {ps : List Str} {sp : Sp} {E : L2.St → XK} {x : Str} {e : Expr} {es : List Expr} {t : TA} {p pos : Pos}
theorem pe_callSC (c : Callee X.prog X.w X.K X.mg X.base x CX k ps [] sp) (hr : Room k X.A) (hx : ∀ σ, PassesAt CX X σ (E σ)) (ha : PA X (e :: es) t) (hg : Gl X x := by rfl) (hdb : (x == ("__debug__" : Str)) = false := by decide)
    (he : starEach (e :: es) X.env = (false, eval e X.env) :: starEach es X.env := by rfl) (hpl : (backTo pos (starEach es X.env)).any (·.1) = false := by rfl) : PE X (.Call (.Name x p) (e :: es) [] pos) (tCallS sp E t) := by
  obtain ⟨f, fd, ds, h1, h2, h3, h4, h5⟩ := c
  obtain rfl : ds = [] := by cases h5; rfl
  exact pe_callS h3 hr hg h1 h2 h4 hx ha hdb he hpl
end
/-! ### two lists that grow and a list of two numbers, all newly made -/
structure Mu (S : SR) (n : Nat) (H0 G J : Hp) (D : Addr) (Fs : Nat → Addr) (d : Nat → Nat) (l : Nat → List Bool) : Prop where
  s : S n G J
  d : J D = some (.lst [.int (d 0 : Nat), .int (d 1 : Nat)])
  f : ∀ i, i < 2 → J (Fs i) = some (.lst ((l i).map V.bl))
  nd : ∀ i, i < 2 → D ≠ Fs i
  nf : Fs 0 ≠ Fs 1
  hD : H0 D = none
  hF : ∀ i, i < 2 → H0 (Fs i) = none
  gD : G D = none
  gF : ∀ i, i < 2 → G (Fs i) = none
section
variable {S : SR} {n m n0 : Nat} {G0 H0 G J G' J' : Hp} {D : Addr} {Fs : Nat → Addr} {d : Nat → Nat} {l : Nat → List Bool}
theorem Mu.k (h : Mu S n H0 G J D Fs d l) (st : Stab S) (s0 : S n0 G0 H0) (k : Kp S J J') (s : S m G J') : Mu S m H0 G J' D Fs d l :=
  ⟨s, k.k _ _ (st.fre s0 h.hD) h.d, fun i hi => k.k _ _ (st.fre s0 (h.hF i hi)) (h.f i hi), h.nd, h.nf, h.hD, h.hF, h.gD, h.gF⟩
theorem Mu.grow (h : Mu S n H0 G J D Fs d l) (st : Stab S) (s0 : S n0 G0 H0) (s : Stp S m G J G' J') : Mu S m H0 G' J' D Fs d l := by
  have gn : ∀ {b : Addr} {o : HO}, G b = none → J b = some o → G' b = none := fun {b o} g j => by
    cases hz : G' b with
    | none => rfl
    | some o' =>
      rcases s.n b o' hz with e | e
      · rw [g] at e
        cases e
      · rw [j] at e
        cases e
  exact ⟨s.s, s.k.k _ _ (st.fre s0 h.hD) h.d, fun i hi => s.k.k _ _ (st.fre s0 (h.hF i hi)) (h.f i hi), h.nd, h.nf, h.hD, h.hF, gn h.gD h.d, fun i hi => gn (h.gF i hi) (h.f i hi)⟩
theorem Mu.ne (h : Mu S n H0 G J D Fs d l) {i j : Nat} (hi : i < 2) (hj : j < 2) (e : i ≠ j) : Fs i ≠ Fs j := by
  have : (i = 0 ∧ j = 1) ∨ (i = 1 ∧ j = 0) := by omega
  rcases this with ⟨rfl, rfl⟩ | ⟨rfl, rfl⟩
  · exact h.nf
  · exact h.nf.symm
theorem Mu.app (h : Mu S n H0 G J D Fs d l) {i : Nat} (hi : i < 2) {b : Bool} (s : S m G (upd J (Fs i) (.lst ((l i).map V.bl ++ [.bl b])))) : Mu S m H0 G (upd J (Fs i) (.lst ((l i).map V.bl ++ [.bl b]))) D Fs d (fun j => if j = i then l i ++ [b] else l j) := by
  refine ⟨s, ?_, fun j hj => ?_, h.nd, h.nf, h.hD, h.hF, h.gD, h.gF⟩
  · rw [upd_ne (h.nd i hi)]
    exact h.d
  · by_cases e : j = i
    · subst e
      rw [upd_same, if_pos rfl, List.map_append]
      rfl
    · rw [upd_ne (h.ne hj hi e), if_neg e]
      exact h.f j hj
theorem Mu.set (h : Mu S n H0 G J D Fs d l) {i v : Nat} (hi : i < 2) (s : S m G (upd J D (.lst ([V.int (d 0 : Nat), .int (d 1 : Nat)].set i (.int (v : Nat)))))) : Mu S m H0 G (upd J D (.lst ([V.int (d 0 : Nat), .int (d 1 : Nat)].set i (.int (v : Nat))))) D Fs (fun j => if j = i then v else d j) l := by
  refine ⟨s, ?_, fun j hj => ?_, h.nd, h.nf, h.hD, h.hF, h.gD, h.gF⟩
  · rw [upd_same]
    have : i = 0 ∨ i = 1 := by omega
    rcases this with rfl | rfl <;> rfl
  · rw [upd_ne (h.nd j hj).symm]
    exact h.f j hj
theorem Mu.pub (h : Mu S n H0 G J D Fs d l) (st : Stab S) (s0 : S n0 G0 H0) : S n (upd G D (.lst [.int (d 0 : Nat), .int (d 1 : Nat)])) J := st.pub s0 h.hD h.s h.gD h.d
theorem Mu.same (h : Mu S n H0 G J D Fs d l) {o : HO} : Same G (upd G D o) := fun b o e => by
  rw [upd_ne (ne_of_none e h.gD)]
  exact e
end
/-! ### what before and behind of a table look for (plain law) -/
end L2.DS
/-! Worths of scales that are told by a property; labels told apart; the lists of a turn published. -/
namespace L2.DS
open PySem PySem.Spec PyProof.Rows
section
variable {S : SR} {n m n0 : Nat} {G0 H0 G J G' J' : Hp} {D : Addr} {Fs : Nat → Addr} {d : Nat → Nat} {l : Nat → List Bool}
theorem Mu.all (h : Mu S n H0 G J D Fs d l) (st : Stab S) (s0 : S n0 G0 H0) : ∃ G', Same G G' ∧ S n G' J ∧ G' D = some (.lst [.int (d 0 : Nat), .int (d 1 : Nat)]) ∧ ∀ i, i < 2 → G' (Fs i) = some (.lst ((l i).map V.bl)) := by
  have a := h.pub st s0
  have n0 := h.nd 0 (by decide)
  have n1 := h.nd 1 (by decide)
  have g0 : upd G D (.lst [.int (d 0 : Nat), .int (d 1 : Nat)]) (Fs 0) = none := by rw [upd_ne n0.symm]; exact h.gF 0 (by decide)
  have b := st.pub s0 (h.hF 0 (by decide)) a g0 (h.f 0 (by decide))
  have g1 : upd (upd G D (.lst [.int (d 0 : Nat), .int (d 1 : Nat)])) (Fs 0) (.lst ((l 0).map V.bl)) (Fs 1) = none := by rw [upd_ne h.nf.symm, upd_ne n1.symm]; exact h.gF 1 (by decide)
  have c := st.pub s0 (h.hF 1 (by decide)) b g1 (h.f 1 (by decide))
  refine ⟨_, fun x o e => ?_, c, ?_, fun i hi => ?_⟩
  · rw [upd_ne (ne_of_none e (h.gF 1 (by decide))), upd_ne (ne_of_none e (h.gF 0 (by decide))), upd_ne (ne_of_none e h.gD)]
    exact e
  · rw [upd_ne n1, upd_ne n0, upd_same]
  · rcases (show i = 0 ∨ i = 1 by omega) with rfl | rfl
    · rw [upd_ne h.nf, upd_same]
    · rw [upd_same]
end
/-! labels told apart by their beginnings -/
theorem str_assoc (a b c : Str) : a ++ b ++ c = a ++ (b ++ c) := str_inj (by rw [cps_app, cps_app, cps_app, cps_app, List.append_assoc])
end L2.DS
/-! Operators of own classes that a try watches; ==, str of own classes; classmethods that raise. -/
/-! Two tables newly made, one of them changed. -/
namespace L2.DS
open PySem PySem.Spec PyProof.Rows
/-- two tables newly made, the second one behind the first -/
def TwoN (G : Hp) (n : Nat) (fj ft : Nat → Nat → Int) : HRs := fun vs G2 => ∃ (p q : Addr) (ys zs : List V) (G1 : Hp), vs = [.ref p, .ref q] ∧ Same G G1 ∧ Same G1 G2 ∧ G p = none ∧ G1 p = some (.lst ys) ∧ RL (fun a => IsIRn G n (fj a)) (List.range n) ys G1 ∧ ys.Nodup ∧
  G1 q = none ∧ G2 q = some (.lst zs) ∧ RL (fun a => IsIRn G1 n (ft a)) (List.range n) zs G2 ∧ zs.Nodup
instance (G n fj ft) : Mons (TwoN G n fj ft) := ⟨fun s ⟨p, q, ys, zs, G1, e, a, b, c, d, f, g, h, i, j, k⟩ => ⟨p, q, ys, zs, G1, e, a, b.trans s, c, d, f, g, h, s _ _ i, rl_mon s j, k⟩⟩
theorem rl_row {F G : Hp} {n : Nat} {f : Nat → Nat → Int} : ∀ {l : List Nat} {vs : List V}, RL (fun a => IsIRn F n (f a)) l vs G → RL (fun a => IsIRow n (f a)) l vs G
  | [], _, h => h
  | _ :: _, _, ⟨v, w, e, ⟨q, e2, _, g⟩, r⟩ => ⟨v, w, e, ⟨q, e2, g⟩, rl_row r⟩
end L2.DS
/-! Labels of scales of any family, read (plain law). -/
namespace L2.DS
open PySem PySem.Spec PyProof.Rows _root_.TL
def dig (c : Nat) : Bool := !(Builtin.Str.occurrences ("0123456789" : Str) ⟨#[c]⟩ 0 ("0123456789" : Str).length 1).isEmpty
/-- the words of small numbers -/
theorem num_ok : ∀ m : Nat, m < 64 → PySem.intText? (toString ((m : Nat) : Int) : Str) = some ((m : Nat) : Int) ∧ 1 ≤ (toString ((m : Nat) : Int) : Str).length ∧ (toString ((m : Nat) : Int) : Str).length ≤ 60 ∧ (∀ c ∈ (toString ((m : Nat) : Int) : Str).cps.toList, dig c = true) := by decide +kernel
theorem num_pl : ∀ m : Nat, m < 64 → tl (toString ((m : Nat) : Int) : Str) ≠ [] ∧ ∀ k ∈ tl (toString ((m : Nat) : Int) : Str), k ≠ 32 ∧ k ≠ 40 ∧ k ≠ 41 := by decide +kernel
theorem heads_pl : ∀ s ∈ (["count", "span", "set", "watch", "pair", "turned", "heap", "table", "up", "down", "may", "must"] : List Str), tl s ≠ [] ∧ ∀ k ∈ tl s, k ≠ 32 ∧ k ≠ 40 ∧ k ≠ 41 := by decide +kernel
theorem ordS_pl (up : Bool) : PlW (ordS up) := by cases up <;> exact heads_pl _ (by decide)
theorem joinS_pl (may : Bool) : PlW (joinS may) := by cases may <;> exact heads_pl _ (by decide)
theorem app_nil (a : Str) : a ++ ("" : Str) = a := str_inj (by rw [cps_app, show ("" : Str).cps.toList = [] from by decide +kernel, List.append_nil])
theorem nil_app (a : Str) : ("" : Str) ++ a = a := str_inj (by rw [cps_app, show ("" : Str).cps.toList = [] from by decide +kernel, List.nil_append])
/-- (h b) -/
theorem Tk_frm {h : Str} (b : Str) (hw : PlW h) : Tk (("(" : Str) ++ h ++ (" " : Str) ++ b ++ (")" : Str)) = ("(" : Str) :: h :: (Tk b ++ [(")" : Str)]) := by
  have e1 := Tk_rp (("(" : Str) ++ h ++ (" " : Str) ++ b) ("" : Str)
  rw [app_nil, Tk_nil] at e1
  have e2 := Tk_lp ("" : Str) h
  rw [nil_app, Tk_nil, Tk_word hw] at e2
  rw [e1, Tk_sp, e2]
  rfl
inductive Rdb : Nat → SD → Wd → Prop
  | tab {n : Nat} {names : List Str} {nv sl : Nat} {th jn : Nat → Nat → Int} (T : TbIs names nv sl th jn) : Rdb n (tabSD names nv sl th jn) (.l (.w ("table" : Str) :: wdT names nv sl th jn))
  | cnt {n m : Nat} {up : Bool} (h : m < 63) : Rdb n (cntSD m up) (.l [.w ("count" : Str), .w (toString ((m : Nat) : Int) : Str), .w (ordS up)])
  | span {n m : Nat} (h : m < 10) : Rdb n (spanSD m) (.l [.w ("span" : Str), .w (toString ((m : Nat) : Int) : Str)])
  | set {n c : Nat} {may : Bool} (h0 : 1 ≤ c) (h : c < 6) : Rdb n (stSD c may) (.l [.w ("set" : Str), .w (toString ((c : Nat) : Int) : Str), .w (joinS may)])
  | watch {n s : Nat} (h0 : 1 ≤ s) (h : s < 3) : Rdb n (wtSD s) (.l [.w ("watch" : Str), .w (toString ((s : Nat) : Int) : Str)])
  | turn {n : Nat} {d : SD} {w : Wd} (h : Rdb n d w) (o : SdOk d) (hd : depL [d] ≤ 10) : Rdb (n + 1) (turnSD d) (.l [.w ("turned" : Str), w])
  | heap {n : Nat} {d : SD} {w : Wd} (h : Rdb n d w) (o : SdOk d) (l6 : d.names.length ≤ 6) (hd : depL [d] ≤ 10) (nd : (heapNames d.names).Nodup) : Rdb (n + 1) (heapSD d) (.l [.w ("heap" : Str), w])
  | pair {n : Nat} {d1 d2 : SD} {w1 w2 : Wd} (h1 : Rdb n d1 w1) (h2 : Rdb n d2 w2) (o1 : SdOk d1) (o2 : SdOk d2) (l64 : d1.names.length * d2.names.length ≤ 64) (hd : depL [d1, d2] ≤ 10) (nd : (pairNames d1 d2).Nodup) : Rdb (n + 1) (pairSD d1 d2) (.l [.w ("pair" : Str), w1, w2])
theorem Rdb.up {n : Nat} {d : SD} {w : Wd} (h : Rdb n d w) : Rdb (n + 1) d w := by
  induction h with
  | tab T => exact .tab T
  | cnt h => exact .cnt h
  | span h => exact .span h
  | set h0 h => exact .set h0 h
  | watch h0 h => exact .watch h0 h
  | turn h o hd ih => exact .turn ih o hd
  | heap h o l6 hd nd ih => exact .heap ih o l6 hd nd
  | pair h1 h2 o1 o2 l64 hd nd ih1 ih2 => exact .pair ih1 ih2 o1 o2 l64 hd nd
theorem tb_pl {names : List Str} {nv sl : Nat} {th jn : Nat → Nat → Int} (T : TbIs names nv sl th jn) : Tk (tabSD names nv sl th jn).label = tkW (.l (.w ("table" : Str) :: wdT names nv sl th jn)) ∧ PlWd (.l (.w ("table" : Str) :: wdT names nv sl th jn)) := by
  have tb := T.tb
  have hn : ∀ s ∈ names, PlW s := fun s h => okNm_pl (T.ok s h)
  have fl : ∀ {rows : List (List Str)}, (∀ r ∈ rows, ∀ s ∈ r, PlW s) → ∀ s ∈ rows.flatten, PlW s := fun h s hs => by
    obtain ⟨r, hr, hs⟩ := List.mem_flatten.mp hs
    exact h r hr s hs
  have hj : ∀ r ∈ rowsS names jn, ∀ s ∈ r, PlW s := fun r hr s hs => hn s ((tb.jr r hr).2 s hs)
  have hp : ∀ r ∈ rowsS names th, ∀ s ∈ r, PlW s := fun r hr s hs => hn s ((tb.pr r hr).2 s hs)
  refine ⟨?_, ?_⟩
  · have e := Tk_tbLab hn (hn _ tb.nv) (hn _ tb.sl) hj hp
    show Tk (tbLab _ _ _ _ _) = _
    rw [e]
    unfold wdTb wdT
    simp only [tkWs, List.append_nil]
  · unfold wdT
    simp only [PlWds, PlWd]
    exact ⟨heads_pl _ (by decide), PlWds_map hn, hn _ tb.nv, hn _ tb.sl, PlWds_map (fl hj), PlWds_map (fl hp), trivial⟩
/-- what a label's words are -/
theorem Rdb.tok {n : Nat} {d : SD} {w : Wd} (h : Rdb n d w) : Tk d.label = tkW w ∧ PlWd w ∧ dpW w ≤ n + 2 := by
  induction h with
  | tab T =>
    refine ⟨(tb_pl T).1, (tb_pl T).2, ?_⟩
    unfold wdT
    simp only [dpW, dpWs, dpWs_map]
    omega
  | @cnt n m up h =>
    have pm : PlW (toString ((m : Nat) : Int) : Str) := num_pl m (by omega)
    have e : (cntSD m up).label = ("(" : Str) ++ ("count" : Str) ++ (" " : Str) ++ ((toString ((m : Nat) : Int) : Str) ++ (" " : Str) ++ ordS up) ++ (")" : Str) := by
      show clabel _ _ = _
      unfold clabel
      rw [show ("(count " : Str) = ("(" : Str) ++ ("count" : Str) ++ (" " : Str) from by decide +kernel]
      simp only [str_assoc]
    refine ⟨?_, ?_, ?_⟩
    · rw [e, Tk_frm _ (heads_pl _ (by decide)), Tk_sp, Tk_word pm, Tk_word (ordS_pl up)]
      rfl
    · simp only [PlWd, PlWds]
      exact ⟨heads_pl _ (by decide), pm, ordS_pl up, trivial⟩
    · simp only [dpW, dpWs]
      omega
  | @span n m h =>
    have pm : PlW (toString ((m : Nat) : Int) : Str) := num_pl m (by omega)
    have e : (spanSD m).label = ("(" : Str) ++ ("span" : Str) ++ (" " : Str) ++ (toString ((m : Nat) : Int) : Str) ++ (")" : Str) := by
      show slabel _ = _
      unfold slabel
      rw [show ("(span " : Str) = ("(" : Str) ++ ("span" : Str) ++ (" " : Str) from by decide +kernel]
    refine ⟨?_, ?_, ?_⟩
    · rw [e, Tk_frm _ (heads_pl _ (by decide)), Tk_word pm]
      rfl
    · simp only [PlWd, PlWds]
      exact ⟨heads_pl _ (by decide), pm, trivial⟩
    · simp only [dpW, dpWs]
      omega
  | @set n c may h0 h =>
    have pm : PlW (toString ((c : Nat) : Int) : Str) := num_pl c (by omega)
    have e : (stSD c may).label = ("(" : Str) ++ ("set" : Str) ++ (" " : Str) ++ ((toString ((c : Nat) : Int) : Str) ++ (" " : Str) ++ joinS may) ++ (")" : Str) := by
      show tlabel _ _ = _
      unfold tlabel
      rw [show ("(set " : Str) = ("(" : Str) ++ ("set" : Str) ++ (" " : Str) from by decide +kernel]
      simp only [str_assoc]
    refine ⟨?_, ?_, ?_⟩
    · rw [e, Tk_frm _ (heads_pl _ (by decide)), Tk_sp, Tk_word pm, Tk_word (joinS_pl may)]
      rfl
    · simp only [PlWd, PlWds]
      exact ⟨heads_pl _ (by decide), pm, joinS_pl may, trivial⟩
    · simp only [dpW, dpWs]
      omega
  | @watch n s h0 h =>
    have pm : PlW (toString ((s : Nat) : Int) : Str) := num_pl s (by omega)
    have e : (wtSD s).label = ("(" : Str) ++ ("watch" : Str) ++ (" " : Str) ++ (toString ((s : Nat) : Int) : Str) ++ (")" : Str) := by
      show wlabel _ = _
      unfold wlabel
      rw [show ("(watch " : Str) = ("(" : Str) ++ ("watch" : Str) ++ (" " : Str) from by decide +kernel]
    refine ⟨?_, ?_, ?_⟩
    · rw [e, Tk_frm _ (heads_pl _ (by decide)), Tk_word pm]
      rfl
    · simp only [PlWd, PlWds]
      exact ⟨heads_pl _ (by decide), pm, trivial⟩
    · simp only [dpW, dpWs]
      omega
  | @turn n d w h o hd ih =>
    have e : (turnSD d).label = ("(" : Str) ++ ("turned" : Str) ++ (" " : Str) ++ d.label ++ (")" : Str) := by
      show ("(turned " : Str) ++ d.label ++ (")" : Str) = _
      rw [show ("(turned " : Str) = ("(" : Str) ++ ("turned" : Str) ++ (" " : Str) from by decide +kernel]
    refine ⟨?_, ?_, ?_⟩
    · rw [e, Tk_frm _ (heads_pl _ (by decide)), ih.1]
      simp only [tkW, tkWs, List.append_nil, List.cons_append, List.nil_append]
    · simp only [PlWd, PlWds]
      exact ⟨heads_pl _ (by decide), ih.2.1, trivial⟩
    · simp only [dpW, dpWs]
      have := ih.2.2
      omega
  | @heap n d w h o l6 hd nd ih =>
    have e : (heapSD d).label = ("(" : Str) ++ ("heap" : Str) ++ (" " : Str) ++ d.label ++ (")" : Str) := by
      show ("(heap " : Str) ++ d.label ++ (")" : Str) = _
      rw [show ("(heap " : Str) = ("(" : Str) ++ ("heap" : Str) ++ (" " : Str) from by decide +kernel]
    refine ⟨?_, ?_, ?_⟩
    · rw [e, Tk_frm _ (heads_pl _ (by decide)), ih.1]
      simp only [tkW, tkWs, List.append_nil, List.cons_append, List.nil_append]
    · simp only [PlWd, PlWds]
      exact ⟨heads_pl _ (by decide), ih.2.1, trivial⟩
    · simp only [dpW, dpWs]
      have := ih.2.2
      omega
  | @pair n d1 d2 w1 w2 h1 h2 o1 o2 l64 hd nd ih1 ih2 =>
    have e : (pairSD d1 d2).label = ("(" : Str) ++ ("pair" : Str) ++ (" " : Str) ++ (d1.label ++ (" " : Str) ++ d2.label) ++ (")" : Str) := by
      show ("(pair " : Str) ++ d1.label ++ (" " : Str) ++ d2.label ++ (")" : Str) = _
      rw [show ("(pair " : Str) = ("(" : Str) ++ ("pair" : Str) ++ (" " : Str) from by decide +kernel]
      simp only [str_assoc]
    refine ⟨?_, ?_, ?_⟩
    · rw [e, Tk_frm _ (heads_pl _ (by decide)), Tk_sp, ih1.1, ih2.1]
      simp only [tkW, tkWs, List.append_nil, List.cons_append, List.nil_append, List.append_assoc]
    · simp only [PlWd, PlWds]
      exact ⟨heads_pl _ (by decide), ih1.2.1, ih2.2.1, trivial⟩
    · simp only [dpW, dpWs]
      have a := ih1.2.2
      have b := ih2.2.2
      omega
theorem Rdb.nw {n : Nat} {d : SD} {w : Wd} (h : Rdb n d w) (hn : n ≤ 9) : nw 12 (toks d.label) = some [w] := by
  obtain ⟨a, b, c⟩ := h.tok
  refine nw_of (ws := [w]) ?_ ?_ ?_
  · rw [a]
    simp only [tkWs, List.append_nil]
  · simp only [PlWds]
    exact ⟨b, trivial⟩
  · simp only [dpWs]
    omega
/-! promises -/
end L2.DS
/-! Lists of texts and tuples of numbers compared; comprehensions over tuples; maps of worths. -/
namespace L2.DS
open PySem PySem.Spec PyProof.Rows
section
variable {S : SR} {n k : Nat} {te el : TE} {σ : L2.St} {G : Hp} {K : PySem.W.Frag} {p q i : Addr} {xs : List V} {vs : List Nat}
/-- tuple(l), l newly made -/
theorem ev_tupN2 (st : Stab S) {F : Hp} {xs : List V} (h : Ev S n k te σ G (IsNew F (.lst xs))) : Ev S n k (tCB (rTupQ K) (tCons te tNil)) σ G (fun v G' => ∃ p, v = .ref p ∧ G' p = some (.tup xs)) := fun G1 H1 s0 s Q q =>
  h G1 H1 s0 s _ fun v G2 H2 s2 ⟨p, e, f, g⟩ => ⟨p, xs, by rw [e], .inl ⟨SqL.of (st.sub s2.s _ _ g), fun l hl => by
    have t := st.new (o := .tup xs) s2.s hl
    exact q (.ref l) _ _ (s2.trans t) ⟨l, rfl, upd_same⟩⟩⟩
end
/-! ### maps -/
def mpF : List Str := ["source", "target", "image_places"]
/-- a map of worths from d to e, im the places of the images -/
def MpAt (K : PySem.W.Frag) (Cs : List Addr) (CM : Addr) (d e : SD) (im : List Nat) (m : Addr) (G : Hp) : Prop := ∃ dx fs x y p, G m = some (.ins CM dx fs) ∧ fs.lookup ("source" : Str) = some (.ref x) ∧ fs.lookup ("target" : Str) = some (.ref y) ∧ fs.lookup ("image_places" : Str) = some (.ref p) ∧
  ScD K Cs d x G ∧ ScD K Cs e y G ∧ G p = some (.tup (nVs im)) ∧ im.length = d.names.length ∧ (∀ i ∈ im, i < e.names.length) ∧ ∀ f, f ∉ mpF → fs.lookup f = none
theorem MpAt.mono {K : PySem.W.Frag} {Cs : List Addr} {CM : Addr} {d e : SD} {im : List Nat} {m : Addr} {G G' : Hp} (h : MpAt K Cs CM d e im m G) (s : Same G G') : MpAt K Cs CM d e im m G' := by
  obtain ⟨dx, fs, x, y, p, a, b, c, f, g, h, i, j, k, l⟩ := h
  exact ⟨dx, fs, x, y, p, s _ _ a, b, c, f, g.mono s, h.mono s, s _ _ i, j, k, l⟩
def IsMp (K : PySem.W.Frag) (Cs : List Addr) (CM : Addr) (d e : SD) (im : List Nat) : HR := fun v G => ∃ m, v = .ref m ∧ MpAt K Cs CM d e im m G
instance (K Cs CM d e im) : Mon (IsMp K Cs CM d e im) := ⟨fun s ⟨w, e, h⟩ => ⟨w, e, h.mono s⟩⟩
/-- the names of images -/
def imN (e : SD) (im : List Nat) : List Str := im.map fun i => e.names.getD i ("" : Str)
section
variable {S : SR} {n k : Nat} {te : TE} {σ : L2.St} {G : Hp} {K : PySem.W.Frag} {Cs : List Addr} {CM m : Addr} {d e : SD} {im : List Nat}
theorem MpAt.at (h : MpAt K Cs CM d e im m G) : ∃ dx fs, G m = some (.ins CM dx fs) := by
  obtain ⟨dx, fs, x, y, p, a, _⟩ := h
  exact ⟨dx, fs, a⟩
end
end L2.DS
/-! Small scales of all sorts, that a law makes. -/
namespace L2.DS
open PySem PySem.Spec PyProof.Rows
/-! ### six relations on two states -/
/-! ### one worth alone -/
/-! ### in the opposite order -/
/-- a small scale that is read back from its label -/
structure Smk (d : SD) : Prop where
  o : SdOk d
  r : ∃ w, Rdb 2 d w
  ll : d.label.length ≤ 20000
  n6 : d.names.length ≤ 6
  so : ∀ nm ∈ d.names, PyData.strOk nm = true
/-! promises -/
end L2.DS
/-! Maps that a law makes of drawn names. -/
namespace L2.DS
open PySem PySem.Spec PyProof.Rows
/-- a name -/
def IsNm (d : SD) : HR := fun v _ => ∃ i, i < d.names.length ∧ v = .str (d.names.getD i ("" : Str))
instance (d) : Mon (IsNm d) := ⟨fun _ h => h⟩
/-- a map and its list of names, in a list -/
def IsMN (K : PySem.W.Frag) (Cs : List Addr) (CM : Addr) (d e : SD) (im : List Nat) : HR := fun v G => ∃ p m pn, v = .ref p ∧ G p = some (.lst [.ref m, .ref pn]) ∧ MpAt K Cs CM d e im m G ∧ G pn = some (.lst ((imN e im).map V.str))
instance (K Cs CM d e im) : Mon (IsMN K Cs CM d e im) := ⟨fun s ⟨p, m, pn, a, b, c, g⟩ => ⟨p, m, pn, a, s _ _ b, c.mono s, s _ _ g⟩⟩
def IsMNs (K : PySem.W.Frag) (Cs : List Addr) (CM : Addr) (d e : SD) : HR := fun v G => ∃ im, IsMN K Cs CM d e im v G
instance (K Cs CM d e) : Mon (IsMNs K Cs CM d e) := ⟨fun s ⟨im, a⟩ => ⟨im, Mon.mon s a⟩⟩
end L2.DS
/-! A label tells the names. -/
namespace L2.DS
open PySem PySem.Spec PyProof.Rows
def hdW : Wd → Str
  | .l (.w s :: _) => s
  | _ => ""
def tlW : Wd → List Wd
  | .l (_ :: r) => r
  | _ => []
def wS : Wd → Str
  | .w s => s
  | _ => ""
def wL : Wd → List Wd
  | .l ws => ws
  | _ => []
theorem num_inj {m k : Nat} (hm : m < 64) (hk : k < 64) (h : (toString ((m : Nat) : Int) : Str) = (toString ((k : Nat) : Int) : Str)) : m = k := by
  have a := (num_ok m hm).1
  rw [h, (num_ok k hk).1] at a
  have := Option.some.inj a
  omega
theorem ordS_inj : ∀ {u v : Bool}, ordS u = ordS v → u = v := by decide +kernel
theorem joinS_inj : ∀ {u v : Bool}, joinS u = joinS v → u = v := by decide +kernel
theorem mapw_inj : ∀ {a b : List Str}, a.map Wd.w = b.map Wd.w → a = b
  | [], [], _ => rfl
  | [], _ :: _, h => nomatch h
  | _ :: _, [], h => nomatch h
  | x :: a, y :: b, h => by
    obtain ⟨h1, h2⟩ := List.cons.inj h
    rw [Wd.w.inj h1, mapw_inj h2]
theorem Rdb.names {n : Nat} {d : SD} {w : Wd} (h : Rdb n d w) : ∀ {m : Nat} {d' : SD} {w' : Wd}, Rdb m d' w' → w = w' → d.names = d'.names := by
  induction h with
  | tab T =>
    intro m d' w' h' e
    cases h' with
    | tab T' =>
      have t := congrArg tlW e
      exact mapw_inj (congrArg wL (List.cons.inj t).1)
    | _ => exact absurd (congrArg hdW e) (by first | exact (show ¬ (("table" : Str) = ("count" : Str)) by decide +kernel) | exact (show ¬ (("table" : Str) = ("span" : Str)) by decide +kernel) | exact (show ¬ (("table" : Str) = ("set" : Str)) by decide +kernel) | exact (show ¬ (("table" : Str) = ("watch" : Str)) by decide +kernel) | exact (show ¬ (("table" : Str) = ("turned" : Str)) by decide +kernel) | exact (show ¬ (("table" : Str) = ("heap" : Str)) by decide +kernel) | exact (show ¬ (("table" : Str) = ("pair" : Str)) by decide +kernel))
  | cnt hm =>
    intro m d' w' h' e
    cases h' with
    | cnt hk =>
      obtain ⟨t1, t2⟩ := List.cons.inj (congrArg tlW e)
      have e1 := num_inj (by omega) (by omega) (congrArg wS t1)
      have e2 := ordS_inj (congrArg wS (List.cons.inj t2).1)
      rw [e1, e2]
    | _ => exact absurd (congrArg hdW e) (by first | exact (show ¬ (("count" : Str) = ("table" : Str)) by decide +kernel) | exact (show ¬ (("count" : Str) = ("span" : Str)) by decide +kernel) | exact (show ¬ (("count" : Str) = ("set" : Str)) by decide +kernel) | exact (show ¬ (("count" : Str) = ("watch" : Str)) by decide +kernel) | exact (show ¬ (("count" : Str) = ("turned" : Str)) by decide +kernel) | exact (show ¬ (("count" : Str) = ("heap" : Str)) by decide +kernel) | exact (show ¬ (("count" : Str) = ("pair" : Str)) by decide +kernel))
  | span hm =>
    intro m d' w' h' e
    cases h' with
    | span hk =>
      obtain ⟨t1, t2⟩ := List.cons.inj (congrArg tlW e)
      have e1 := num_inj (by omega) (by omega) (congrArg wS t1)
      rw [e1]
    | _ => exact absurd (congrArg hdW e) (by first | exact (show ¬ (("span" : Str) = ("table" : Str)) by decide +kernel) | exact (show ¬ (("span" : Str) = ("count" : Str)) by decide +kernel) | exact (show ¬ (("span" : Str) = ("set" : Str)) by decide +kernel) | exact (show ¬ (("span" : Str) = ("watch" : Str)) by decide +kernel) | exact (show ¬ (("span" : Str) = ("turned" : Str)) by decide +kernel) | exact (show ¬ (("span" : Str) = ("heap" : Str)) by decide +kernel) | exact (show ¬ (("span" : Str) = ("pair" : Str)) by decide +kernel))
  | set h0 hm =>
    intro m d' w' h' e
    cases h' with
    | set h1 hk =>
      obtain ⟨t1, t2⟩ := List.cons.inj (congrArg tlW e)
      have e1 := num_inj (by omega) (by omega) (congrArg wS t1)
      have e2 := joinS_inj (congrArg wS (List.cons.inj t2).1)
      rw [e1, e2]
    | _ => exact absurd (congrArg hdW e) (by first | exact (show ¬ (("set" : Str) = ("table" : Str)) by decide +kernel) | exact (show ¬ (("set" : Str) = ("count" : Str)) by decide +kernel) | exact (show ¬ (("set" : Str) = ("span" : Str)) by decide +kernel) | exact (show ¬ (("set" : Str) = ("watch" : Str)) by decide +kernel) | exact (show ¬ (("set" : Str) = ("turned" : Str)) by decide +kernel) | exact (show ¬ (("set" : Str) = ("heap" : Str)) by decide +kernel) | exact (show ¬ (("set" : Str) = ("pair" : Str)) by decide +kernel))
  | watch h0 hm =>
    intro m d' w' h' e
    cases h' with
    | watch h1 hk =>
      obtain ⟨t1, t2⟩ := List.cons.inj (congrArg tlW e)
      have e1 := num_inj (by omega) (by omega) (congrArg wS t1)
      rw [e1]
    | _ => exact absurd (congrArg hdW e) (by first | exact (show ¬ (("watch" : Str) = ("table" : Str)) by decide +kernel) | exact (show ¬ (("watch" : Str) = ("count" : Str)) by decide +kernel) | exact (show ¬ (("watch" : Str) = ("span" : Str)) by decide +kernel) | exact (show ¬ (("watch" : Str) = ("set" : Str)) by decide +kernel) | exact (show ¬ (("watch" : Str) = ("turned" : Str)) by decide +kernel) | exact (show ¬ (("watch" : Str) = ("heap" : Str)) by decide +kernel) | exact (show ¬ (("watch" : Str) = ("pair" : Str)) by decide +kernel))
  | turn h o hd ih =>
    intro m d' w' h' e
    cases h' with
    | turn h2 o2 hd2 =>
      have := ih h2 (List.cons.inj (congrArg tlW e)).1
      exact this
    | _ => exact absurd (congrArg hdW e) (by first | exact (show ¬ (("turned" : Str) = ("table" : Str)) by decide +kernel) | exact (show ¬ (("turned" : Str) = ("count" : Str)) by decide +kernel) | exact (show ¬ (("turned" : Str) = ("span" : Str)) by decide +kernel) | exact (show ¬ (("turned" : Str) = ("set" : Str)) by decide +kernel) | exact (show ¬ (("turned" : Str) = ("watch" : Str)) by decide +kernel) | exact (show ¬ (("turned" : Str) = ("heap" : Str)) by decide +kernel) | exact (show ¬ (("turned" : Str) = ("pair" : Str)) by decide +kernel))
  | heap h o l6 hd nd ih =>
    intro m d' w' h' e
    cases h' with
    | heap h2 o2 l2 hd2 nd2 => exact congrArg heapNames (ih h2 (List.cons.inj (congrArg tlW e)).1)
    | _ => exact absurd (congrArg hdW e) (by first | exact (show ¬ (("heap" : Str) = ("table" : Str)) by decide +kernel) | exact (show ¬ (("heap" : Str) = ("count" : Str)) by decide +kernel) | exact (show ¬ (("heap" : Str) = ("span" : Str)) by decide +kernel) | exact (show ¬ (("heap" : Str) = ("set" : Str)) by decide +kernel) | exact (show ¬ (("heap" : Str) = ("watch" : Str)) by decide +kernel) | exact (show ¬ (("heap" : Str) = ("turned" : Str)) by decide +kernel) | exact (show ¬ (("heap" : Str) = ("pair" : Str)) by decide +kernel))
  | pair h1 h2 o1 o2 l hd nd ih1 ih2 =>
    intro m d' w' h' e
    cases h' with
    | pair h3 h4 o3 o4 l' hd' nd' =>
      obtain ⟨t1, t2⟩ := List.cons.inj (congrArg tlW e)
      have e1 := ih1 h3 t1
      have e2 := ih2 h4 (List.cons.inj t2).1
      show pairNames _ _ = pairNames _ _
      unfold pairNames
      rw [e1, e2]
    | _ => exact absurd (congrArg hdW e) (by first | exact (show ¬ (("pair" : Str) = ("table" : Str)) by decide +kernel) | exact (show ¬ (("pair" : Str) = ("count" : Str)) by decide +kernel) | exact (show ¬ (("pair" : Str) = ("span" : Str)) by decide +kernel) | exact (show ¬ (("pair" : Str) = ("set" : Str)) by decide +kernel) | exact (show ¬ (("pair" : Str) = ("watch" : Str)) by decide +kernel) | exact (show ¬ (("pair" : Str) = ("turned" : Str)) by decide +kernel) | exact (show ¬ (("pair" : Str) = ("heap" : Str)) by decide +kernel))
theorem Rdb.lab {n m : Nat} {d d' : SD} {w w' : Wd} (h : Rdb n d w) (h' : Rdb m d' w') (hn : n ≤ 9) (hm : m ≤ 9) (e : d.label = d'.label) : d.names = d'.names := by
  have a := h.nw hn
  rw [e, h'.nw hm] at a
  exact h.names h' (List.cons.inj (Option.some.inj a)).1.symm
theorem Smk.lab {d d' : SD} (h : Smk d) (h' : Smk d') (e : d.label = d'.label) : d.names = d'.names := by
  obtain ⟨w, a⟩ := h.r
  obtain ⟨w', a'⟩ := h'.r
  exact a.lab a' (by decide) (by decide) e
theorem cutV_to {xs : List V} {a : Nat} (h : a ≤ xs.length) : cutV xs none (some ((a : Nat) : Int)) = xs.take a := by
  unfold cutV
  rw [HT.sIx_nat, HT.sIx_none, Nat.min_eq_left h, Nat.sub_zero, List.drop_zero]
theorem cutV_from {xs : List V} {a : Nat} (h : a ≤ xs.length) : cutV xs (some ((a : Nat) : Int)) none = xs.drop a := by
  unfold cutV
  rw [HT.sIx_nat, HT.sIx_none, Nat.min_eq_left h, List.take_of_length_le (Nat.le_of_eq List.length_drop)]
end L2.DS
/-! The law's own search for a fault. -/
namespace L2.DS
open PySem PySem.Spec PyProof.Rows
/-- the law's tables of a scale: joins, products, never, still -/
def LTb (d : SD) (p : Addr) (G : Hp) : Prop := ∃ pj pp, G p = some (.lst [.ref pj, .ref pp, .int (d.nv.toNat : Nat), .int (d.sl.toNat : Nat)]) ∧ TabN G pj d.names.length d.jn ∧ TabN G pp d.names.length d.th
theorem LTb.mono {d : SD} {p : Addr} {G G' : Hp} (h : LTb d p G) (s : Same G G') : LTb d p G' := let ⟨a, b, c, e, f⟩ := h; ⟨a, b, s _ _ c, e.mono s, f.mono s⟩
/-! promises -/
/-- tables of m places -/
def LTn (m nv sl : Nat) (th jn : Nat → Nat → Int) (p : Addr) (G : Hp) : Prop := ∃ pj pp, G p = some (.lst [.ref pj, .ref pp, .int (nv : Nat), .int (sl : Nat)]) ∧ TabN G pj m jn ∧ TabN G pp m th
theorem LTn.mono {m nv sl : Nat} {th jn : Nat → Nat → Int} {p : Addr} {G G' : Hp} (h : LTn m nv sl th jn p G) (s : Same G G') : LTn m nv sl th jn p G' := let ⟨a, b, c, e, f⟩ := h; ⟨a, b, s _ _ c, e.mono s, f.mono s⟩
structure LTok (m nv sl : Nat) (th jn : Nat → Nat → Int) : Prop where
  nv : nv < m
  sl : sl < m
  th : ∀ a b, a < m → b < m → 0 ≤ th a b ∧ th a b < m
  jn : ∀ a b, a < m → b < m → 0 ≤ jn a b ∧ jn a b < m
theorem LTn.tab {names : List Str} {nv sl : Nat} {th jn : Nat → Nat → Int} {p : Addr} {G : Hp} (h : LTn names.length nv sl th jn p G) : LTb (tabSD names nv sl th jn) p G := h
theorem LTok.tab {names : List Str} {nv sl : Nat} {th jn : Nat → Nat → Int} (h : LTok names.length nv sl th jn) (l1 : 1 ≤ names.length) (l2 : names.length ≤ 16) (nd : names.Nodup) (ok : ∀ nm ∈ names, okNm nm = true) (so : ∀ nm ∈ names, PyData.strOk nm = true) : TbIs names nv sl th jn := ⟨l1, l2, nd, ok, so, h.nv, h.sl, h.th, h.jn⟩
def IsLT (m : Nat) : HR := fun v G => ∃ p nv sl th jn, v = .ref p ∧ LTn m nv sl th jn p G ∧ LTok m nv sl th jn
instance (m) : Mon (IsLT m) := ⟨fun s ⟨p, nv, sl, th, jn, e, a, b⟩ => ⟨p, nv, sl, th, jn, e, a.mono s, b⟩⟩
def IsLTF (F : Hp) (m : Nat) : HR := fun v G => ∃ p, v = .ref p ∧ F p = none ∧ IsLT m v G
instance (F m) : Mon (IsLTF F m) := ⟨fun s ⟨p, e, f, h⟩ => ⟨p, e, f, Mon.mon s h⟩⟩
/-! ### tables whose lists are new -/
def TabF (F G : Hp) (p : Addr) (n : Nat) (f : Nat → Nat → Int) : Prop := F p = none ∧ ∃ vs, G p = some (.lst vs) ∧ RL (fun a => IsIRn F n (f a)) (List.range n) vs G
theorem TabF.mono {F G G' : Hp} {p : Addr} {n : Nat} {f : Nat → Nat → Int} (h : TabF F G p n f) (s : Same G G') : TabF F G' p n f := ⟨h.1, h.2.choose, s _ _ h.2.choose_spec.1, rl_mon s h.2.choose_spec.2⟩
theorem TabF.tab {F G : Hp} {p : Addr} {n : Nat} {f : Nat → Nat → Int} (h : TabF F G p n f) : TabN G p n f := ⟨_, h.2.choose_spec.1, rl_row h.2.choose_spec.2⟩
/-! ### lists that a def writes into, handed over by its caller -/
/-! ### the answers as data -/
def ftD (d : SD) : Option (Nat × List Nat) → PyData
  | none => .none
  | some (i, t) => .tuple [.str (wordsF i), .tuple ((t.map fun k => d.names.getD k ("" : Str)).map PyData.str)]
theorem IsFt.dp {K : PySem.W.Frag} {d : SD} {G : Hp} {v : V} : ∀ {o : Option (Nat × List Nat)}, IsFt K d o v G → Dp K G v (ftD d o)
  | none, h => by
    obtain rfl := (show v = _ from h)
    exact .non
  | some (i, t), h => by
    obtain ⟨p, q, rfl, g, h⟩ := h
    refine .tup g (.cons (.str _) (.cons (.tup (SqT.of h) ?_) .nil))
    have := dp_strs (K := K) (G := G) (t.map fun k => d.names.getD k ("" : Str))
    rw [List.map_map] at this
    exact this
end L2.DS
/-! Lists that grow in one another; joined ways; the rows of a pair and of a heap as the law makes them. -/
namespace L2.DS
open PySem PySem.Spec PyProof.Rows
section
variable {α : Type} {R : α → HR} {S : SR} {n n0 m k c1 : Nat} {te el : TE} {t ta tb : TA} {u t1 t2 : TS} {tt : TT} {σ : L2.St} {G H G1 H1 G3 J G4 H4 : Hp} {nx bk ct : L2.St → Hp → Prop} {rt : VK} {i j : Nat} {K : PySem.W.Frag} {D p : Addr} {ss : List α} {x : α} {acc xs : List V}
/-- the list at D grows; G3 tells all else -/
structure LcO (S : SR) (G1 H1 : Hp) (n : Nat) (D : Addr) (R : α → HR) (ss : List α) (G3 J : Hp) : Prop where
  s : Stp S n G1 H1 G3 J
  d : G3 D = none
  a : ∃ acc, J D = some (.lst acc) ∧ RL R ss acc G3
theorem LcO.q (h : LcO S G1 H1 n D R ss G3 J) : LcQ S G1 H1 n D R ss J := let ⟨acc, a, b⟩ := h.a; ⟨G3, acc, h.s, h.d, a, b⟩
theorem LcQ.o (h : LcQ S G1 H1 n D R ss J) : ∃ G3, LcO S G1 H1 n D R ss G3 J := let ⟨G3, acc, a, b, c, d⟩ := h; ⟨G3, a, b, acc, c, d⟩
theorem LcO.go (st : Stab S) [∀ a, Mon (R a)] (a : S n0 G1 H1) (hD : H1 D = none) (h : LcO S G1 H1 n D R ss G3 J) (s4 : Stp S m G3 J G4 H4) : LcO S G1 H1 m D R ss G4 H4 := by
  obtain ⟨s3, c, acc, d, r⟩ := h
  refine ⟨s3.trans s4, ?_, acc, s4.k.k D _ (st.fre a hD) d, rl_mon s4.g r⟩
  cases e : G4 D with
  | none => rfl
  | some o =>
    rcases s4.n D o e with q | q
    · rw [c] at q
      cases q
    · rw [d] at q
      cases q
/-- D.append(x), x told of what stands there now -/
theorem q_appO (st : Stab S) [∀ a, Mon (R a)] (a : S n0 G1 H1) (hD : H1 D = none) (h : LcO S G1 H1 n D R ss G3 J) (hl : ss.length < 100000) (hv : σ[j]? = some (some (.ref D))) (e : EvA S n k t σ G3 (RL R [x]))
    (hN : ∀ G4 J', Same G3 G4 → LcO S G1 H1 (n + k) D R (ss ++ [x]) G4 J' → u (Ends.mk nx rt bk ct) σ J') : tSeq (tDrop (tBM K "list" rAppend (tVar j) t)) u (Ends.mk nx rt bk ct) σ J := by
  obtain ⟨s3, c, acc, d, r⟩ := h
  refine ⟨_, hv, .inl ⟨rfl, _, SqL.of d⟩, e G3 J (Same.refl _) s3.s _ fun ws G4 H4 s4 ev => ?_⟩
  obtain ⟨y, _, rfl, ry, rn⟩ := ev
  obtain rfl := (show _ = [] from rn)
  have d4 : H4 D = some (.lst acc) := s4.k.k D _ (st.fre a hD) d
  have h4 := LcO.go st a hD ⟨s3, c, acc, d, r⟩ s4
  have lr := rl_len r
  refine ⟨D, acc, y, rfl, rfl, d4, by have : (100000 : Nat) ≤ sizeLine := by decide
                                      omega, ?_⟩
  refine hN G4 _ s4.g ⟨⟨h4.s.g, kp_new h4.s.k hD, st.chg a hD h4.s.s h4.d, h4.s.n⟩, h4.d, acc ++ [y], upd_same, rl_app (rl_mon s4.g r) (rl_one ry)⟩
/-- D = [] -/
theorem q_newO (st : Stab S) [∀ a, Mon (R a)] (s : S n G H)
    (h : ∀ D G1 H1 J, Stp S n G H G1 H1 → H1 D = none → LcO S G1 H1 n D R [] G1 J → u (Ends.mk nx rt bk ct) (σ.set i (some (.ref D))) J) :
    tSeq (tAsg (tLst tNil) (gName i)) u (Ends.mk nx rt bk ct) σ H := by
  refine ⟨by decide, fun D hD => ?_⟩
  have gD : G D = none := (st.sub s).free hD
  exact h D G H _ (Stp.refl s) hD ⟨⟨Same.refl _, kp_new (Kp.refl H) hD, st.chg s hD s gD, fun _ _ h => .inl h⟩, gD, [], upd_same, rfl⟩
theorem LcO.pub (st : Stab S) [∀ a, Mon (R a)] (a : S n0 G1 H1) (hn : n0 ≤ n) (hD : H1 D = none) (h : LcO S G1 H1 n D R ss G3 J) : ∃ G', Stp S n G1 H1 G' J ∧ Same G3 G' ∧ IsNX G1 (RL R ss) (.ref D) G' := by
  obtain ⟨s3, c, acc, d, r⟩ := h
  obtain ⟨b1, b2⟩ := st_pub st a hD s3.s c d
  refine ⟨upd G3 D (.lst acc), ⟨s3.g.trans b2, s3.k, b1, fun b o e => ?_⟩, b2, D, acc, rfl, (st.sub a).free hD, upd_same, rl_mon b2 r⟩
  by_cases hb : b = D
  · rw [hb]
    exact .inr hD
  · rw [upd_ne hb] at e
    exact s3.n b o e
/-- [..], all told, new -/
theorem ev_lstXN {RA : HRs} (st : Stab S) [Mons RA] (h : EvA S n k t σ G RA) (hl : ∀ vs G', RA vs G' → vs.length ≤ 100000) : Ev S n k (tLst t) σ G (IsNX G RA) := fun G1 H1 s0 s Q q =>
  h G1 H1 s0 s _ fun vs G2 H2 s2 e => ⟨Nat.le_trans (hl vs G2 e) (by decide), fun p hp => by
    have g := st.new (o := .lst vs) s2.s hp
    exact q (.ref p) _ _ (s2.trans g) ⟨p, vs, rfl, s0.free (s2.g.free ((st.sub s2.s).free hp)), upd_same, Mons.mon g.g e⟩⟩
/-- two ways that meet -/
theorem q_ifB {P : Bool → Prop} (st : Stab S) (Jn : L2.St → Hp → Prop) (s : S n G H) (e : EvT S n k tt σ G P) (hu : ∀ σ' H', Jn σ' H' → u (Ends.mk nx rt bk ct) σ' H')
    (h1 : ∀ H', (∀ σ' H', Jn σ' H' → u (Ends.mk nx rt bk ct) σ' H') → P true → Kp S H H' → S (n + k) G H' → t1 (Ends.mk (u (Ends.mk nx rt bk ct)) rt bk ct) σ H')
    (h2 : ∀ H', (∀ σ' H', Jn σ' H' → u (Ends.mk nx rt bk ct) σ' H') → P false → Kp S H H' → S (n + k) G H' → t2 (Ends.mk (u (Ends.mk nx rt bk ct)) rt bk ct) σ H') : tSeq (tIfS tt t1 t2) u (Ends.mk nx rt bk ct) σ H :=
  q_if st s e (fun H' p k s => h1 H' hu p k s) (fun H' p k s => h2 H' hu p k s)
end
def IsTbN (n : Nat) (f : Nat → Nat → Int) : HR := fun v G => ∃ p, v = .ref p ∧ TabN G p n f
instance (n f) : Mon (IsTbN n f) := ⟨fun s ⟨p, e, h⟩ => ⟨p, e, h.mono s⟩⟩
/-! the tables behind the changes -/
end L2.DS
/-! Regular maps: their growing, worth by worth. -/
namespace L2.DS
open PySem PySem.Spec PyProof.Rows
/-! ### plain -/
def rF (d : SD) (w : Bool) (a b : Nat) : Nat := if w then d.J a b else d.T a b
theorem SdOk.r {d : SD} (o : SdOk d) {w : Bool} {a b : Nat} (ha : a < d.names.length) (hb : b < d.names.length) : rF d w a b < d.names.length := by
  unfold rF
  split
  · exact (o.J ha hb).2
  · exact (o.T ha hb).2
/-! ### tuples of places -/
def IsTI (K : PySem.W.Frag) (im : List Nat) : HR := IsT K (nVs im)
instance (K im) : Mon (IsTI K im) := inferInstanceAs (Mon (IsT K (nVs im)))
section
variable {S : SR} {n k : Nat} {te el : TE} {tb : TA} {σ : L2.St} {G : Hp} {K : PySem.W.Frag} {p q : Addr} {xs ys : List V} {α : Type} {R : α → HR}
theorem op_catX {X : Cx} (K : PySem.W.Frag) (hK : X.K = K := by rfl) : OpR X (binaryOp .Add) (rCatA K) := by
  subst hK
  exact op_catA
end
/-! ### lists of lists of places -/
/-! ### promises -/
end L2.DS
/-! Terms as tuples: what they hold, their texts. -/
namespace L2.DS
open PySem PySem.Spec PyProof.Rows
inductive Tm where
  | skip
  | deed (s : Str)
  | call (s : Str)
  | leave (s : Str)
  | loop (t : Tm)
  | times (n : Int) (t : Tm)
  | seq (t u : Tm)
  | either (t u : Tm)
  | clean (t u : Tm)
  | ctch (s : Str) (t u : Tm)
inductive Fd where
  | s (x : Str)
  | n (i : Int)
  | t (a : Tm)
def Tm.fds : Tm → List Fd
  | .skip => [.s "skip"]
  | .deed s => [.s "deed", .s s]
  | .call s => [.s "call", .s s]
  | .leave s => [.s "leave", .s s]
  | .loop t => [.s "loop", .t t]
  | .times n t => [.s "times", .n n, .t t]
  | .seq t u => [.s "then", .t t, .t u]
  | .either t u => [.s "either", .t t, .t u]
  | .clean t u => [.s "clean", .t t, .t u]
  | .ctch s t u => [.s "catch", .s s, .t t, .t u]
def Tm.dat : Tm → PyData
  | .skip => .tuple [.str "skip"]
  | .deed s => .tuple [.str "deed", .str s]
  | .call s => .tuple [.str "call", .str s]
  | .leave s => .tuple [.str "leave", .str s]
  | .loop t => .tuple [.str "loop", t.dat]
  | .times n t => .tuple [.str "times", .int n, t.dat]
  | .seq t u => .tuple [.str "then", t.dat, u.dat]
  | .either t u => .tuple [.str "either", t.dat, u.dat]
  | .clean t u => .tuple [.str "clean", t.dat, u.dat]
  | .ctch s t u => .tuple [.str "catch", .str s, t.dat, u.dat]
def Fd.dat : Fd → PyData
  | .s x => .str x
  | .n i => .int i
  | .t a => a.dat
/-- a tuple with just these fields -/
def IsTq (R : HRs) : HR := fun v G => ∃ a xs, v = .ref a ∧ G a = some (.tup xs) ∧ R xs G
instance (R : HRs) [Mons R] : Mon (IsTq R) := ⟨fun s ⟨a, xs, e, g, r⟩ => ⟨a, xs, e, s _ _ g, Mons.mon s r⟩⟩
def IsTm : Tm → HR
  | .skip => IsTq (RCons (IsV (.str "skip")) RNil)
  | .deed s => IsTq (RCons (IsV (.str "deed")) (RCons (IsV (.str s)) RNil))
  | .call s => IsTq (RCons (IsV (.str "call")) (RCons (IsV (.str s)) RNil))
  | .leave s => IsTq (RCons (IsV (.str "leave")) (RCons (IsV (.str s)) RNil))
  | .loop t => IsTq (RCons (IsV (.str "loop")) (RCons (IsTm t) RNil))
  | .times n t => IsTq (RCons (IsV (.str "times")) (RCons (IsV (.int n)) (RCons (IsTm t) RNil)))
  | .seq t u => IsTq (RCons (IsV (.str "then")) (RCons (IsTm t) (RCons (IsTm u) RNil)))
  | .either t u => IsTq (RCons (IsV (.str "either")) (RCons (IsTm t) (RCons (IsTm u) RNil)))
  | .clean t u => IsTq (RCons (IsV (.str "clean")) (RCons (IsTm t) (RCons (IsTm u) RNil)))
  | .ctch s t u => IsTq (RCons (IsV (.str "catch")) (RCons (IsV (.str s)) (RCons (IsTm t) (RCons (IsTm u) RNil))))
def IsFd : Fd → HR
  | .s x => IsV (.str x)
  | .n i => IsV (.int i)
  | .t a => IsTm a
theorem isTm_fds (t : Tm) : IsTm t = IsTq (RL IsFd t.fds) := by cases t <;> rfl
theorem tm_mon : ∀ (t : Tm) {v : V} {G G' : Hp}, Same G G' → IsTm t v G → IsTm t v G'
  | .skip, _, _, _, s, h => Mon.mon (R := IsTq (RCons (IsV (.str "skip")) RNil)) s h
  | .deed x, _, _, _, s, h => Mon.mon (R := IsTq (RCons (IsV (.str "deed")) (RCons (IsV (.str x)) RNil))) s h
  | .call x, _, _, _, s, h => Mon.mon (R := IsTq (RCons (IsV (.str "call")) (RCons (IsV (.str x)) RNil))) s h
  | .leave x, _, _, _, s, h => Mon.mon (R := IsTq (RCons (IsV (.str "leave")) (RCons (IsV (.str x)) RNil))) s h
  | .loop t, _, _, _, s, ⟨a, xs, e, g, v0, w0, e0, h0, v1, w1, e1, h1, hn⟩ => ⟨a, xs, e, s _ _ g, v0, w0, e0, h0, v1, w1, e1, tm_mon t s h1, hn⟩
  | .times n t, _, _, _, s, ⟨a, xs, e, g, v0, w0, e0, h0, v1, w1, e1, h1, v2, w2, e2, h2, hn⟩ => ⟨a, xs, e, s _ _ g, v0, w0, e0, h0, v1, w1, e1, h1, v2, w2, e2, tm_mon t s h2, hn⟩
  | .seq t u, _, _, _, s, ⟨a, xs, e, g, v0, w0, e0, h0, v1, w1, e1, h1, v2, w2, e2, h2, hn⟩ => ⟨a, xs, e, s _ _ g, v0, w0, e0, h0, v1, w1, e1, tm_mon t s h1, v2, w2, e2, tm_mon u s h2, hn⟩
  | .either t u, _, _, _, s, ⟨a, xs, e, g, v0, w0, e0, h0, v1, w1, e1, h1, v2, w2, e2, h2, hn⟩ => ⟨a, xs, e, s _ _ g, v0, w0, e0, h0, v1, w1, e1, tm_mon t s h1, v2, w2, e2, tm_mon u s h2, hn⟩
  | .clean t u, _, _, _, s, ⟨a, xs, e, g, v0, w0, e0, h0, v1, w1, e1, h1, v2, w2, e2, h2, hn⟩ => ⟨a, xs, e, s _ _ g, v0, w0, e0, h0, v1, w1, e1, tm_mon t s h1, v2, w2, e2, tm_mon u s h2, hn⟩
  | .ctch x t u, _, _, _, s, ⟨a, xs, e, g, v0, w0, e0, h0, v1, w1, e1, h1, v2, w2, e2, h2, v3, w3, e3, h3, hn⟩ => ⟨a, xs, e, s _ _ g, v0, w0, e0, h0, v1, w1, e1, h1, v2, w2, e2, tm_mon t s h2, v3, w3, e3, tm_mon u s h3, hn⟩
instance (t : Tm) : Mon (IsTm t) := ⟨fun s h => tm_mon t s h⟩
instance (f : Fd) : Mon (IsFd f) := match f with
  | .s x => (inferInstance : Mon (IsV (.str x)))
  | .n i => (inferInstance : Mon (IsV (.int i)))
  | .t a => (inferInstance : Mon (IsTm a))
theorem dp_tm {K : PySem.W.Frag} {G : Hp} : ∀ (t : Tm) {v : V}, IsTm t v G → Dp K G v t.dat := by
  intro t
  have st : ∀ {fs : List Fd} {v : V}, (∀ f ∈ fs, ∀ v, IsFd f v G → Dp K G v f.dat) → IsTq (RL IsFd fs) v G → Dp K G v (.tuple (fs.map Fd.dat)) := by
    intro fs v ih ⟨a, xs, e, g, r⟩
    subst e
    refine .tup (SqT.of g) ?_
    clear g
    induction fs generalizing xs with
    | nil =>
      obtain rfl := (show xs = [] from r)
      exact .nil
    | cons f fs ih2 =>
      obtain ⟨v, w, rfl, h, h'⟩ := r
      exact .cons (ih f List.mem_cons_self v h) (ih2 (fun f hf => ih f (List.mem_cons_of_mem _ hf)) w h')
  have fS : ∀ (x : Str) (v : V), IsFd (.s x) v G → Dp K G v (.str x) := fun x v h => by
    obtain rfl := (show _ = _ from h)
    exact .str x
  have fN : ∀ (i : Int) (v : V), IsFd (.n i) v G → Dp K G v (.int i) := fun i v h => by
    obtain rfl := (show _ = _ from h)
    exact .int i
  induction t with
  | skip =>
    intro v0 h
    refine st (fs := (Tm.skip).fds) (fun f hf v => ?_) h
    simp only [Tm.fds, List.mem_cons, List.not_mem_nil, or_false] at hf
    subst hf
    exact fS _ v
  | deed s =>
    intro v0 h
    refine st (fs := (Tm.deed s).fds) (fun f hf v => ?_) h
    simp only [Tm.fds, List.mem_cons, List.not_mem_nil, or_false] at hf
    rcases hf with rfl | rfl
    · exact fS _ v
    · exact fS _ v
  | call s =>
    intro v0 h
    refine st (fs := (Tm.call s).fds) (fun f hf v => ?_) h
    simp only [Tm.fds, List.mem_cons, List.not_mem_nil, or_false] at hf
    rcases hf with rfl | rfl
    · exact fS _ v
    · exact fS _ v
  | leave s =>
    intro v0 h
    refine st (fs := (Tm.leave s).fds) (fun f hf v => ?_) h
    simp only [Tm.fds, List.mem_cons, List.not_mem_nil, or_false] at hf
    rcases hf with rfl | rfl
    · exact fS _ v
    · exact fS _ v
  | loop t ih =>
    intro v0 h
    refine st (fs := (Tm.loop t).fds) (fun f hf v => ?_) h
    simp only [Tm.fds, List.mem_cons, List.not_mem_nil, or_false] at hf
    rcases hf with rfl | rfl
    · exact fS _ v
    · exact ih
  | times n t ih =>
    intro v0 h
    refine st (fs := (Tm.times n t).fds) (fun f hf v => ?_) h
    simp only [Tm.fds, List.mem_cons, List.not_mem_nil, or_false] at hf
    rcases hf with rfl | rfl | rfl
    · exact fS _ v
    · exact fN _ v
    · exact ih
  | seq t u ih1 ih2 =>
    intro v0 h
    refine st (fs := (Tm.seq t u).fds) (fun f hf v => ?_) h
    simp only [Tm.fds, List.mem_cons, List.not_mem_nil, or_false] at hf
    rcases hf with rfl | rfl | rfl
    · exact fS _ v
    · exact ih1
    · exact ih2
  | either t u ih1 ih2 =>
    intro v0 h
    refine st (fs := (Tm.either t u).fds) (fun f hf v => ?_) h
    simp only [Tm.fds, List.mem_cons, List.not_mem_nil, or_false] at hf
    rcases hf with rfl | rfl | rfl
    · exact fS _ v
    · exact ih1
    · exact ih2
  | clean t u ih1 ih2 =>
    intro v0 h
    refine st (fs := (Tm.clean t u).fds) (fun f hf v => ?_) h
    simp only [Tm.fds, List.mem_cons, List.not_mem_nil, or_false] at hf
    rcases hf with rfl | rfl | rfl
    · exact fS _ v
    · exact ih1
    · exact ih2
  | ctch s t u ih1 ih2 =>
    intro v0 h
    refine st (fs := (Tm.ctch s t u).fds) (fun f hf v => ?_) h
    simp only [Tm.fds, List.mem_cons, List.not_mem_nil, or_false] at hf
    rcases hf with rfl | rfl | rfl | rfl
    · exact fS _ v
    · exact fS _ v
    · exact ih1
    · exact ih2
theorem dp_fd {K : PySem.W.Frag} {G : Hp} {f : Fd} {v : V} (h : IsFd f v G) : Dp K G v f.dat := match f, h with
  | .s x, h => by
    obtain rfl := (show _ = _ from h)
    exact .str x
  | .n i, h => by
    obtain rfl := (show _ = _ from h)
    exact .int i
  | .t a, h => dp_tm a h
/-! ### texts -/
def wrapS (ws : List Str) : Str := ("(" : Str) ++ Txt.join (" " : Str) ws ++ (")" : Str)
def Tm.txt : Tm → Str
  | .skip => "skip"
  | .deed s => wrapS ["deed", s]
  | .call s => wrapS ["call", s]
  | .leave s => wrapS ["leave", s]
  | .loop t => wrapS ["loop", t.txt]
  | .times n t => wrapS ["times", (toString n : Str), t.txt]
  | .seq t u => wrapS ["then", t.txt, u.txt]
  | .either t u => wrapS ["either", t.txt, u.txt]
  | .clean t u => wrapS ["clean", t.txt, u.txt]
  | .ctch s t u => wrapS ["catch", s, t.txt, u.txt]
def Fd.txt : Fd → Str
  | .s x => x
  | .n i => (toString i : Str)
  | .t a => a.txt
/-- the terms that the law draws: D, C, W are the names of deeds, procedures and ways; d its depth -/
def TmIn (D C W : Str → Prop) : Nat → Tm → Prop
  | _, .skip => True
  | _, .deed s => D s
  | _, .call s => C s
  | _, .leave s => W s
  | 0, _ => False
  | d + 1, .loop t => TmIn D C W d t
  | d + 1, .times n t => (0 ≤ n ∧ n < 10 ^ 60) ∧ TmIn D C W d t
  | d + 1, .seq t u => TmIn D C W d t ∧ TmIn D C W d u
  | d + 1, .either t u => TmIn D C W d t ∧ TmIn D C W d u
  | d + 1, .clean t u => TmIn D C W d t ∧ TmIn D C W d u
  | d + 1, .ctch s t u => W s ∧ TmIn D C W d t ∧ TmIn D C W d u
/-! ### names -/
def smC (c : Nat) : Bool := decide (97 ≤ c ∧ c ≤ 122)
def fgC (c : Nat) : Bool := decide (48 ≤ c ∧ c ≤ 57)
def kwL : List Str := ["deed", "call", "leave", "loop", "times", "then", "either", "clean", "catch", "skip", "program", "to", "end"]
structure NmOk (s : Str) : Prop where
  l1 : 1 ≤ s.length
  l2 : s.length ≤ 12
  kw : s ∉ kwL
  hd : ∃ c r, s.cps.toList = c :: r ∧ smC c = true
  al : ∀ c ∈ s.cps.toList, (smC c || fgC c) = true
/-- a name as it grows -/
structure NmG (k : Nat) (s : Str) : Prop where
  l : s.length = k
  hd : ∃ c r, s.cps.toList = c :: r ∧ smC c = true
  al : ∀ c ∈ s.cps.toList, (smC c || fgC c) = true
theorem str_len (s : Str) : s.length = s.cps.toList.length := rfl
theorem NmG.app {k : Nat} {s : Str} {c : Nat} (h : NmG k s) (hc : (smC c || fgC c) = true) : NmG (k + 1) (s ++ (⟨#[c]⟩ : Str)) := by
  obtain ⟨a, r, e, ha⟩ := h.hd
  refine ⟨by rw [Str.length_append, h.l]; rfl, ⟨a, r ++ [c], by rw [cps_app, e]; rfl, ha⟩, fun x hx => ?_⟩
  rw [cps_app] at hx
  rcases List.mem_append.mp hx with hx | hx
  · exact h.al x hx
  · rw [List.mem_singleton.mp hx]
    exact hc
theorem NmG.one {c : Nat} (hc : smC c = true) : NmG 1 (⟨#[c]⟩ : Str) := ⟨rfl, ⟨c, [], rfl, hc⟩, fun x hx => by rw [List.mem_singleton.mp hx, hc]; rfl⟩
theorem kw_len : ∀ s ∈ kwL, 2 ≤ s.length ∧ fgC (s.cps.toList.getLastD 0) = false := by decide +kernel
theorem NmG.ok1 {s : Str} (h : NmG 1 s) : NmOk s := ⟨by rw [h.l]; decide, by rw [h.l]; decide, fun z => by have := (kw_len s z).1; rw [h.l] at this; omega, h.hd, h.al⟩
theorem NmG.okD {k : Nat} {s : Str} {c : Nat} (h : NmG k s) (hk : k ≤ 11) (hc : fgC c = true) : NmOk (s ++ (⟨#[c]⟩ : Str)) := by
  have g := h.app (c := c) (by rw [hc, Bool.or_true])
  refine ⟨by rw [g.l]; omega, by rw [g.l]; omega, fun z => ?_, g.hd, g.al⟩
  have := (kw_len _ z).2
  rw [cps_app, show (⟨#[c]⟩ : Str).cps.toList = [c] from rfl, List.getLastD_concat, hc] at this
  cases this
def signs36 : Str := "abcdefghijklmnopqrstuvwxyz0123456789"
theorem signs_at : ∀ i, i < 36 → ∃ c, atI signs36.cps.toList ((i : Nat) : Int) = some c ∧ (smC c || fgC c) = true ∧ (i < 26 → smC c = true) := by
  have e : ∀ i, i < 36 → ((atI signs36.cps.toList ((i : Nat) : Int)).any fun c => (smC c || fgC c) && (decide (26 ≤ i) || smC c)) = true := by decide +kernel
  intro i h
  have q := e i h
  cases z : atI signs36.cps.toList ((i : Nat) : Int) with
  | none =>
    rw [z] at q
    cases q
  | some c =>
    rw [z] at q
    have q : ((smC c || fgC c) && (decide (26 ≤ i) || smC c)) = true := q
    obtain ⟨q1, q2⟩ := Bool.and_eq_true_iff.mp q
    refine ⟨c, rfl, q1, fun hi => ?_⟩
    rw [decide_eq_false (by omega), Bool.false_or] at q2
    exact q2
theorem digit_str : ∀ i, i < 10 → (toString ((i : Nat) : Int) : Str) = (⟨#[48 + i]⟩ : Str) := by decide +kernel
def PNmS : Addr → List V → Nat → Nat → Hp → HR → Prop := fun sa vs _ k _ R => vs = [.ref sa] ∧ k = 16 ∧ R = IsS NmOk
def IsNms (m : Nat) : HR := fun v G => ∃ (p : Addr) (L : List Str), v = .ref p ∧ G p = some (.lst (L.map V.str)) ∧ L.Nodup ∧ (∀ s ∈ L, NmOk s) ∧ L.length ≤ m ∧ (1 ≤ m → 1 ≤ L.length)
def PNms : Addr → List V → Nat → Nat → Hp → HR → Prop := fun sa vs _ k _ R => ∃ m : Nat, vs = [.ref sa, .int (m : Nat)] ∧ m ≤ 1000 ∧ k = 16 * m ∧ R = IsNms m
/-- picks that a term d deep takes -/
def tkT : Nat → Nat
  | 0 => 5
  | d + 1 => 2 * tkT d + 5
theorem tkT_5 (d : Nat) : 5 ≤ tkT d := by cases d <;> unfold tkT <;> omega
def IsNmL (p : Addr) (L : List Str) (G : Hp) : Prop := G p = some (.lst (L.map V.str)) ∧ 1 ≤ L.length ∧ L.length ≤ 1000
theorem IsNmL.mono {p : Addr} {L : List Str} {G G' : Hp} (h : IsNmL p L G) (s : Same G G') : IsNmL p L G' := ⟨s _ _ h.1, h.2⟩
def PTrm (m : Nat) : Addr → List V → Nat → Nat → Hp → HR → Prop := fun sa vs _ k G R => ∃ (p1 p2 p3 : Addr) (D C W : List Str), vs = [.ref sa, .ref p1, .ref p2, .ref p3, .int (m : Nat)] ∧ IsNmL p1 D G ∧ IsNmL p2 C G ∧ IsNmL p3 W G ∧ k = tkT m ∧ R = fun v G' => ∃ t, TmIn (· ∈ D) (· ∈ C) (· ∈ W) m t ∧ IsTm t v G'
def IsTt (P : Tm → Prop) : HR := fun v G => ∃ t, P t ∧ IsTm t v G
instance (P) : Mon (IsTt P) := ⟨fun s ⟨t, a, b⟩ => ⟨t, a, Mon.mon s b⟩⟩
theorem TmIn.up {D C W : Str → Prop} : ∀ {m : Nat} {t : Tm}, TmIn D C W m t → TmIn D C W (m + 1) t
  | 0, .skip, h => trivial
  | 0, .deed _, h => h
  | 0, .call _, h => h
  | 0, .leave _, h => h
  | m + 1, .skip, h => trivial
  | m + 1, .deed _, h => h
  | m + 1, .call _, h => h
  | m + 1, .leave _, h => h
  | m + 1, .loop t, h => TmIn.up (m := m) (t := t) h
  | m + 1, .times _ t, h => ⟨h.1, TmIn.up (m := m) (t := t) h.2⟩
  | m + 1, .seq t u, h => ⟨TmIn.up (m := m) (t := t) h.1, TmIn.up (m := m) (t := u) h.2⟩
  | m + 1, .either t u, h => ⟨TmIn.up (m := m) (t := t) h.1, TmIn.up (m := m) (t := u) h.2⟩
  | m + 1, .clean t u, h => ⟨TmIn.up (m := m) (t := t) h.1, TmIn.up (m := m) (t := u) h.2⟩
  | m + 1, .ctch _ t u, h => ⟨h.1, TmIn.up (m := m) (t := t) h.2.1, TmIn.up (m := m) (t := u) h.2.2⟩
section
variable {S : SR} {n k ka kb : Nat} {te : TE} {t : TA} {σ : L2.St} {G : Hp} {RA : HRs} {P : Tm → Prop}
theorem rc1_len {R1 : HR} : ∀ vs G', RCons R1 RNil vs G' → vs.length ≤ 100000 := fun vs G' ⟨_, _, e, _, e2⟩ => by
  rw [e, show _ = [] from e2]
  exact Nat.le_of_ble_eq_true rfl
theorem rc2_len {R1 R2 : HR} : ∀ vs G', RCons R1 (RCons R2 RNil) vs G' → vs.length ≤ 100000 := fun vs G' ⟨_, _, e, _, _, _, e1, _, e2⟩ => by
  rw [e, e1, show _ = [] from e2]
  exact Nat.le_of_ble_eq_true rfl
theorem rc3_len {R1 R2 R3 : HR} : ∀ vs G', RCons R1 (RCons R2 (RCons R3 RNil)) vs G' → vs.length ≤ 100000 := fun vs G' ⟨_, _, e, _, _, _, e1, _, _, _, e3, _, e2⟩ => by
  rw [e, e1, e3, show _ = [] from e2]
  exact Nat.le_of_ble_eq_true rfl
theorem rc4_len {R1 R2 R3 R4 : HR} : ∀ vs G', RCons R1 (RCons R2 (RCons R3 (RCons R4 RNil))) vs G' → vs.length ≤ 100000 := fun vs G' ⟨_, _, e, _, _, _, e1, _, _, _, e3, _, _, _, e4, _, e2⟩ => by
  rw [e, e1, e3, e4, show _ = [] from e2]
  exact Nat.le_of_ble_eq_true rfl
/-- (..) told by its fields -/
theorem ev_tq [Mons RA] (st : Stab S) (h : EvA S n k t σ G RA) (hl : ∀ vs G', RA vs G' → vs.length ≤ 100000) : Ev S n k (tTup t) σ G (IsTq RA) := fun G1 H1 s0 s Q q =>
  h G1 H1 s0 s _ fun vs G2 H2 s2 e => ⟨Nat.le_trans (hl vs G2 e) (by decide), fun p hp => by
    have g := st.new (o := .tup vs) s2.s hp
    exact q (.ref p) _ _ (s2.trans g) ⟨p, vs, rfl, upd_same, Mons.mon g.g e⟩⟩
theorem ev_tt {t0 : Tm} (h : Ev S n k te σ G (IsTm t0)) (hp : P t0) : Ev S n k te σ G (IsTt P) := h.imp fun v G' s e => ⟨t0, hp, e⟩
end
/-- l[te], l a written list of ints -/
theorem ev_intQ {S : SR} {n ka kb : Nat} {te : TE} {t : TA} {σ : L2.St} {G : Hp} {K : PySem.W.Frag} {ws : List Int} (st : Stab S) (hs : EvA S n ka t σ G (IsVs (ws.map V.int))) (hl : ws.length ≤ 1000) (e : Ev S (n + ka) kb te σ G (IsI fun i => 0 ≤ i ∧ i < ws.length)) : Ev S n (ka + kb) (tOp (rIxA K) (tLst t) te) σ G (IsI fun s => s ∈ ws) :=
  ev_op (Ra := IsNew G (.lst (ws.map V.int))) (Rb := IsI fun i => 0 ≤ i ∧ i < ws.length) (ev_lstN st hs (by rw [List.length_map]; omega)) e fun x y G' s' hx hy => by
    obtain ⟨p, rfl, _, g⟩ := hx
    obtain ⟨i, hi, rfl⟩ := hy
    obtain ⟨j, rfl⟩ : ∃ j : Nat, i = (j : Nat) := ⟨i.toNat, by omega⟩
    have hj : j < ws.length := by omega
    exact rv_imp (v_ixL st (SqL.of g) (atI_nat (by rw [List.getElem?_map, List.getElem?_eq_getElem hj]; rfl))) fun v G2 s2 r => ⟨_, List.getElem_mem hj, r⟩
end L2.DS
/-! Texts of terms: comprehensions over tuples, slices, str of texts and ints. -/
namespace L2.DS
open PySem PySem.Spec PyProof.Rows
def IsTp (xs : List V) : HR := fun v G => ∃ p, v = .ref p ∧ G p = some (.tup xs)
instance (xs) : Mon (IsTp xs) := ⟨fun s ⟨p, e, h⟩ => ⟨p, e, s _ _ h⟩⟩
def rStr2 : List V → Hp → VK → Prop := fun xs H Q => rStrI xs H Q ∨ ∃ a, xs = [.str a] ∧ Q (.str a) H
theorem call_str2 {X : Cx} : CallR X (.type "str") rStr2 := CallR.or call_strA SkE.call_str_str
section
variable {S : SR} {n k ka kb kc i : Nat} {te el : TE} {t : TA} {tl th : TO} {σ : L2.St} {G : Hp} {K : PySem.W.Frag} {xs : List V} {p : Addr} {lo hi : Option Int} {x : V} {d : PyData}
theorem c_strI2 (st : Stab S) {i : Int} (h : i.natAbs.log2 < 1920) : RC S rStr2 [.int i] G (IsV (.str (toString i))) := rc_val (fun H _ Q q => .inl ⟨i, rfl, h, q⟩) st
theorem c_strS2 (st : Stab S) {a : Str} : RC S rStr2 [.str a] G (IsV (.str a)) := rc_val (fun H _ Q q => .inr ⟨a, rfl, q⟩) st
/-- isinstance(x, (T1, T2)) -/
theorem c_isi2 (st : Stab S) {c1 c2 : String} (h1 : c1 ∈ ["bool", "str", "list", "tuple", "dict", "int"]) (h2 : c2 ∈ ["bool", "str", "list", "tuple", "dict", "int"]) (h : Dp K G x d) (hp : G p = some (.tup [.ty c1, .ty c2])) : RC S (rIsiT K) [x, .ref p] G (IsV (.bl (isiB (tyS d) c1 || isiB (tyS d) c2))) :=
  rc_val (fun H s Q q => ⟨x, p, _, .type (tyS d), [.type c1, .type c2], _, rfl, s _ _ hp, .cons (.ty _) (.cons (.ty _) .nil), tyx_of (dp_mon s h),
    kitAny_cons (b := isiB (tyS d) c1) (kit_ty (kitB_d h h1)) (fun z => by rw [z]; exact kitAny_cons (b := isiB (tyS d) c2) (kit_ty (kitB_d h h2)) (fun y => by rw [y]; rfl) (fun y => by rw [y]; rfl)) (fun z => by rw [z]; rfl), q⟩) st
/-- [el for x in t], t a tuple told, values told by their places -/
theorem ev_lcTx {vs : List Nat} (st : Stab S) {f : Nat → V} (e : Ev S n k te σ G (IsTp xs)) (hl : xs.length ≤ 100000) (hw : ∀ x : V, wipe ((wipe σ vs).set i (some x)) vs = wipe σ vs)
    (hs : ∀ (j : Nat) x G', xs[j]? = some x → Same G G' → Ev S (n + k) 0 el ((wipe σ vs).set i (some x)) G' (IsV (f j))) : Ev S n (k + 0) (tLc (iTup K te) (gName i) tYes el vs) σ G (IsNew G (.lst ((List.range xs.length).map f))) := fun G1 H1 s0 s Q q =>
  e G1 H1 s0 s _ fun v G2 H2 s2 ev => by
    obtain ⟨p, rfl, hp⟩ := ev
    have hp2 : SqT K G2 p xs := SqT.of hp
    exact ⟨p, rfl, ⟨xs, same_t (st.sub s2.s) hp2⟩, fun D hD =>
      lc_tup (K := K) (a := p) (xs := xs) (fun j J => LcQ S G2 H2 (n + k) D (fun v : V => IsV v) ((List.range j).map f) J) (lcq_start st s2.s hD) (fun j J _ ⟨G3, acc, a, _⟩ => same_t (a.g.trans (st.sub a.s)) hp2)
        (fun j x J hx' h => by
          have hj : j < xs.length := (List.getElem?_eq_some_iff.mp hx').1
          refine ⟨hw x, tYes_run (iteT ?_)⟩
          refine lcq_step (x := f j) (Nx := fun J => LcQ S G2 H2 (n + k) D (fun v : V => IsV v) ((List.range (j + 1)).map f) J) st s2.s hD h (by rw [List.length_map, List.length_range]; omega) (fun G' g' => hs j x G' hx' ((s0.trans s2.g).trans g')) fun J' h' => ?_
          rw [List.range_succ, List.map_append]
          exact h')
        fun J h => by
          refine lcq_end st s2 hD h fun v G' H' s' r => q v G' H' s' ?_
          obtain ⟨p', ys, e1, e2, e3, e4⟩ := r
          rw [rl_vals (g := fun v : V => v) e4, List.map_id'] at e3
          exact ⟨p', e1, s0.free e2, e3⟩⟩
end
/-! ### terms: their data, the lengths of their texts -/
def Nm12 (s : Str) : Prop := s.length ≤ 12 ∧ PyData.strOk s = true
theorem NmOk.n12 {s : Str} (h : NmOk s) : Nm12 s := ⟨h.l2, by
  unfold PyData.strOk
  rw [Array.all_eq_true_iff_forall_mem]
  intro c hc
  have := h.al c (by simpa using hc)
  unfold smC fgC at this
  simp at this
  exact decide_eq_true (by omega)⟩
theorem kw_ok : PyData.strOk "deed" = true ∧ PyData.strOk "call" = true ∧ PyData.strOk "leave" = true ∧ PyData.strOk "loop" = true ∧ PyData.strOk "times" = true ∧ PyData.strOk "then" = true ∧ PyData.strOk "either" = true ∧ PyData.strOk "clean" = true ∧ PyData.strOk "catch" = true ∧ PyData.strOk "skip" = true := by decide +kernel
theorem tm_lay : ∀ {m : Nat} {t : Tm}, TmIn Nm12 Nm12 Nm12 m t → PyData.canLay0 t.dat = true := by
  obtain ⟨k1, k2, k3, k4, k5, k6, k7, k8, k9, k0⟩ := kw_ok
  intro m t
  induction t generalizing m with
  | skip => intro _; simp [Tm.dat, PyData.canLay0, PyData.canLayAll0, k0]
  | deed s => intro h; have h : Nm12 s := by cases m <;> exact h
              simp [Tm.dat, PyData.canLay0, PyData.canLayAll0, k1, h.2]
  | call s => intro h; have h : Nm12 s := by cases m <;> exact h
              simp [Tm.dat, PyData.canLay0, PyData.canLayAll0, k2, h.2]
  | leave s => intro h; have h : Nm12 s := by cases m <;> exact h
               simp [Tm.dat, PyData.canLay0, PyData.canLayAll0, k3, h.2]
  | loop t ih =>
    intro h
    cases m with
    | zero => exact h.elim
    | succ m => simp [Tm.dat, PyData.canLay0, PyData.canLayAll0, k4, ih (m := m) h]
  | times n t ih =>
    intro h
    cases m with
    | zero => exact h.elim
    | succ m => simp [Tm.dat, PyData.canLay0, PyData.canLayAll0, k5, ih (m := m) h.2]
  | seq t u i1 i2 =>
    intro h
    cases m with
    | zero => exact h.elim
    | succ m => simp [Tm.dat, PyData.canLay0, PyData.canLayAll0, k6, i1 (m := m) h.1, i2 (m := m) h.2]
  | either t u i1 i2 =>
    intro h
    cases m with
    | zero => exact h.elim
    | succ m => simp [Tm.dat, PyData.canLay0, PyData.canLayAll0, k7, i1 (m := m) h.1, i2 (m := m) h.2]
  | clean t u i1 i2 =>
    intro h
    cases m with
    | zero => exact h.elim
    | succ m => simp [Tm.dat, PyData.canLay0, PyData.canLayAll0, k8, i1 (m := m) h.1, i2 (m := m) h.2]
  | ctch s t u i1 i2 =>
    intro h
    cases m with
    | zero => exact h.elim
    | succ m =>
      have hs : Nm12 s := h.1
      simp [Tm.dat, PyData.canLay0, PyData.canLayAll0, k9, hs.2, i1 (m := m) h.2.1, i2 (m := m) h.2.2]
theorem tm_dep {D C W : Str → Prop} : ∀ {m : Nat} {t : Tm}, TmIn D C W m t → PyData.depth t.dat ≤ m + 1 := by
  intro m t
  induction t generalizing m with
  | skip => intro _; show max _ _ + 1 ≤ _; simp [PyData.depth, PyData.depthAll]
  | deed s => intro _; simp [Tm.dat, PyData.depth, PyData.depthAll]
  | call s => intro _; simp [Tm.dat, PyData.depth, PyData.depthAll]
  | leave s => intro _; simp [Tm.dat, PyData.depth, PyData.depthAll]
  | loop t ih => 
    intro h
    cases m with
    | zero => exact h.elim
    | succ m =>
      have a := ih (m := m) h
      simp [Tm.dat, PyData.depth, PyData.depthAll]
      omega
  | times n t ih => 
    intro h
    cases m with
    | zero => exact h.elim
    | succ m =>
      have a := ih (m := m) h.2
      simp [Tm.dat, PyData.depth, PyData.depthAll]
      omega
  | seq t u i1 i2 => 
    intro h
    cases m with
    | zero => exact h.elim
    | succ m =>
      have a := i1 (m := m) h.1
      have b := i2 (m := m) h.2
      simp [Tm.dat, PyData.depth, PyData.depthAll]
      omega
  | either t u i1 i2 => 
    intro h
    cases m with
    | zero => exact h.elim
    | succ m =>
      have a := i1 (m := m) h.1
      have b := i2 (m := m) h.2
      simp [Tm.dat, PyData.depth, PyData.depthAll]
      omega
  | clean t u i1 i2 => 
    intro h
    cases m with
    | zero => exact h.elim
    | succ m =>
      have a := i1 (m := m) h.1
      have b := i2 (m := m) h.2
      simp [Tm.dat, PyData.depth, PyData.depthAll]
      omega
  | ctch s t u i1 i2 => 
    intro h
    cases m with
    | zero => exact h.elim
    | succ m =>
      have a := i1 (m := m) h.2.1
      have b := i2 (m := m) h.2.2
      simp [Tm.dat, PyData.depth, PyData.depthAll]
      omega
theorem tm_shaped {m : Nat} {t : Tm} (h : TmIn Nm12 Nm12 Nm12 m t) (hm : m ≤ 20) : SeqAt.shaped t.dat = true := by
  have := tm_dep h
  unfold SeqAt.shaped
  rw [tm_lay h, decide_eq_true (by omega)]
  rfl
def Tm.isSkip : Tm → Bool
  | .skip => true
  | _ => false
theorem eqv_skip (t : Tm) : PyData.eqv t.dat (.tuple [.str "skip"]) = t.isSkip := by
  cases t <;> simp [Tm.dat, PyData.eqv, PyData.eqvAll, Tm.isSkip] <;> decide +kernel
theorem wrap2_len {a b : Str} : (wrapS [a, b]).length = a.length + b.length + 3 := by
  have c1 : ("(" : Str).length = 1 ∧ (" " : Str).length = 1 ∧ (")" : Str).length = 1 := by decide +kernel
  unfold wrapS
  rw [show Txt.join (" " : Str) [a, b] = Str.join (" " : Str) [a, b] from StrLaws.glued_eq_join _ _]
  show (("(" : Str) ++ (a ++ (" " : Str) ++ b) ++ (")" : Str)).length = _
  rw [Str.length_append, Str.length_append, Str.length_append, Str.length_append]
  omega
theorem wrap3_len {a b c : Str} : (wrapS [a, b, c]).length = a.length + b.length + c.length + 4 := by
  have c1 : ("(" : Str).length = 1 ∧ (" " : Str).length = 1 ∧ (")" : Str).length = 1 := by decide +kernel
  unfold wrapS
  rw [show Txt.join (" " : Str) [a, b, c] = Str.join (" " : Str) [a, b, c] from StrLaws.glued_eq_join _ _]
  show (("(" : Str) ++ (a ++ (" " : Str) ++ (b ++ (" " : Str) ++ c)) ++ (")" : Str)).length = _
  rw [Str.length_append, Str.length_append, Str.length_append, Str.length_append, Str.length_append, Str.length_append]
  omega
theorem wrap4_len {a b c d : Str} : (wrapS [a, b, c, d]).length = a.length + b.length + c.length + d.length + 5 := by
  have c1 : ("(" : Str).length = 1 ∧ (" " : Str).length = 1 ∧ (")" : Str).length = 1 := by decide +kernel
  unfold wrapS
  rw [show Txt.join (" " : Str) [a, b, c, d] = Str.join (" " : Str) [a, b, c, d] from StrLaws.glued_eq_join _ _]
  show (("(" : Str) ++ (a ++ (" " : Str) ++ (b ++ (" " : Str) ++ (c ++ (" " : Str) ++ d))) ++ (")" : Str)).length = _
  rw [Str.length_append, Str.length_append, Str.length_append, Str.length_append, Str.length_append, Str.length_append, Str.length_append, Str.length_append]
  omega
theorem txt_len : ∀ {m : Nat} {t : Tm}, TmIn Nm12 Nm12 Nm12 m t → t.txt.length + 110 ≤ 200 * 2 ^ m := by
  intro m t
  have kw : ("deed" : Str).length = 4 ∧ ("call" : Str).length = 4 ∧ ("leave" : Str).length = 5 ∧ ("loop" : Str).length = 4 ∧ ("times" : Str).length = 5 ∧ ("then" : Str).length = 4 ∧ ("either" : Str).length = 6 ∧ ("clean" : Str).length = 5 ∧ ("catch" : Str).length = 5 ∧ ("skip" : Str).length = 4 := by decide +kernel
  have p : 1 ≤ 2 ^ m := Nat.one_le_two_pow
  have e2 : ∀ k, 2 ^ (k + 1) = 2 * 2 ^ k := fun k => by rw [Nat.pow_succ, Nat.mul_comm]
  induction t generalizing m with
  | skip =>
    intro _
    show ("skip" : Str).length + 110 ≤ _
    omega
  | deed s =>
    intro h
    have h : Nm12 s := by cases m <;> exact h
    have h := h.1
    show (wrapS ["deed", s]).length + 110 ≤ _
    rw [wrap2_len]
    omega
  | call s =>
    intro h
    have h : Nm12 s := by cases m <;> exact h
    have h := h.1
    show (wrapS ["call", s]).length + 110 ≤ _
    rw [wrap2_len]
    omega
  | leave s =>
    intro h
    have h : Nm12 s := by cases m <;> exact h
    have h := h.1
    show (wrapS ["leave", s]).length + 110 ≤ _
    rw [wrap2_len]
    omega
  | loop t ih =>
    intro h
    cases m with
    | zero => exact h.elim
    | succ m =>
      have a := ih (m := m) Nat.one_le_two_pow h
      show (wrapS ["loop", t.txt]).length + 110 ≤ _
      rw [wrap2_len, e2]
      omega
  | times n t ih =>
    intro h
    cases m with
    | zero => exact h.elim
    | succ m =>
      have a := ih (m := m) Nat.one_le_two_pow h.2
      have b := PyProof.Rows.toString_length_le h.1.1 (k := 60) (by decide) h.1.2
      show (wrapS ["times", (toString n : Str), t.txt]).length + 110 ≤ _
      rw [wrap3_len, e2]
      omega
  | seq t u i1 i2 =>
    intro h
    cases m with
    | zero => exact h.elim
    | succ m =>
      have a := i1 (m := m) Nat.one_le_two_pow h.1
      have b := i2 (m := m) Nat.one_le_two_pow h.2
      show (wrapS ["then", t.txt, u.txt]).length + 110 ≤ _
      rw [wrap3_len, e2]
      omega
  | either t u i1 i2 =>
    intro h
    cases m with
    | zero => exact h.elim
    | succ m =>
      have a := i1 (m := m) Nat.one_le_two_pow h.1
      have b := i2 (m := m) Nat.one_le_two_pow h.2
      show (wrapS ["either", t.txt, u.txt]).length + 110 ≤ _
      rw [wrap3_len, e2]
      omega
  | clean t u i1 i2 =>
    intro h
    cases m with
    | zero => exact h.elim
    | succ m =>
      have a := i1 (m := m) Nat.one_le_two_pow h.1
      have b := i2 (m := m) Nat.one_le_two_pow h.2
      show (wrapS ["clean", t.txt, u.txt]).length + 110 ≤ _
      rw [wrap3_len, e2]
      omega
  | ctch s t u i1 i2 =>
    intro h
    cases m with
    | zero => exact h.elim
    | succ m =>
      have a := i1 (m := m) Nat.one_le_two_pow h.2.1
      have b := i2 (m := m) Nat.one_le_two_pow h.2.2
      have c : s.length ≤ 12 := h.1.1
      show (wrapS ["catch", s, t.txt, u.txt]).length + 110 ≤ _
      rw [wrap4_len, e2]
      omega
theorem TmIn.imp {D C W D' C' W' : Str → Prop} (d : ∀ s, D s → D' s) (c : ∀ s, C s → C' s) (w : ∀ s, W s → W' s) : ∀ {m : Nat} {t : Tm}, TmIn D C W m t → TmIn D' C' W' m t
  | 0, .skip, h => trivial
  | 0, .deed _, h => d _ h
  | 0, .call _, h => c _ h
  | 0, .leave _, h => w _ h
  | m + 1, .skip, h => trivial
  | m + 1, .deed _, h => d _ h
  | m + 1, .call _, h => c _ h
  | m + 1, .leave _, h => w _ h
  | m + 1, .loop t, h => TmIn.imp d c w (m := m) (t := t) h
  | m + 1, .times _ t, h => ⟨h.1, TmIn.imp d c w (m := m) (t := t) h.2⟩
  | m + 1, .seq t u, h => ⟨TmIn.imp d c w (m := m) (t := t) h.1, TmIn.imp d c w (m := m) (t := u) h.2⟩
  | m + 1, .either t u, h => ⟨TmIn.imp d c w (m := m) (t := t) h.1, TmIn.imp d c w (m := m) (t := u) h.2⟩
  | m + 1, .clean t u, h => ⟨TmIn.imp d c w (m := m) (t := t) h.1, TmIn.imp d c w (m := m) (t := u) h.2⟩
  | m + 1, .ctch _ t u, h => ⟨w _ h.1, TmIn.imp d c w (m := m) (t := t) h.2.1, TmIn.imp d c w (m := m) (t := u) h.2.2⟩
def PTxt (m : Nat) : List V → Hp → HR → Prop := fun vs G R => ∃ (v : V) (t : Tm), vs = [v] ∧ IsTm t v G ∧ TmIn Nm12 Nm12 Nm12 m t ∧ R = IsV (.str t.txt)
def Tm.w : Tm → Str
  | .skip => "skip" | .deed _ => "deed" | .call _ => "call" | .leave _ => "leave" | .loop _ => "loop" | .times _ _ => "times" | .seq _ _ => "then" | .either _ _ => "either" | .clean _ _ => "clean" | .ctch _ _ _ => "catch"
def Tm.rst : Tm → List Fd
  | .skip => [] | .deed s => [.s s] | .call s => [.s s] | .leave s => [.s s] | .loop t => [.t t] | .times n t => [.n n, .t t] | .seq t u => [.t t, .t u] | .either t u => [.t t, .t u] | .clean t u => [.t t, .t u] | .ctch s t u => [.s s, .t t, .t u]
theorem fds_w (t : Tm) : t.fds = .s t.w :: t.rst := by cases t <;> rfl
theorem txt_w {t : Tm} (h : t.isSkip = false) : t.txt = wrapS (t.w :: t.rst.map Fd.txt) := by
  cases t with
  | skip => cases h
  | _ => rfl
theorem txt_f {t : Tm} (h : t.isSkip = false) : t.txt = wrapS (t.fds.map Fd.txt) := by rw [txt_w h, fds_w]; rfl
theorem skip_txt {t : Tm} (h : t.isSkip = true) : t.txt = "skip" := by
  cases t with
  | skip => rfl
  | _ => cases h
/-- what is known of the fields -/
inductive FdOk (m : Nat) : Fd → Prop
  | s {x : Str} (h : x.length ≤ 12) : FdOk m (.s x)
  | n {i : Int} (h : 0 ≤ i ∧ i < 10 ^ 60) : FdOk m (.n i)
  | t {m' : Nat} {a : Tm} (h : m = m' + 1) (ha : TmIn Nm12 Nm12 Nm12 m' a) : FdOk m (.t a)
theorem fd_ok {m : Nat} {t : Tm} (h : TmIn Nm12 Nm12 Nm12 m t) : ∀ f ∈ t.fds, FdOk m f := by
  have kw : ("deed" : Str).length ≤ 12 ∧ ("call" : Str).length ≤ 12 ∧ ("leave" : Str).length ≤ 12 ∧ ("loop" : Str).length ≤ 12 ∧ ("times" : Str).length ≤ 12 ∧ ("then" : Str).length ≤ 12 ∧ ("either" : Str).length ≤ 12 ∧ ("clean" : Str).length ≤ 12 ∧ ("catch" : Str).length ≤ 12 ∧ ("skip" : Str).length ≤ 12 := by decide +kernel
  obtain ⟨k1, k2, k3, k4, k5, k6, k7, k8, k9, k0⟩ := kw
  intro f hf
  cases t with
  | skip =>
    simp only [Tm.fds, List.mem_cons, List.not_mem_nil, or_false] at hf
    subst hf
    exact .s k0
  | deed s =>
    have h : Nm12 s := by cases m <;> exact h
    simp only [Tm.fds, List.mem_cons, List.not_mem_nil, or_false] at hf
    rcases hf with rfl | rfl
    · exact .s k1
    · exact .s h.1
  | call s =>
    have h : Nm12 s := by cases m <;> exact h
    simp only [Tm.fds, List.mem_cons, List.not_mem_nil, or_false] at hf
    rcases hf with rfl | rfl
    · exact .s k2
    · exact .s h.1
  | leave s =>
    have h : Nm12 s := by cases m <;> exact h
    simp only [Tm.fds, List.mem_cons, List.not_mem_nil, or_false] at hf
    rcases hf with rfl | rfl
    · exact .s k3
    · exact .s h.1
  | loop t =>
    simp only [Tm.fds, List.mem_cons, List.not_mem_nil, or_false] at hf
    cases m with
    | zero => exact h.elim
    | succ m =>
      rcases hf with rfl | rfl
      · exact .s k4
      · exact .t rfl h
  | times n t =>
    simp only [Tm.fds, List.mem_cons, List.not_mem_nil, or_false] at hf
    cases m with
    | zero => exact h.elim
    | succ m =>
      rcases hf with rfl | rfl | rfl
      · exact .s k5
      · exact .n h.1
      · exact .t rfl h.2
  | seq t u =>
    simp only [Tm.fds, List.mem_cons, List.not_mem_nil, or_false] at hf
    cases m with
    | zero => exact h.elim
    | succ m =>
      rcases hf with rfl | rfl | rfl
      · exact .s k6
      · exact .t rfl h.1
      · exact .t rfl h.2
  | either t u =>
    simp only [Tm.fds, List.mem_cons, List.not_mem_nil, or_false] at hf
    cases m with
    | zero => exact h.elim
    | succ m =>
      rcases hf with rfl | rfl | rfl
      · exact .s k7
      · exact .t rfl h.1
      · exact .t rfl h.2
  | clean t u =>
    simp only [Tm.fds, List.mem_cons, List.not_mem_nil, or_false] at hf
    cases m with
    | zero => exact h.elim
    | succ m =>
      rcases hf with rfl | rfl | rfl
      · exact .s k8
      · exact .t rfl h.1
      · exact .t rfl h.2
  | ctch s t u =>
    simp only [Tm.fds, List.mem_cons, List.not_mem_nil, or_false] at hf
    cases m with
    | zero => exact h.elim
    | succ m =>
      have hs : Nm12 s := h.1
      rcases hf with rfl | rfl | rfl | rfl
      · exact .s k9
      · exact .s hs.1
      · exact .t rfl h.2.1
      · exact .t rfl h.2.2
theorem FdOk.len {m : Nat} {f : Fd} (h : FdOk m f) : f.txt.length ≤ 200 * 2 ^ m := by
  have p : 1 ≤ 2 ^ m := Nat.one_le_two_pow
  cases h with
  | s h =>
    show Str.length _ ≤ _
    exact Nat.le_trans h (by omega)
  | n h =>
    have b := PyProof.Rows.toString_length_le h.1 (k := 60) (by decide) h.2
    show Str.length (toString _ : Str) ≤ _
    omega
  | @t m' a e ha =>
    subst e
    have := txt_len ha
    show a.txt.length ≤ _
    rw [Nat.pow_succ]
    omega
theorem fds_le (t : Tm) : t.fds.length ≤ 4 ∧ 1 ≤ t.fds.length := by cases t <;> exact ⟨by simp [Tm.fds], by simp [Tm.fds]⟩
theorem sum_len_le {L : Nat} : ∀ {ys : List Str}, (∀ y ∈ ys, y.length ≤ L) → (ys.map (·.length)).sum ≤ ys.length * L
  | [], _ => Nat.zero_le _
  | y :: r, h => by
    have a := h y List.mem_cons_self
    have b := sum_len_le (ys := r) fun z hz => h z (List.mem_cons_of_mem _ hz)
    rw [List.map_cons, List.sum_cons, List.length_cons, Nat.succ_mul]
    omega
theorem join_bd {m : Nat} {fs : List Fd} (hm : m ≤ 10) (h : ∀ f ∈ fs, FdOk m f) (hl : fs.length ≤ 4) : ((fs.map Fd.txt).map (·.length)).sum + (fs.map Fd.txt).length * (" " : Str).length ≤ 16777216 := by
  have c1 : (" " : Str).length = 1 := by decide +kernel
  have p : 2 ^ m ≤ 2 ^ 10 := Nat.pow_le_pow_right (by decide) hm
  have a := sum_len_le (L := 204800) (ys := fs.map Fd.txt) fun y hy => by
    obtain ⟨f, hf, rfl⟩ := List.mem_map.mp hy
    have := (h f hf).len
    omega
  rw [List.length_map] at a ⊢
  have : fs.length * 204800 ≤ 4 * 204800 := Nat.mul_le_mul_right _ hl
  rw [c1]
  omega
theorem fd_txts (fs : List Fd) : (List.range fs.length).map (fun j => V.str (fs.getD j (.s "")).txt) = (fs.map Fd.txt).map V.str := by
  apply List.ext_getElem?
  intro j
  rw [List.getElem?_map, List.getElem?_map, List.getElem?_map]
  by_cases h : j < fs.length
  · rw [List.getElem?_range h, List.getElem?_eq_getElem h]
    show some (V.str (fs.getD j (.s "")).txt) = some (V.str (fs[j]).txt)
    rw [List.getD_eq_getElem?_getD, List.getElem?_eq_getElem h]
    rfl
  · rw [List.getElem?_eq_none (by rw [List.length_range]; omega), List.getElem?_eq_none (by omega)]
    rfl
theorem tyS_t (a : Tm) : tyS a.dat = "tuple" := by cases a <;> rfl
theorem log_lt60 {i : Int} (h1 : 0 ≤ i) (h2 : i < 10 ^ 60) : i.natAbs.log2 < 1920 := by
  by_cases h0 : i.natAbs = 0
  · rw [h0]
    decide
  · have a : i.natAbs.log2 < 200 := (Nat.log2_lt h0).mpr (by
      have : ((i.natAbs : Nat) : Int) < ((2 ^ 200 : Nat) : Int) := by
        rw [Int.natAbs_of_nonneg h1]
        exact Int.lt_of_lt_of_le h2 (by decide)
      exact Int.ofNat_lt.mp this)
    omega
/-- the tuples stay, the lists may change -/
def SameT (G G' : Hp) : Prop := ∀ a ys, G a = some (.tup ys) → G' a = some (.tup ys)
theorem SameT.of {G G' : Hp} (s : Same G G') : SameT G G' := fun a ys h => s _ _ h
/-! ### terms with other counts -/
def FdR (D C W : Str → Prop) (m : Nat) : Fd → Fd → Prop
  | .s x, f => f = .s x
  | .n i, f => f = .n i
  | .t _, f => ∃ a' m', f = .t a' ∧ m = m' + 1 ∧ TmIn D C W m' a'
def FdsR (D C W : Str → Prop) (m : Nat) (fs gs : List Fd) : Prop := gs.length = fs.length ∧ ∀ (i : Nat) (f f' : Fd), fs[i]? = some f → gs[i]? = some f' → FdR D C W m f f'
theorem FdsR.set {D C W : Str → Prop} {m m' : Nat} {fs gs : List Fd} {i : Nat} {a b : Tm} (h : FdsR D C W m fs gs) (hi : fs[i]? = some (.t a)) (e : m = m' + 1) (hb : TmIn D C W m' b) : FdsR D C W m fs (gs.set i (.t b)) := by
  refine ⟨by rw [List.length_set]; exact h.1, fun j f f' e1 e2 => ?_⟩
  by_cases hj : i = j
  · subst hj
    rw [hi] at e1
    obtain rfl := Option.some.inj e1
    have : i < gs.length := by
      have := (List.getElem?_eq_some_iff.mp e2).1
      rwa [List.length_set] at this
    rw [List.getElem?_set_self this] at e2
    obtain rfl := Option.some.inj e2
    exact ⟨b, m', rfl, e, hb⟩
  · rw [List.getElem?_set_ne hj] at e2
    exact h.2 j f f' e1 e2
end L2.DS
/-! for at, sign in enumerate(text). -/
namespace L2.DS
open PySem PySem.Spec PyProof.Rows
/-- a text's signs, each in a new pair with its place -/
def Ites (x : Str) : It := ⟨fun i _ => i < x.cps.size, fun i H v H' => ∃ T c, v = .ref T ∧ H T = none ∧ x.cps[i]? = some c ∧ H' = upd H T (.tup [.int (i : Nat), .str ⟨#[c]⟩]), fun i _ => x.cps.size ≤ i⟩
theorem turn_enumS {P : Program} {w : World} {K : PySem.W.Frag} {elts : List Expr} {kk : Nat} {tpos : Pos} (e it : Addr) (x : Str) (t : Tok) (ty : String) (hty : ty = "str_ascii_iterator" ∨ ty = "str_iterator") :
    Turn P w K (.Tuple elts kk tpos) (Ites x) [e, it] e (fun i h => (∃ old, IsEnum h e it ((i : Nat) : Int) old) ∧ h.IsStrIter it ty x t i ∧ e ≠ it ∧ i ≤ x.cps.size) where
  mem := by simp
  obj := fun i h st b hb => by
    obtain ⟨⟨old, he⟩, ⟨o, ho, hc, hd⟩, _⟩ := st
    have e' : b = e ∨ b = it := by simpa using hb
    rcases e' with z | z
    · rw [z]
      exact ⟨_, he, fun v q => nomatch q⟩
    · rw [z]
      exact ⟨o, ho, fun v q => by rw [hd] at q; cases q⟩
  keep := fun i h h' st k => by
    obtain ⟨⟨old, he⟩, ⟨o, ho, r⟩, hne, hi⟩ := st
    exact ⟨⟨old, k e (by simp) _ he⟩, ⟨o, k it (by simp) _ ho, r⟩, hne, hi⟩
  item := by
    intro X hP hw hK hc i pins s σ H E I hf st hg
    subst hP hw hK
    obtain ⟨⟨old, he⟩, hit, hne, _⟩ := st
    have D : Draws X.prog X.w X.A.in1 it [it] x.cps.size (fun i v => ∃ c u, x.cps[i]? = some c ∧ v = .str ⟨#[c]⟩ u) (fun i h => h.IsStrIter it ty x t i) := by
      have hh : X.A.in1.handled = none := I.ok.hd hc
      rcases hty with q | q
      · rw [q]
        exact Draws.strAscii hh it x t
      · rw [q]
        exact Draws.strWide hh it x t
    have hel : e < s.heap.objs.size := Heap.lt_size he
    have hil : it < s.heap.objs.size := by
      obtain ⟨_, q, _⟩ := hit
      exact Heap.lt_size q
    refine wpAny_pyNext_enum_itemD D he hit hg hne (by simp [hne]) fun v h' tk hv ho hit' hT hsz hk => ?_
    obtain ⟨c, u, hcx, rfl⟩ := hv
    refine ⟨_, rfl, wpAny_letOwnedTupleGo_enum (s := { s with heap := h', toks := tk + 1 }) ho fun h'' he' sb => ?_⟩
    have hT2 : h''.get? s.heap.objs.size = some { cls := .type "tuple", data := .seq #[.int i tk, .str ⟨#[c]⟩ u] } := (sb.2 _ (Nat.ne_of_gt hel)).trans hT
    have new : ObjOk X.prog X.w (upd H s.heap.objs.size (.tup [.int (i : Nat), .str ⟨#[c]⟩])) h'' s.heap.objs.size (.tup [.int (i : Nat), .str ⟨#[c]⟩]) :=
      ⟨by show 2 ≤ sizeLine; decide, [.int i tk, .str ⟨#[c]⟩ u], .cons ⟨_, rfl⟩ (.cons ⟨_, rfl⟩ .nil), ⟨_, hT2, rfl, _, rfl⟩⟩
    have I1 : Inv X pins σ (upd H s.heap.objs.size (.tup [.int (i : Nat), .str ⟨#[c]⟩])) { s with heap := h'', toks := tk + 1 } :=
      I.turnedNew (ch := [e, it]) (fun b ob hb q => (sb.2 b (fun z => hb (by simp [z]))).trans (hk b ob (fun z => hb (by simp [z])) (fun z => hb (by simp [z])) q)) hf (Nat.le_refl _) new
    refine ⟨.ref s.heap.objs.size, _, I1, rfl, ⟨_, c, rfl, I.hok.fresh (Nat.le_refl _), hcx, rfl⟩, ⟨⟨.str ⟨#[c]⟩ u, ?_⟩, ?_, hne, hg⟩, fun b hb => ?_⟩
    · have e1 : ((i + 1 : Nat) : Int) = (i : Int) + 1 := by omega
      rw [e1]
      exact he'
    · obtain ⟨o, ho2, r⟩ := hit'
      exact ⟨o, (sb.2 it (Ne.symm hne)).trans ho2, r⟩
    · have hb' : b < s.heap.objs.size := by
        have e' : b = e ∨ b = it := by simpa using hb
        rcases e' with z | z
        · rw [z]
          exact hel
        · rw [z]
          exact hil
      rw [upd_ne (Nat.ne_of_lt hb')]
      exact (hf b hb).1
  done := by
    intro X hP hw hK hc i pins s σ H E I hf st hg
    subst hP hw hK
    obtain ⟨⟨old, he⟩, hit, hne, hi⟩ := st
    obtain ⟨f0, f1, f2, f3, f4, f5⟩ := hf it (by simp)
    have D : Draws X.prog X.w X.A.in1 it [it] x.cps.size (fun i v => ∃ c u, x.cps[i]? = some c ∧ v = .str ⟨#[c]⟩ u) (fun i h => h.IsStrIter it ty x t i) := by
      have hh : X.A.in1.handled = none := I.ok.hd hc
      rcases hty with q | q
      · rw [q]
        exact Draws.strAscii hh it x t
      · rw [q]
        exact Draws.strWide hh it x t
    have hg : x.cps.size ≤ i := hg
    obtain rfl : i = x.cps.size := Nat.le_antisymm hi hg
    exact wpAny_pyNext_enum_endD D he hit fun h' eb => ⟨rfl, I.turned (t' := s.toks) (fun b o hb q => eb b o hb q) f0 f1 f3 f4 f5⟩
  self := fun A i s Q E st h => by
    obtain ⟨⟨_, he⟩, _⟩ := st
    exact wpAny_pyIter_enum he h
def iEnumS (ta : TA) : TI := fun σ H R => ta σ H fun vs H1 => ∃ x, vs = [.str x] ∧ R (Ites x) H1
theorem pi_enumS {X : Cx} {e : Expr} {ta : TA} {p pos tpos : Pos} {elts : List Expr} {kk : Nat} (hg : Gl X "enumerate") (hm : X.mg "enumerate" = none) (ha : PA X [e] ta) (hs : starEach [e] X.env = [(false, eval e X.env)] := by rfl) :
    PI X (.Tuple elts kk tpos) (.Call (.Name "enumerate" p) [e] [] pos) (iEnumS ta) := by
  refine ⟨fun pins s σ H R I h => ?_⟩
  refine Call_ (ld_blt I hg hm boot_enumerate (PyProof.Rows.callWith_type1 (thn (ha.run pos pins s σ H _ I h) fun us s1 ⟨vs, H1, I1, r1, q1⟩ => ?_) hs rfl))
  obtain ⟨x, ex, q⟩ := q1
  subst ex
  cases r1 with
  | cons r rr =>
    cases rr
    obtain ⟨t, rfl⟩ := r
    refine call_enumerate_str fun h' he hit hsz hk => wpAny_pyIter_enum he ?_
    have I2 : Inv X pins σ H1 { s1 with heap := h' } := I1.kept (t' := s1.toks) hk
    have hty : strIterType x = "str_ascii_iterator" ∨ strIterType x = "str_iterator" := by
      unfold strIterType
      split
      · exact .inl rfl
      · exact .inr rfl
    refine ⟨s1.heap.objs.size + 1, [s1.heap.objs.size + 1, s1.heap.objs.size], _, _, H1, rfl, I2, turn_enumS (s1.heap.objs.size + 1) s1.heap.objs.size x t _ hty, ⟨⟨.none, he⟩, hit, Nat.succ_ne_self _, Nat.zero_le _⟩, fun b hb => ?_, q⟩
    have e' : b = s1.heap.objs.size + 1 ∨ b = s1.heap.objs.size := by simpa using hb
    have hle : s1.heap.objs.size ≤ b := by
      rcases e' with z | z
      · rw [z]
        exact Nat.le_add_right _ _
      · rw [z]
        exact Nat.le_refl _
    exact I1.fpOk hle (I1.hok.fresh hle)
theorem for_enumS {x : Str} {g : TG} {tb : TS} {D : Ends} {σ : L2.St} {H : Hp} (Pv : Nat → L2.St → Hp → Prop) (h0 : Pv 0 σ H)
    (hs : ∀ i c σ H T, x.cps[i]? = some c → Pv i σ H → H T = none → g (.ref T) σ (upd H T (.tup [.int (i : Nat), .str ⟨#[c]⟩])) fun σ2 H2 => tb { D with nx := Pv (i + 1), ct := Pv (i + 1), bk := D.nx } σ2 H2) (hd : ∀ σ H, Pv x.cps.size σ H → D.nx σ H) :
    ∃ W : Nat → Nat → L2.St → Hp → Prop, (∃ m, W 0 m σ H) ∧ ∀ i m σ H, W i m σ H →
      ((Ites x).stop i H ∧ D.nx σ H) ∨ ((Ites x).go i H ∧ ∃ N : L2.St → Hp → Prop, (∀ σ' H', N σ' H' → ∃ m', m' < m ∧ W (i + 1) m' σ' H') ∧ ∀ v H', (Ites x).yld i H v H' → g v σ H' fun σ2 H2 => tb { D with nx := N, ct := N, bk := D.nx } σ2 H2) := by
  refine ⟨fun i m σ H => m = x.cps.size - i ∧ i ≤ x.cps.size ∧ Pv i σ H, ⟨x.cps.size, by simp, Nat.zero_le _, h0⟩, ?_⟩
  rintro i m σ H ⟨rfl, hi, p⟩
  by_cases hlt : i < x.cps.size
  · refine .inr ⟨hlt, Pv (i + 1), fun σ' H' p' => ⟨x.cps.size - (i + 1), by omega, rfl, hlt, p'⟩, fun v H' y => ?_⟩
    obtain ⟨T, c, rfl, hT, hc, rfl⟩ := y
    exact hs i c σ H T hc p hT
  · have e : i = x.cps.size := by omega
    subst e
    exact .inl ⟨Nat.le_refl _, hd σ H p⟩
/-! ### word += sign -/
def ipS : TIp := fun x y H Q => ∃ a b : Str, x = .str a ∧ y = .str b ∧ a.length + b.length ≤ sizeLine ∧ Q (.str (a ++ b)) H
theorem ip_addS {X : Cx} : PIp X .Add ipS := by
  intro pins s σ H x y v u Q I r1 r2 h
  obtain ⟨a, b, e1, e2, hl, q⟩ := h
  subst e1
  subst e2
  obtain ⟨t, rfl⟩ := r1
  obtain ⟨t', rfl⟩ := r2
  exact PySem.SB.iadd (fun t2 k => ⟨.str _, H, I.kept (t' := k) fun _ _ z => z, ⟨_, rfl⟩, q⟩) hl
section
variable {S : SR} {n k i j : Nat} {te : TE} {ta : TA} {σ : L2.St} {G H : Hp} {K : PySem.W.Frag} {a b z : Str} {tb u : TS} {nx bk ct : L2.St → Hp → Prop} {rt : VK}
theorem q_augS (st : Stab S) (s : S n G H) (hx : σ[i]? = some (some (.str a))) (e : Ev S n k te σ G (IsV (.str b))) (hl : a.length + b.length ≤ sizeLine) (h : ∀ H', Kp S H H' → S (n + k) G H' → u (Ends.mk nx rt bk ct) (σ.set i (some (.str (a ++ b)))) H') : tSeq (tAug i te ipS) u (Ends.mk nx rt bk ct) σ H :=
  ⟨.str a, hx, e G H (Same.refl _) s _ fun v G' H' s1 ev => by
    obtain rfl := (show _ = _ from ev)
    exact ⟨a, b, rfl, rfl, hl, h H' s1.k (st.anti s s1.s s1.g)⟩⟩
/-- a, b = x, y by way of a tuple -/
theorem q_asgT2 {x y : V} (st : Stab S) (s : S n G H) (e : Ev S n k te σ G (IsNew G (.tup [x, y]))) (h : ∀ G' H', Stp S (n + k) G H G' H' → u (Ends.mk nx rt bk ct) ((σ.set i (some x)).set j (some y)) H') : tSeq (tAsg te (gTup K 2 (gCons (gName i) (gCons (gName j) gNil)))) u (Ends.mk nx rt bk ct) σ H :=
  e G H (Same.refl _) s _ fun v G' H' s1 r => by
    obtain ⟨p, rfl, _, g⟩ := r
    exact ⟨p, _, rfl, SqT.of (st.sub s1.s _ _ g), rfl, _, _, rfl, _, _, rfl, rfl, h G' H' s1⟩
/-- for i, j in enumerate(text) -/
theorem q_forE (st : Stab S) (s : S n G H) (e : EvA S n k ta σ G (IsVs [.str z])) (Pv : Nat → L2.St → Hp → Prop) (h0 : ∀ H', Kp S H H' → S (n + k) G H' → Pv 0 σ H')
    (hs : ∀ (l : Nat) c σ' J T, z.cps[l]? = some c → Pv l σ' J → J T = none → tb (Ends.mk (Pv (l + 1)) rt (u (Ends.mk nx rt bk ct)) (Pv (l + 1))) ((σ'.set i (some (.int (l : Nat)))).set j (some (.str ⟨#[c]⟩))) (upd J T (.tup [.int (l : Nat), .str ⟨#[c]⟩])))
    (hd : ∀ σ' J, Pv z.cps.size σ' J → u (Ends.mk nx rt bk ct) σ' J) : tSeq (tFor (iEnumS ta) (gTup K 2 (gCons (gName i) (gCons (gName j) gNil))) tb) u (Ends.mk nx rt bk ct) σ H := by
  refine e G H (Same.refl _) s _ fun v G1 H1 s1 ev => ?_
  have hs2 := st.anti s s1.s s1.g
  refine ⟨z, ev, for_enumS Pv (h0 H1 s1.k hs2) (fun l c τ J T hc hp hT => ?_) hd⟩
  exact ⟨T, _, rfl, SqT.of upd_same, rfl, _, _, rfl, _, _, rfl, rfl, hs l c τ J T hc hp hT⟩
end
/-! ### the tokens of a text with their places -/
def cuC (c : Nat) : Bool := decide (c = 32 ∨ c = 40 ∨ c = 41)
abbrev TkSt := List (Str × Nat) × Str × Nat
def tkStep (s : TkSt) (l c : Nat) : TkSt :=
  if cuC c then ((s.1 ++ (if s.2.1 = "" then [] else [(s.2.1, s.2.2)])) ++ (if c = 32 then [] else [((⟨#[c]⟩ : Str), l)]), "", s.2.2)
  else (s.1, s.2.1 ++ (⟨#[c]⟩ : Str), if s.2.1 = "" then l else s.2.2)
def tkAt (l : List Nat) : Nat → TkSt
  | 0 => ([], "", 0)
  | j + 1 => tkStep (tkAt l j) j (l.getD j 0)
def toksP (s : Str) : List (Str × Nat) := (tkAt (s.cps.toList ++ [32]) (s.length + 1)).1 ++ [(("" : Str), s.length)]
def IsTk (p : Str × Nat) : HR := fun v G => ∃ a, v = .ref a ∧ G a = some (.tup [.str p.1, .int (p.2 : Nat)])
instance (p) : Mon (IsTk p) := ⟨fun s ⟨a, e, h⟩ => ⟨a, e, s _ _ h⟩⟩
def PSpl : List V → Hp → HR → Prop := fun vs G R => ∃ (s : Str) (F : Hp), vs = [.str s] ∧ s.length ≤ 99000 ∧ Same F G ∧ R = IsNX F (RL IsTk (toksP s))
theorem tkAt_len (l : List Nat) : ∀ j, (tkAt l j).1.length + (if (tkAt l j).2.1 = "" then 0 else 1) ≤ j ∧ (tkAt l j).2.1.length ≤ j ∧ (tkAt l j).2.2 ≤ j
  | 0 => ⟨by show 0 + (if ("" : Str) = "" then 0 else 1) ≤ 0; rw [if_pos rfl]; decide, Nat.le_refl 0, Nat.le_refl 0⟩
  | j + 1 => by
    obtain ⟨a, b, c⟩ := tkAt_len l j
    unfold tkAt tkStep
    split
    · refine ⟨?_, Nat.zero_le _, by show (tkAt l j).2.2 ≤ _; omega⟩
      show List.length (_ ++ _) + (if ("" : Str) = "" then 0 else 1) ≤ _
      rw [List.length_append, List.length_append, if_pos rfl]
      split at a <;> rename_i h
      · rw [if_pos h]
        split <;> simp <;> omega
      · rw [if_neg h]
        split <;> simp <;> omega
    · refine ⟨?_, ?_, ?_⟩
      · have : ∀ p : Prop, ∀ [Decidable p], (if p then 0 else 1) ≤ 1 := fun p _ => by split <;> omega
        refine Nat.le_trans (Nat.add_le_add_left (this _) _) ?_
        show List.length (tkAt l j).1 + 1 ≤ _
        omega
      · show Str.length (_ ++ _) ≤ _
        rw [Str.length_append]
        show _ + 1 ≤ _
        omega
      · show (if _ then _ else _) ≤ _
        split <;> omega
end L2.DS
/-! The reader's words: names, counts; the table of forms. -/
namespace L2.DS
open PySem PySem.Spec PyProof.Rows
def formK : List Str := ["deed", "call", "leave", "loop", "times", "then", "either", "clean", "catch"]
def otherK : List Str := ["skip", "program", "to", "end"]
def smallL : Str := "abcdefghijklmnopqrstuvwxyz"
def figsL : Str := "0123456789"
theorem small_mem (c : Nat) : decide (c ∈ smallL.cps.toList) = smC c := by
  have e : smallL.cps.toList = List.range' 97 26 := by decide +kernel
  rw [e]
  unfold smC
  refine decide_eq_decide.mpr ?_
  rw [List.mem_range'_1]
  omega
theorem figs_mem (c : Nat) : decide (c ∈ figsL.cps.toList) = fgC c := by
  have e : figsL.cps.toList = List.range' 48 10 := by decide +kernel
  rw [e]
  unfold fgC
  refine decide_eq_decide.mpr ?_
  rw [List.mem_range'_1]
  omega
def c0 (s : Str) : Nat := s.cps.toList.headD 0
def nameB (s : Str) : Bool := !(decide (s = "") || (decide (12 < s.length) || (decide (s ∈ formK) || (decide (s ∈ otherK) || fgC (c0 s))))) && s.cps.toList.all fun c => smC c || fgC c
def countB (s : Str) : Bool := !(decide (s = "") || (decide (60 < s.length) || (decide (c0 s = 48) && !decide (s = "0")))) && s.cps.toList.all fgC
theorem kw_split : kwL = formK ++ otherK := rfl
theorem NmOk.name {s : Str} (h : NmOk s) : nameB s = true := by
  obtain ⟨c, r, e, hc⟩ := h.hd
  have h0 : ¬ s = "" := fun z => by
    have := h.l1
    rw [z] at this
    exact absurd this (by decide +kernel)
  have hk := h.kw
  rw [kw_split, List.mem_append] at hk
  have hf : fgC (c0 s) = false := by
    unfold c0
    rw [e]
    show fgC c = false
    unfold smC at hc
    unfold fgC
    have := of_decide_eq_true hc
    exact decide_eq_false (by omega)
  unfold nameB
  rw [decide_eq_false h0, decide_eq_false (by have := h.l2; omega), decide_eq_false fun z => hk (.inl z), decide_eq_false fun z => hk (.inr z), hf]
  show (true && _) = true
  rw [Bool.true_and, List.all_eq_true]
  exact h.al
theorem empty_len {s : Str} (h : ¬ s = "") : 0 < s.cps.toList.length := by
  cases e : s.cps.toList with
  | nil => exact absurd (str_inj (by rw [e]; decide +kernel)) h
  | cons a r => exact Nat.succ_pos _
theorem atI_natG {α : Type} {xs : List α} {j : Nat} {v : α} (h : xs[j]? = some v) : atI xs (j : Int) = some v := by
  have hj := (List.getElem?_eq_some_iff.mp h).1
  have h1 : ixN xs.length ((j : Nat) : Int) = some j := by
    unfold ixN
    rw [if_pos (by omega), if_pos (by omega)]
    all_goals rfl
  unfold atI
  rw [h1]
  exact h
theorem at0 {s : Str} (h : ¬ s = "") : atI s.cps.toList (0 : Int) = some (c0 s) := by
  have := empty_len h
  unfold c0
  cases e : s.cps.toList with
  | nil =>
    rw [e] at this
    exact absurd this (Nat.lt_irrefl 0)
  | cons a r => exact atI_natG (xs := a :: r) (j := 0) rfl
def PNmB : List V → Hp → HR → Prop := fun vs _ R => ∃ s : Str, vs = [.str s] ∧ s.length ≤ 99000 ∧ R = IsV (.bl (nameB s))
def PCtB : List V → Hp → HR → Prop := fun vs _ R => ∃ s : Str, vs = [.str s] ∧ s.length ≤ 99000 ∧ R = IsV (.bl (countB s))
/-- the table of forms at the module's head -/
structure FormsAt (K : PySem.W.Frag) (w : World) (a : Addr) : Prop where
  d : ∃ es n, KDict K w a es n
  k : ∀ z : Str, ∃ r, PySem.W.nsIn K a z = some r ∧ r.isSome = decide (z ∈ formK)
def rInKD (K : PySem.W.Frag) (d : Addr) : R2 := fun x y H Q => ∃ (z : Str) (r : Option Value), x = .str z ∧ y = .ref d ∧ PySem.W.nsIn K d z = some r ∧ Q (.bl r.isSome) H
theorem op_in_kdK {X : Cx} {K : PySem.W.Frag} {w : World} {d : Addr} (hF : FormsAt K w d) (hK : X.K = K := by rfl) (hw : X.w = w := by rfl) : OpR X (compareOp .In) (rInKD K d) := by
  subst hK hw
  obtain ⟨es, n, D⟩ := hF.d
  exact op_in_kd D
section
variable {S : SR} {G : Hp} {K : PySem.W.Frag} {w : World} {d : Addr} {z : Str}
theorem v_inKD (st : Stab S) (hF : FormsAt K w d) : RV S (rInKD K d) (.str z) (.ref d) G (IsV (.bl (decide (z ∈ formK)))) := by
  obtain ⟨r, h1, h2⟩ := hF.k z
  rw [← h2]
  exact rv_val (fun H _ Q q => ⟨z, r, rfl, rfl, h1, q⟩) st
end
end L2.DS
/-! The reader's pile as a machine on tokens; what it makes of a term's tokens. -/
namespace L2.DS
open PySem PySem.Spec PyProof.Rows
inductive Wi where
  | term | name | count | form | close | opn | prc | prcs
  | wd (s : Str)
  | bld (w : Str) (k : Nat)
def mkB (w : Str) (l : List PyData) : PyData := .tuple (if w = "" then l else .str w :: l)
def settle : List Wi → List PyData → List Wi × List PyData
  | .bld w k :: r, vs => settle r (mkB w (vs.take k).reverse :: vs.drop k)
  | ws, vs => (ws, vs)
def fieldsW (s : Str) : List Wi :=
  if s = "loop" then [.term] else if s = "times" then [.count, .term] else if s = "then" ∨ s = "either" ∨ s = "clean" then [.term, .term] else if s = "catch" then [.name, .term, .term] else [.name]
def cval (s : Str) : Int := ((NumText.digitsVal s.cps.toList : Nat) : Int)
abbrev Ms := List Wi × List PyData × Int
def opB (w : Wi) (r : List Wi) (vs : List PyData) (oc : Int) : Option Ms :=
  match w with
  | .term => some (.form :: r, vs, oc + 1)
  | .prc => some (.wd "to" :: .name :: .term :: .close :: .bld "" 2 :: .prcs :: r, vs, oc + 1)
  | .prcs => some (.wd "to" :: .name :: .term :: .close :: .bld "" 2 :: .prcs :: r, vs, oc + 1)
  | .opn => some (r, vs, oc + 1)
  | _ => none
def clB (w : Wi) (r : List Wi) (vs : List PyData) (oc : Int) : Option Ms :=
  match w with
  | .close => some (r, vs, oc - 1)
  | .prcs => some (r, vs, oc - 1)
  | _ => none
def tkB (w : Wi) (r : List Wi) (vs : List PyData) (oc : Int) (tok : Str) : Option Ms :=
  match w with
  | .term => if tok = "skip" then some (r, .tuple [.str "skip"] :: vs, oc) else none
  | .name => if nameB tok = true then some (r, .str tok :: vs, oc) else none
  | .count => if countB tok = true then some (r, .int (cval tok) :: vs, oc) else none
  | .form => if tok ∈ formK then some (fieldsW tok ++ (.close :: .bld tok (fieldsW tok).length :: r), vs, oc) else none
  | .wd s => if tok = s then some (r, vs, oc) else none
  | _ => none
def stepC (ws : List Wi) (vs : List PyData) (oc : Int) (tok : Str) : Option Ms :=
  match ws with
  | [] => none
  | w :: r => if tok = "" then none else if tok = "(" then (if oc = 40 then none else opB w r vs oc) else if tok = ")" then clB w r vs oc else tkB w r vs oc tok
theorem stepC_cons {w : Wi} {r : List Wi} {vs : List PyData} {oc : Int} {tok : Str} : stepC (w :: r) vs oc tok = if tok = "" then none else if tok = "(" then (if oc = 40 then none else opB w r vs oc) else if tok = ")" then clB w r vs oc else tkB w r vs oc tok := rfl
/-- neither empty nor a parenthesis -/
structure Plain (s : Str) : Prop where
  e : ¬ s = ""
  o : ¬ s = "("
  c : ¬ s = ")"
theorem NmOk.plain {s : Str} (h : NmOk s) : Plain s := by
  obtain ⟨c, r, e, hc⟩ := h.hd
  have k : ∀ x : Str, x ∈ (["", "(", ")"] : List Str) → smC (x.cps.toList.headD 0) = false := by decide +kernel
  have n : ∀ x : Str, x ∈ (["", "(", ")"] : List Str) → ¬ s = x := fun x hx z => by
    have := k x hx
    rw [← z, e] at this
    rw [show smC ((c :: r).headD 0) = smC c from rfl, hc] at this
    cases this
  exact ⟨n _ (by simp), n _ (by simp), n _ (by simp)⟩
theorem kw_plain : ∀ s ∈ formK, Plain s := by
  intro s hs
  have k : ∀ s ∈ formK, ¬ s = "" ∧ ¬ s = "(" ∧ ¬ s = ")" := by decide +kernel
  exact ⟨(k s hs).1, (k s hs).2.1, (k s hs).2.2⟩
theorem step_form {s : Str} {r : List Wi} {vs : List PyData} {oc : Int} (h : s ∈ formK) : stepC (.form :: r) vs oc s = some (fieldsW s ++ (.close :: .bld s (fieldsW s).length :: r), vs, oc) := by
  have p := kw_plain s h
  rw [stepC_cons, if_neg p.e, if_neg p.o, if_neg p.c]
  show (if s ∈ formK then _ else _) = _
  rw [if_pos h]
theorem lit_par : ¬ ("(" : Str) = "" ∧ ¬ (")" : Str) = "" ∧ ¬ (")" : Str) = "(" ∧ ¬ ("skip" : Str) = "" ∧ ¬ ("skip" : Str) = "(" ∧ ¬ ("skip" : Str) = ")" := by decide +kernel
theorem step_open {r : List Wi} {vs : List PyData} {oc : Int} (h : ¬ oc = 40) : stepC (.term :: r) vs oc "(" = some (.form :: r, vs, oc + 1) := by
  rw [stepC_cons, if_neg lit_par.1, if_pos rfl, if_neg h]
  rfl
theorem step_close {r : List Wi} {vs : List PyData} {oc : Int} : stepC (.close :: r) vs oc ")" = some (r, vs, oc - 1) := by
  rw [stepC_cons, if_neg lit_par.2.1, if_neg lit_par.2.2.1, if_pos rfl]
  rfl
theorem step_skip {r : List Wi} {vs : List PyData} {oc : Int} : stepC (.term :: r) vs oc "skip" = some (r, .tuple [.str "skip"] :: vs, oc) := by
  rw [stepC_cons, if_neg lit_par.2.2.2.1, if_neg lit_par.2.2.2.2.1, if_neg lit_par.2.2.2.2.2]
  show (if ("skip" : Str) = "skip" then some (r, PyData.tuple [.str "skip"] :: vs, oc) else none) = _
  exact if_pos rfl
/-! ### counts -/
theorem num_digits (n : Nat) : ∀ c ∈ (toString ((n : Nat) : Int) : Str).cps.toList, fgC c = true := fun c hc => by
  rw [show (toString ((n : Nat) : Int) : Str).cps.toList = TL.numL n from TL.tl_num n] at hc
  have := TL.numL_digits n c hc
  unfold fgC
  exact decide_eq_true this
/-! ### the machine reads a term's tokens -/
theorem settle_top {w : Wi} {r : List Wi} {vs : List PyData} (h : ∀ s k, w ≠ .bld s k) : settle (w :: r) vs = (w :: r, vs) := by
  cases w with
  | bld s k => exact absurd rfl (h s k)
  | _ => rfl
end L2.DS
/-! The tokens of a term's text; texts with other blanks. -/
namespace L2.DS
open PySem PySem.Spec PyProof.Rows
abbrev ScSt := List Str × Str
def fl (s : ScSt) : List Str := s.1 ++ (if s.2 = "" then [] else [s.2])
def scS (s : ScSt) (c : Nat) : ScSt := if cuC c then (fl s ++ (if c = 32 then [] else [(⟨#[c]⟩ : Str)]), "") else (s.1, s.2 ++ (⟨#[c]⟩ : Str))
def scan (s : Str) (st : ScSt) : ScSt := s.cps.toList.foldl scS st
theorem scn_app (a b : Str) (st : ScSt) : scan (a ++ b) st = scan b (scan a st) := by
  unfold scan
  rw [cps_app, List.foldl_append]
theorem tkAt_scan (l : List Nat) : ∀ j, j ≤ l.length → ((tkAt l j).1.map (·.1), (tkAt l j).2.1) = (l.take j).foldl scS ([], "")
  | 0, _ => rfl
  | j + 1, h => by
    have ih := tkAt_scan l j (by omega)
    rw [List.take_succ_eq_append_getElem (by omega : j < l.length), List.foldl_append, ← ih]
    have e : l.getD j 0 = l[j] := by rw [List.getD_eq_getElem?_getD, List.getElem?_eq_getElem (by omega)]; rfl
    have es : tkAt l (j + 1) = tkStep (tkAt l j) j l[j] := by rw [← e]; rfl
    rw [es]
    show _ = scS _ l[j]
    generalize tkAt l j = S
    obtain ⟨fo, wd, be⟩ := S
    unfold tkStep scS fl
    by_cases hc : cuC l[j] = true
    · rw [if_pos hc, if_pos hc]
      show (List.map _ (_ ++ _), _) = _
      rw [List.map_append, List.map_append]
      congr 1
      congr 1
      · congr 1
        show List.map _ (if wd = "" then _ else _) = if wd = "" then _ else _
        split <;> rfl
      · split <;> rfl
    · rw [if_neg hc, if_neg hc]
theorem toks_words (s : Str) : (toksP s).map (·.1) = fl (scan s ([], "")) ++ [("" : Str)] := by
  unfold toksP
  have ll : (s.cps.toList ++ [32]).length = s.length + 1 := by rw [List.length_append]; rfl
  have h := tkAt_scan (s.cps.toList ++ [32]) (s.length + 1) (by rw [ll]; exact Nat.le_refl _)
  rw [List.take_of_length_le (by rw [ll]; exact Nat.le_refl _), List.foldl_append] at h
  have h1 := congrArg Prod.fst h
  rw [List.map_append]
  show (tkAt (s.cps.toList ++ [32]) (s.length + 1)).1.map (·.1) ++ [("" : Str)] = _
  rw [show (tkAt (s.cps.toList ++ [32]) (s.length + 1)).1.map (·.1) = _ from h1]
  show (scS (scan s ([], "")) 32).1 ++ [("" : Str)] = _
  unfold scS
  rw [if_pos (by decide), if_pos rfl, List.append_nil]
/-! ### pieces -/
theorem fl_e (ws : List Str) : fl (ws, "") = ws := by
  unfold fl
  rw [if_pos rfl, List.append_nil]
end L2.DS
/-! Texts with other blanks have the same tokens; a program's tokens and what the machine makes of them. -/
namespace L2.DS
open PySem PySem.Spec PyProof.Rows
def blkS (a : Nat) : Str := ⟨(List.replicate a 32).toArray⟩
theorem blkS_len (a : Nat) : (blkS a).length = a := by
  show (List.replicate a 32).toArray.size = a
  simp
theorem scan_sp (a : Nat) (st : ScSt) : scan (blkS a) st = if a = 0 then st else (fl st, ("" : Str)) := by
  have one : ∀ st : ScSt, scS st 32 = (fl st, ("" : Str)) := fun st => by
    unfold scS
    rw [if_pos (by decide), if_pos rfl, List.append_nil]
  have e : (blkS a).cps.toList = List.replicate a 32 := rfl
  unfold scan
  rw [e]
  clear e
  induction a generalizing st with
  | zero => rfl
  | succ a ih =>
    show (List.replicate a 32).foldl scS (scS st 32) = _
    rw [ih, one, if_neg (Nat.succ_ne_zero a)]
    split
    · rfl
    · rw [fl_e]
def scL (l : List Nat) : ScSt := l.foldl scS ([], "")
theorem scL_succ {l : List Nat} {k c : Nat} (h : l[k]? = some c) : scL (l.take (k + 1)) = scS (scL (l.take k)) c := by
  unfold scL
  rw [List.take_add_one, h, List.foldl_append]
  rfl
abbrev parC (c : Nat) : Prop := c = 40 ∨ c = 41
/-- a text made of the first k signs with other blanks -/
def SpI (s : List Nat) (k : Nat) (f : Str) : Prop := scan f ([], "") = scL (s.take k) ∨ ((∃ c, s[k]? = some c ∧ parC c) ∧ scL (s.take k) = (fl (scan f ([], "")), ("" : Str)))
theorem scan_one (c : Nat) (st : ScSt) : scan (⟨#[c]⟩ : Str) st = scS st c := rfl
theorem scS_par {st : ScSt} {c : Nat} (h : parC c) : scS st c = (fl st ++ [(⟨#[c]⟩ : Str)], ("" : Str)) := by
  unfold scS
  rw [if_pos (by unfold cuC; rcases h with h | h <;> simp [h]), if_neg (by rcases h with h | h <;> omega)]
theorem fl_sp (a : Nat) (st : ScSt) : fl (scan (blkS a) st) = fl st := by
  rw [scan_sp]
  split
  · rfl
  · exact fl_e _
theorem SpI.par {s : List Nat} {k c a b : Nat} {f : Str} (h : SpI s k f) (hk : s[k]? = some c) (hc : parC c) : SpI s (k + 1) (f ++ blkS a ++ (⟨#[c]⟩ : Str) ++ blkS b) := by
  refine .inl ?_
  rw [scL_succ hk, scn_app, scn_app, scn_app, scan_one, scS_par hc, scS_par hc, fl_sp]
  have e : fl (scL (s.take k)) = fl (scan f ([], "")) := by
    rcases h with h | ⟨_, h⟩
    · rw [h]
    · rw [h, fl_e]
  rw [e, scan_sp]
  split
  · rfl
  · rw [fl_e]
/-! ### programs -/
theorem wd_plain : Plain ("to" : Str) ∧ Plain ("program" : Str) := ⟨⟨by decide +kernel, by decide +kernel, by decide +kernel⟩, ⟨by decide +kernel, by decide +kernel, by decide +kernel⟩⟩
theorem step_wd {s : Str} {r : List Wi} {vs : List PyData} {oc : Int} (p : Plain s) : stepC (.wd s :: r) vs oc s = some (r, vs, oc) := by
  rw [stepC_cons, if_neg p.e, if_neg p.o, if_neg p.c]
  show (if s = s then some (r, vs, oc) else none) = _
  rw [if_pos rfl]
/-! ### " " * k -/
def rMulSp : R2 := fun x y H Q => ∃ k : Nat, x = .str " " ∧ y = .int (k : Nat) ∧ k ≤ 1000 ∧ Q (.str (blkS k)) H
theorem rep_blk (k : Nat) : (⟨(List.replicate k (" " : Str).cps).foldl (· ++ ·) #[]⟩ : Str) = blkS k := by
  have e : (" " : Str).cps = #[32] := by decide +kernel
  have g : ∀ (k : Nat) (a : Array Nat), (List.replicate k (#[32] : Array Nat)).foldl (· ++ ·) a = a ++ (List.replicate k 32).toArray := by
    intro k
    induction k with
    | zero => intro a; simp
    | succ k ih =>
      intro a
      show (List.replicate k (#[32] : Array Nat)).foldl (· ++ ·) (a ++ #[32]) = _
      rw [ih]
      apply Array.ext'
      simp [List.replicate_succ]
  rw [e, g]
  unfold blkS
  simp
theorem op_mulSp {X : Cx} : OpR X (binaryOp .Mult) rMulSp := by
  intro pins s σ H x y v u Q I rx ry h
  obtain ⟨k, rfl, rfl, hk, q⟩ := h
  obtain ⟨t, rfl⟩ := rx
  obtain ⟨t2, rfl⟩ := ry
  have l1 : (" " : Str).length = 1 := by decide +kernel
  have hsz : (100000 : Nat) ≤ sizeLine := by decide
  refine PySem.P.mul_str ?_ (fun n1 n2 => ?_) (fun n1 n2 => ?_) ?_
  · rw [Bool.or_eq_false_iff]
    exact ⟨decide_eq_false (by omega), decide_eq_false (by omega)⟩
  · rw [l1]
    have h3 : (1 : Int) ≤ (2 ^ 63 - 1) / ((k : Nat) : Int) := by
      rw [Int.le_ediv_iff_mul_le (by omega)]
      omega
    omega
  · unfold PySem.Builtin.Str.tooLong
    rw [decide_eq_false]
    rw [l1, sizeLine_eq]
    omega
  · by_cases h0 : ((k : Nat) : Int) < 1
    · rw [if_pos h0]
      obtain rfl : k = 0 := by omega
      exact ⟨by decide, ⟨.str (blkS 0), H, I.tok _, ⟨_, rfl⟩, q⟩⟩
    · rw [if_neg h0]
      by_cases h1 : k = 1
      · subst h1
        rw [if_pos (by rfl)]
        have e : blkS 1 = (" " : Str) := by decide +kernel
        rw [e] at q
        exact ⟨.str " ", H, I, ⟨_, rfl⟩, q⟩
      · rw [if_neg (by rw [l1]; simp; omega), rep_blk]
        exact ⟨by show (blkS k).length ≤ _; rw [blkS_len]; omega, ⟨.str (blkS k), H, I.tok _, ⟨_, rfl⟩, q⟩⟩
section
variable {S : SR} {G : Hp} {k : Nat}
theorem v_mulSp (st : Stab S) (h : k ≤ 1000) : RV S rMulSp (.str " ") (.int (k : Nat)) G (IsV (.str (blkS k))) := rv_val (fun H _ Q q => ⟨k, rfl, rfl, h, q⟩) st
end
end L2.DS
/-! What changes while it is told: lists and instances; tuples as data. -/
namespace L2.DS
open PySem PySem.Spec PyProof.Rows
/-! ### tuples of texts, ints, tuples -/
mutual
def IsDt : PyData → HR
  | .str s => IsV (.str s)
  | .int i => IsV (.int i)
  | .tuple ds => IsTq (IsDts ds)
  | .none => fun _ _ => False
  | .bool _ => fun _ _ => False
  | .list _ => fun _ _ => False
  | .dict _ => fun _ _ => False
def IsDts : List PyData → HRs
  | [] => RNil
  | d :: r => RCons (IsDt d) (IsDts r)
end
mutual
theorem dt_monT {G G' : Hp} (s : SameT G G') : ∀ (d : PyData) {v : V}, IsDt d v G → IsDt d v G'
  | .str _, _, h => h
  | .int _, _, h => h
  | .tuple ds, _, ⟨a, xs, e, g, r⟩ => ⟨a, xs, e, s _ _ g, dts_monT s ds r⟩
  | .none, _, h => h.elim
  | .bool _, _, h => h.elim
  | .list _, _, h => h.elim
  | .dict _, _, h => h.elim
theorem dts_monT {G G' : Hp} (s : SameT G G') : ∀ (ds : List PyData) {xs : List V}, IsDts ds xs G → IsDts ds xs G'
  | [], _, h => h
  | d :: r, _, ⟨v, w, e, h, h'⟩ => ⟨v, w, e, dt_monT s d h, dts_monT s r h'⟩
end
instance (d : PyData) : Mon (IsDt d) := ⟨fun s h => dt_monT (SameT.of s) d h⟩
instance (ds : List PyData) : Mons (IsDts ds) := ⟨fun s h => dts_monT (SameT.of s) ds h⟩
mutual
theorem dt_dp {K : PySem.W.Frag} {G : Hp} : ∀ (d : PyData) {v : V}, IsDt d v G → Dp K G v d
  | .str s, _, h => by
    obtain rfl := (show _ = _ from h)
    exact .str s
  | .int i, _, h => by
    obtain rfl := (show _ = _ from h)
    exact .int i
  | .tuple ds, _, ⟨a, xs, e, g, r⟩ => by
    subst e
    exact .tup (SqT.of g) (dts_dp ds r)
  | .none, _, h => h.elim
  | .bool _, _, h => h.elim
  | .list _, _, h => h.elim
  | .dict _, _, h => h.elim
theorem dts_dp {K : PySem.W.Frag} {G : Hp} : ∀ (ds : List PyData) {xs : List V}, IsDts ds xs G → DpAll K G xs ds
  | [], _, h => by
    obtain rfl := (show _ = [] from h)
    exact .nil
  | d :: r, _, ⟨v, w, e, h, h'⟩ => by
    subst e
    exact .cons (dt_dp d h) (dts_dp r h')
end
theorem dts_app {G : Hp} : ∀ {as bs : List PyData} {xs ys : List V}, IsDts as xs G → IsDts bs ys G → IsDts (as ++ bs) (xs ++ ys) G
  | [], _, _, _, h, h' => by
    obtain rfl := (show _ = [] from h)
    exact h'
  | a :: r, _, _, _, ⟨v, w, e, h1, h2⟩, h' => by
    subst e
    exact ⟨v, _, rfl, h1, dts_app h2 h'⟩
theorem dts_len {G : Hp} : ∀ {as : List PyData} {xs : List V}, IsDts as xs G → xs.length = as.length
  | [], _, h => by rw [show _ = [] from h]; rfl
  | a :: r, _, ⟨v, w, e, h1, h2⟩ => by rw [e, List.length_cons, List.length_cons, dts_len h2]
theorem dts_take {G : Hp} : ∀ {as : List PyData} {xs : List V} (k : Nat), IsDts as xs G → IsDts (as.take k) (xs.take k) G ∧ IsDts (as.drop k) (xs.drop k) G
  | as, xs, 0, h => ⟨rfl, h⟩
  | [], _, k + 1, h => by
    obtain rfl := (show _ = [] from h)
    exact ⟨rfl, rfl⟩
  | a :: r, _, k + 1, ⟨v, w, e, h1, h2⟩ => by
    subst e
    exact ⟨⟨v, _, rfl, h1, (dts_take k h2).1⟩, (dts_take k h2).2⟩
theorem dts_one {G : Hp} {d : PyData} {v : V} (h : IsDt d v G) : IsDts [d] [v] G := ⟨v, [], rfl, h, rfl⟩
theorem dts_snoc {G : Hp} {as : List PyData} {d : PyData} {xs : List V} (h : IsDts (as ++ [d]) xs G) : ∃ ys v, xs = ys ++ [v] ∧ IsDts as ys G ∧ IsDt d v G := by
  have l := dts_len h
  rw [List.length_append] at l
  have l : xs.length = as.length + 1 := l
  obtain ⟨a, b⟩ := dts_take as.length h
  rw [List.take_left] at a
  rw [List.drop_left] at b
  obtain ⟨v, w, e, h1, h2⟩ := b
  obtain rfl := (show w = [] from h2)
  exact ⟨xs.take as.length, v, by rw [← e, List.take_append_drop], a, h1⟩
/-! ### what is told, changed -/
section
variable {S : SR} {n n0 ka kb i : Nat} {te to tv : TE} {t : TA} {u : TS} {σ : L2.St} {G H G0 H0 : Hp} {nx bk ct : L2.St → Hp → Prop} {rt : VK} {D : Addr} {xs : List V} {R : HR} {K : PySem.W.Frag}
theorem st_chgT (st : Stab S) (s0 : S n0 G0 H0) (hD0 : H0 D = none) (hc : ∀ m G' J, S m G' J → S m (cut G' (· = D)) J) (s : S n G H) (o : HO) : S n (upd G D o) (upd H D o) := by
  have cD : cut G (· = D) D = none := cut_in rfl
  have chg := st.chg (o := o) s0 hD0 (hc _ _ _ s) cD
  have pb := st.pub (o := o) s0 hD0 chg cD upd_same
  have ec : upd (cut G (· = D)) D o = upd G D o := by
    funext b
    by_cases hb : b = D
    · subst hb
      rw [upd_same, upd_same]
    · rw [upd_ne hb, upd_ne hb]
      exact cut_out (X := fun x => x = D) hb
  rw [ec] at pb
  exact pb
theorem sp0_cut {G0 H0 : Hp} {X : Addr → Prop} (h : ∀ b, X b → G0 b = none) {m : Nat} {G' J : Hp} (s : SP0 G0 H0 m G' J) : SP0 G0 H0 m (cut G' X) J := by
  have s : Grow G0 H0 G' J := s
  exact ⟨cut_old s.g h, s.h, cut_same.trans s.s, fun b o e => s.n b o (cut_same _ _ e)⟩
theorem p_chg (hs : Same G0 H0) (hD0 : H0 D = none) (s : SP0 G0 H0 n G H) (o : HO) : SP0 G0 H0 n (upd G D o) (upd H D o) :=
  st_chgT (stab0 G0 H0) (n0 := 0) (Grow.refl hs) hD0 (fun m G' J h => sp0_cut (fun b hb => by subst hb; exact hs.free hD0) h) s o
/-- l.append(..), l told -/
theorem q_appP (hs : Same G0 H0) (hD0 : H0 D = none) (s : SP0 G0 H0 n G H) (gD : G D = some (.lst xs)) (hl : xs.length < 100000) (e1 : Ev (SP0 G0 H0) n ka to σ G (IsV (.ref D))) (e2 : ∀ G', Same G G' → Ev (SP0 G0 H0) (n + ka) kb te σ G' R)
    (h : ∀ v G' H', R v G' → Same G G' → SP0 G0 H0 (n + ka + kb) (upd G' D (.lst (xs ++ [v]))) H' → u (Ends.mk nx rt bk ct) σ H') : tSeq (tDrop (tBM K "list" rAppend to (tCons te tNil))) u (Ends.mk nx rt bk ct) σ H := by
  have st := stab0 G0 H0
  refine e1 G H (Same.refl _) s _ fun w G1 H1 s1 ew => ?_
  obtain rfl := (show _ = _ from ew)
  have d1 : H1 D = some (.lst xs) := st.sub s1.s _ _ (s1.g _ _ gD)
  refine ⟨.inl ⟨rfl, xs, SqL.of d1⟩, e2 G1 s1.g G1 H1 (Same.refl _) s1.s _ fun v G2 H2 s2 ev => ?_⟩
  have g2 := s2.g _ _ (s1.g _ _ gD)
  exact ⟨D, xs, v, rfl, rfl, st.sub s2.s _ _ g2, Nat.lt_of_lt_of_le hl (by decide), h v G2 _ ev (s1.g.trans s2.g) (p_chg hs hD0 s2.s _)⟩
/-- x = l.pop(), l told -/
theorem q_popP {v : V} (hs : Same G0 H0) (hD0 : H0 D = none) (s : SP0 G0 H0 n G H) (gD : G D = some (.lst (xs ++ [v]))) (e1 : Ev (SP0 G0 H0) n ka to σ G (IsV (.ref D)))
    (h : ∀ G' H', Same G G' → SP0 G0 H0 (n + ka) (upd G' D (.lst xs)) H' → u (Ends.mk nx rt bk ct) (σ.set i (some v)) H') : tSeq (tAsg (tBM0 K "list" rPop to) (gName i)) u (Ends.mk nx rt bk ct) σ H := by
  have st := stab0 G0 H0
  refine e1 G H (Same.refl _) s _ fun w G1 H1 s1 ew => ?_
  obtain rfl := (show _ = _ from ew)
  have d1 : H1 D = some (.lst (xs ++ [v])) := st.sub s1.s _ _ (s1.g _ _ gD)
  refine ⟨.inl ⟨rfl, _, SqL.of d1⟩, D, xs ++ [v], v, rfl, rfl, d1, by simp, ?_⟩
  rw [List.dropLast_concat]
  exact h G1 _ s1.g (p_chg hs hD0 s1.s _)
/-- o.f = .., o told -/
theorem q_fldP {C dx : Addr} {fs : List (Str × V)} {f : Str} (hs : Same G0 H0) (hD0 : H0 D = none) (hC : Cls K C) (hN : NoAttr K C f) (s : SP0 G0 H0 n G H) (gD : G D = some (.ins C dx fs)) (hl : fs.length < 1000) (e2 : Ev (SP0 G0 H0) n kb tv σ G R) (e1 : ∀ G', Same G G' → Ev (SP0 G0 H0) (n + kb) ka to σ G' (IsV (.ref D)))
    (h : ∀ v G' H', R v G' → Same G G' → SP0 G0 H0 (n + kb + ka) (upd G' D (.ins C dx (putF f v fs))) H' → u (Ends.mk nx rt bk ct) σ H') : tSeq (sFld K to tv f) u (Ends.mk nx rt bk ct) σ H := by
  have st := stab0 G0 H0
  refine e2 G H (Same.refl _) s _ fun v G1 H1 s1 ev => ?_
  refine e1 G1 s1.g G1 H1 (Same.refl _) s1.s _ fun w G2 H2 s2 ew => ?_
  obtain rfl := (show _ = _ from ew)
  have z := st.anti s1.s s2.s s2.g
  exact ⟨D, C, dx, fs, rfl, st.sub s2.s _ _ (s2.g _ _ (s1.g _ _ gD)), hC, hN, hl, h v G1 _ ev s1.g (p_chg hs hD0 z _)⟩
end
/-! ### the pile -/
def Wi.dat : Wi → PyData
  | .term => .tuple [.str "term"]
  | .name => .tuple [.str "name"]
  | .count => .tuple [.str "count"]
  | .form => .tuple [.str "form"]
  | .close => .tuple [.str "close"]
  | .opn => .tuple [.str "open"]
  | .prc => .tuple [.str "procedure"]
  | .prcs => .tuple [.str "procedures"]
  | .wd s => .tuple [.str "word", .str s]
  | .bld w k => .tuple [.str "build", .str w, .int (k : Nat)]
def pilM : List Str := ["wish", "settle", "meets", "meets_bracket"]
def pilF : List Str := ["wishes", "read_values", "open_count"]
structure PilG (C x W U : Addr) (ws : List Wi) (vs : List PyData) (oc : Int) (G : Hp) : Prop where
  i : ∃ dx fs, G x = some (.ins C dx fs) ∧ fs.lookup ("wishes" : Str) = some (.ref W) ∧ fs.lookup ("read_values" : Str) = some (.ref U) ∧ fs.lookup ("open_count" : Str) = some (.int oc) ∧ (∀ f ∈ pilM, fs.lookup f = none) ∧ fs.length ≤ 10
  w : ∃ lw, G W = some (.lst lw) ∧ IsDts (ws.reverse.map Wi.dat) lw G
  v : ∃ lv, G U = some (.lst lv) ∧ IsDts vs.reverse lv G
  n : W ≠ U
structure PlIn (C x W U : Addr) (G0 H0 G H : Hp) (ws : List Wi) (vs : List PyData) (oc : Int) : Prop where
  hs : Same G0 H0
  x0 : H0 x = none
  w0 : H0 W = none
  v0 : H0 U = none
  p : PilG C x W U ws vs oc G
  g : Grow G0 H0 G H
/-- what does not belong to the pile stays -/
def OnlyX (x W U : Addr) (G G' : Hp) : Prop := ∀ b o, b ≠ x → b ≠ W → b ≠ U → G b = some o → G' b = some o
theorem PilG.mono {C x W U : Addr} {ws : List Wi} {vs : List PyData} {oc : Int} {G G' : Hp} (h : PilG C x W U ws vs oc G) (s : Same G G') : PilG C x W U ws vs oc G' := by
  obtain ⟨⟨dx, fs, a, b, c, d, e, f⟩, ⟨lw, g, i⟩, ⟨lv, j, k⟩, n⟩ := h
  exact ⟨⟨dx, fs, s _ _ a, b, c, d, e, f⟩, ⟨lw, s _ _ g, Mons.mon s i⟩, ⟨lv, s _ _ j, Mons.mon s k⟩, n⟩
/-- the pile's class -/
structure PilC (K : PySem.W.Frag) (C : Addr) : Prop where
  c : Cls K C
  n : ∀ f ∈ pilF, NoAttr K C f
theorem dts_get {G : Hp} : ∀ {as : List PyData} {xs : List V} {i : Nat} {d : PyData}, IsDts as xs G → as[i]? = some d → ∃ v, xs[i]? = some v ∧ IsDt d v G
  | [], _, i, d, _, e => by simp at e
  | a :: r, _, 0, d, ⟨v, w, e, h1, h2⟩, h => by
    subst e
    obtain rfl := Option.some.inj h
    exact ⟨v, rfl, h1⟩
  | a :: r, _, i + 1, d, ⟨v, w, e, h1, h2⟩, h => by
    subst e
    exact dts_get (as := r) (i := i) h2 h
theorem sameT_updO {G : Hp} {D : Addr} {o o' : HO} (h : G D = some o) (n : ∀ ys, o ≠ .tup ys) : SameT G (upd G D o') := fun a ys e => by
  rw [upd_ne (fun z => by rw [z, h] at e; exact n ys (Option.some.inj e))]
  exact e
theorem PilG.push {C x W U : Addr} {ws : List Wi} {vs : List PyData} {oc : Int} {G : Hp} {w : Wi} {v : V} {lw : List V} (h : PilG C x W U ws vs oc G) (gw : G W = some (.lst lw)) (hv : IsDt w.dat v G) : PilG C x W U (w :: ws) vs oc (upd G W (.lst (lw ++ [v]))) := by
  obtain ⟨⟨dx, fs, a, b, c, d, e, f⟩, ⟨lw', g, i⟩, ⟨lv, j, k⟩, n⟩ := h
  obtain rfl : lw' = lw := by
    rw [gw] at g
    exact (HO.lst.inj (Option.some.inj g)).symm
  have s : SameT G (upd G W (.lst (lw' ++ [v]))) := sameT_updO gw fun ys e => by cases e
  have xW : x ≠ W := fun z => by rw [z, gw] at a; cases a
  refine ⟨⟨dx, fs, by rw [upd_ne xW]; exact a, b, c, d, e, f⟩, ⟨_, upd_same, ?_⟩, ⟨lv, by rw [upd_ne (Ne.symm n)]; exact j, dts_monT s _ k⟩, n⟩
  rw [List.reverse_cons, List.map_append]
  exact dts_app (dts_monT s _ i) (dts_one (dt_monT s _ hv))
theorem OnlyX.trans {x W U U' : Addr} {G G1 G2 : Hp} (a : OnlyX x W U G G1) (b : OnlyX x W U' G1 G2) (h : ∀ b o, G b = some o → b ≠ U') : OnlyX x W U G G2 := fun c o h1 h2 h3 e => b c o h1 h2 (h c o e) (a c o h1 h2 h3 e)
def sp_wish (C : Addr) : Sp := fun as H Q E => ∃ x W U G0 H0 G ws vs oc p lp l, as = [.ref x, .ref p] ∧ PlIn C x W U G0 H0 G H ws vs oc ∧ G p = some (.lst lp) ∧ IsDts (l.map Wi.dat) lp G ∧ p ≠ W ∧ p ≠ U ∧ l.length ≤ 10 ∧ ws.length ≤ 90000 ∧
  ∀ G' H', PlIn C x W U G0 H0 G' H' (l ++ ws) vs oc → OnlyX x W U G G' → Q .non H'
theorem PilG.ne {C x W U : Addr} {ws : List Wi} {vs : List PyData} {oc : Int} {G : Hp} (h : PilG C x W U ws vs oc G) {b : Addr} {o : HO} (e : G b = some o) (n1 : ∀ xs, o ≠ .lst xs) (n2 : ∀ c d f, o ≠ .ins c d f) : b ≠ x ∧ b ≠ W ∧ b ≠ U := by
  obtain ⟨⟨dx, fs, a, _⟩, ⟨lw, g, _⟩, ⟨lv, j, _⟩, _⟩ := h
  refine ⟨fun z => ?_, fun z => ?_, fun z => ?_⟩
  · rw [z, a] at e
    exact n2 _ _ _ (Option.some.inj e).symm
  · rw [z, g] at e
    exact n1 _ (Option.some.inj e).symm
  · rw [z, j] at e
    exact n1 _ (Option.some.inj e).symm
theorem OnlyX.t {C x W U : Addr} {ws : List Wi} {vs : List PyData} {oc : Int} {G G' : Hp} (h : PilG C x W U ws vs oc G) (o : OnlyX x W U G G') : SameT G G' := fun a ys e => by
  obtain ⟨n1, n2, n3⟩ := h.ne e (fun _ z => by cases z) (fun _ _ _ z => by cases z)
  exact o a _ n1 n2 n3 e
/-- all but the object at D stays -/
def OnlyL (D : Addr) (G G' : Hp) : Prop := ∀ b o, b ≠ D → G b = some o → G' b = some o
section
variable {n n0 ka kb i j : Nat} {te to tv : TE} {u : TS} {σ : L2.St} {G H G0 H0 : Hp} {nx bk ct : L2.St → Hp → Prop} {rt : VK} {D a : Addr} {xs : List V} {K : PySem.W.Frag} {x0 x1 x2 : V}
/-- i, j = l.pop()[1:], l told, its last one a tuple of three -/
theorem q_popS2 (hs : Same G0 H0) (hD0 : H0 D = none) (s : SP0 G0 H0 n G H) (gD : G D = some (.lst (xs ++ [.ref a]))) (ga : G a = some (.tup [x0, x1, x2])) (e1 : Ev (SP0 G0 H0) n ka to σ G (IsV (.ref D)))
    (h : ∀ G' H', OnlyL D G G' → G' D = some (.lst xs) → SP0 G0 H0 (n + ka) G' H' → u (Ends.mk nx rt bk ct) ((σ.set i (some x1)).set j (some x2)) H') : tSeq (tAsg (tSl (rSlA K) (tBM0 K "list" rPop to) (tPart (tC (.int 1))) tNoPart) (gTup K 2 (gCons (gName i) (gCons (gName j) gNil)))) u (Ends.mk nx rt bk ct) σ H := by
  have st := stab0 G0 H0
  refine e1 G H (Same.refl _) s _ fun w G1 H1 s1 ew => ?_
  obtain rfl := (show _ = _ from ew)
  have d1 : H1 D = some (.lst (xs ++ [.ref a])) := st.sub s1.s _ _ (s1.g _ _ gD)
  have s2 := p_chg hs hD0 s1.s (.lst xs)
  have aD : a ≠ D := fun z => by rw [z, gD] at ga; cases ga
  have g2 : upd G1 D (.lst xs) a = some (.tup [x0, x1, x2]) := by rw [upd_ne aD]; exact s1.g _ _ ga
  refine ⟨.inl ⟨rfl, _, SqL.of d1⟩, D, xs ++ [.ref a], .ref a, rfl, rfl, d1, by simp, ?_⟩
  rw [List.dropLast_concat]
  refine ⟨1, rfl, a, _, rfl, SqT.of (st.sub s2 _ _ g2), fun hw => ?_, fun _ p hp => ?_⟩
  · have h1 : HT.sIx 3 0 (some ((1 : Nat) : Int)) = 1 := by rw [HT.sIx_nat]; decide
    have h0 : HT.sIx 3 0 (some ((1 : Nat) : Int)) = 0 := hw.1
    rw [h1] at h0
    cases h0
  · have t := st.new (o := .tup [x1, x2]) s2 hp
    refine ⟨p, [x1, x2], rfl, SqT.of (by rw [show cutV [x0, x1, x2] (some 1) none = [x1, x2] from cutV_1]; exact upd_same), rfl, _, _, rfl, _, _, rfl, rfl, ?_⟩
    rw [show cutV [x0, x1, x2] (some 1) none = [x1, x2] from cutV_1]
    have tg := t.g
    refine h (upd (upd G1 D (.lst xs)) p (.tup [x1, x2])) _ (fun b o hb e => tg b o (by rw [upd_ne hb]; exact s1.g _ _ e)) (tg D _ upd_same) t.s
end
/-- enough values for the builds on the stack -/
def wfS : List Wi → Nat → Prop
  | [], _ => True
  | .bld _ k :: r, n => k ≤ n ∧ wfS r (n - k + 1)
  | .term :: r, n => wfS r (n + 1)
  | .name :: r, n => wfS r (n + 1)
  | .count :: r, n => wfS r (n + 1)
  | .form :: r, n => wfS r (n + 1)
  | .close :: r, n => wfS r n
  | .opn :: r, n => wfS r n
  | .wd _ :: r, n => wfS r n
  | .prc :: r, _ => r = []
  | .prcs :: r, _ => r = []
def sp_settle (C : Addr) : Sp := fun as H Q E => ∃ x W U G0 H0 G ws vs oc, as = [.ref x] ∧ PlIn C x W U G0 H0 G H ws vs oc ∧ wfS ws vs.length ∧ ws.length + vs.length ≤ 90000 ∧
  ∀ G' H' U', PlIn C x W U' G0 H0 G' H' (settle ws vs).1 (settle ws vs).2 oc → OnlyX x W U G G' → (U' = U ∨ G U' = none) → Q .non H'
def isBld : List Wi → Bool
  | .bld _ _ :: _ => true
  | _ => false
theorem settle_no {ws : List Wi} {vs : List PyData} (h : isBld ws = false) : settle ws vs = (ws, vs) := by
  cases ws with
  | nil => rfl
  | cons w r => cases w with
    | bld a k => cases h
    | _ => rfl
/-- t + u, both told -/
theorem v_catTq {S : SR} {G : Hp} {K : PySem.W.Frag} {p q : Addr} {xs ys : List V} (st : Stab S) (h1 : G p = some (.tup xs)) (h2 : G q = some (.tup ys)) (hl : xs.length + ys.length ≤ 100000) : RV S (rCatA K) (.ref p) (.ref q) G (IsTp (xs ++ ys)) := fun n G1 H1 s0 s Q k => by
  have a1 := st.sub s _ _ (s0 _ _ h1)
  have a2 := st.sub s _ _ (s0 _ _ h2)
  refine ⟨p, q, xs, ys, rfl, rfl, SqT.of a1, SqT.of a2, Nat.le_trans hl (by decide), fun e => ?_, fun _ e => ?_, fun _ _ r hr => ?_⟩
  · exact k _ G1 H1 (Stp.refl s) ⟨q, rfl, by rw [e]; exact s0 _ _ h2⟩
  · exact k _ G1 H1 (Stp.refl s) ⟨p, rfl, by rw [e, List.append_nil]; exact s0 _ _ h1⟩
  · exact k (.ref r) _ _ (st.new s hr) ⟨r, rfl, upd_same⟩
theorem putF_same {f : Str} {v x : V} : ∀ {fs : List (Str × V)}, fs.lookup f = some x → (putF f v fs).length = fs.length
  | [], h => by cases h
  | (g, y) :: r, h => by
    unfold putF
    by_cases e : g = f
    · rw [if_pos e]
      rfl
    · rw [if_neg e, List.length_cons, List.length_cons]
      have : (f == g) = false := by
        rw [beq_eq_false_iff_ne]
        exact fun z => e z.symm
      rw [List.lookup_cons, this] at h
      rw [putF_same h]
def Wi.word : Wi → Str
  | .term => "term" | .name => "name" | .count => "count" | .form => "form" | .close => "close" | .opn => "open" | .prc => "procedure" | .prcs => "procedures" | .wd _ => "word" | .bld _ _ => "build"
def parS (o : Bool) : Str := if o then "(" else ")"
/-- what a parenthesis puts on the pile *in the place of the wish* -/
def mbW : Wi → Bool → Option (List Wi)
  | .term, true => some [.form]
  | .prc, true => some [.wd "to", .name, .term, .close, .bld "" 2, .prcs]
  | .prcs, true => some [.wd "to", .name, .term, .close, .bld "" 2, .prcs]
  | .opn, true => some []
  | .close, false => some []
  | .prcs, false => some []
  | _, _ => none
def sp_mb (C : Addr) : Sp := fun as H Q E => ∃ x W U G0 H0 G ws vs oc w o, as = [.ref x, .str (Wi.word w), .str (parS o)] ∧ PlIn C x W U G0 H0 G H ws vs oc ∧ ws.length ≤ 90000 ∧
  (∀ l, mbW w o = some l → ∀ G' H', PlIn C x W U G0 H0 G' H' (l ++ ws) vs oc → OnlyX x W U G G' → Q (.bl true) H') ∧ (mbW w o = none → ∀ G' H', PlIn C x W U G0 H0 G' H' ws vs oc → OnlyX x W U G G' → Q (.bl false) H')
section
variable {S : SR} {n ka kb : Nat} {te : TE} {t : TA} {u : TS} {σ : L2.St} {G H : Hp} {nx bk ct : L2.St → Hp → Prop} {rt : VK} {C x dx : Addr} {fs : List (Str × V)} {m : Str} {sp : Sp} {dvs : List V} {E : XK} {RA : HRs}
/-- o.m(..) as a statement -/
theorem q_dropM (st : Stab S) (s : S n G H) (gx : G x = some (.ins C dx fs)) (hm : fs.lookup m = none) (e1 : Ev S n ka te σ G (IsV (.ref x))) (e2 : EvA S (n + ka) kb t σ G RA)
    (h : ∀ vs G' H', Stp S (n + (ka + kb)) G H G' H' → RA vs G' → sp (.ref x :: (vs ++ dvs)) H' (fun _ H2 => u (Ends.mk nx rt bk ct) σ H2) E) : tSeq (tDrop (tMeth C m sp dvs E te t)) u (Ends.mk nx rt bk ct) σ H :=
  e1 G H (Same.refl _) s _ fun v G1 H1 s1 ev => by
    obtain rfl := (show _ = _ from ev)
    exact ⟨x, dx, fs, rfl, st.sub s1.s _ _ (s1.g _ _ gx), hm, e2 G1 H1 s1.g s1.s _ fun vs G2 H2 s2 e => h vs G2 H2 (s1.trans s2).up e⟩
end
end L2.DS
/-! The pile meets a token: the plain side, and what Pile.meets is asked. -/
namespace L2.DS
open PySem PySem.Spec PyProof.Rows
theorem opB_mb {w : Wi} {r : List Wi} {vs : List PyData} {oc : Int} : opB w r vs oc = (mbW w true).map fun l => (l ++ r, vs, oc + 1) := by
  cases w <;> rfl
theorem clB_mb {w : Wi} {r : List Wi} {vs : List PyData} {oc : Int} : clB w r vs oc = (mbW w false).map fun l => (l ++ r, vs, oc - 1) := by
  cases w <;> rfl
/-- a fulfilled wish leaves the pile well formed -/
theorem wf_form {s : Str} {r : List Wi} {n : Nat} (h : wfS r (n + 1)) : wfS (fieldsW s ++ (.close :: .bld s (fieldsW s).length :: r)) n := by
  unfold fieldsW
  split
  · exact ⟨by simp, by simpa using h⟩
  · split
    · exact ⟨by simp, by simpa using h⟩
    · split
      · exact ⟨by simp, by simpa using h⟩
      · split
        · exact ⟨by simp, by simpa using h⟩
        · exact ⟨by simp, by simpa using h⟩
theorem fields_len (s : Str) : (fieldsW s).length ≤ 3 := by
  unfold fieldsW
  split
  · simp
  · split
    · simp
    · split
      · simp
      · split <;> simp
theorem wf_step {ws ws' : List Wi} {vs vs' : List PyData} {oc oc' : Int} {tok : Str} (h : wfS ws vs.length) (e : stepC ws vs oc tok = some (ws', vs', oc')) : wfS ws' vs'.length ∧ ws'.length + vs'.length ≤ ws.length + vs.length + 5 := by
  cases ws with
  | nil => cases e
  | cons w r =>
    rw [stepC_cons] at e
    split at e
    · cases e
    · split at e
      · split at e
        · cases e
        · cases w <;> simp only [opB] at e <;> first | (cases e; done) | (obtain ⟨rfl, rfl, rfl⟩ := Prod.mk.inj (Option.some.inj e) |>.imp id Prod.mk.inj)
          · exact ⟨h, by simp only [List.length_cons]; omega⟩
          · exact ⟨h, by simp only [List.length_cons]; omega⟩
          · exact ⟨⟨by omega, h⟩, by simp only [List.length_cons]; omega⟩
          · exact ⟨⟨by omega, h⟩, by simp only [List.length_cons]; omega⟩
      · split at e
        · cases w <;> simp only [clB] at e <;> first | (cases e; done) | (obtain ⟨rfl, rfl, rfl⟩ := Prod.mk.inj (Option.some.inj e) |>.imp id Prod.mk.inj)
          · exact ⟨h, by simp only [List.length_cons]; omega⟩
          · have h : r = [] := h
            subst h
            exact ⟨trivial, by simp only [List.length_cons, List.length_nil]; omega⟩
        · cases w <;> simp only [tkB] at e <;> first | (cases e; done) | (split at e <;> first | (cases e; done) | (obtain ⟨rfl, rfl, rfl⟩ := Prod.mk.inj (Option.some.inj e) |>.imp id Prod.mk.inj))
          · exact ⟨h, by simp only [List.length_cons]; omega⟩
          · exact ⟨h, by simp only [List.length_cons]; omega⟩
          · exact ⟨h, by simp only [List.length_cons]; omega⟩
          · have l := fields_len tok
            exact ⟨wf_form h, by simp only [List.length_cons, List.length_append]; omega⟩
          · exact ⟨h, by simp only [List.length_cons]; omega⟩
theorem wf_settle : ∀ {ws : List Wi} {vs : List PyData}, wfS ws vs.length → wfS (settle ws vs).1 (settle ws vs).2.length ∧ (settle ws vs).1.length + (settle ws vs).2.length ≤ ws.length + vs.length ∧ ∀ s k r, (settle ws vs).1 ≠ .bld s k :: r := by
  intro ws
  induction ws with
  | nil => exact fun h => ⟨trivial, Nat.le_refl _, fun s k r z => by cases z⟩
  | cons w r ih =>
    intro vs h
    have other : (∀ s k, w ≠ .bld s k) → wfS (settle (w :: r) vs).1 (settle (w :: r) vs).2.length ∧ (settle (w :: r) vs).1.length + (settle (w :: r) vs).2.length ≤ (w :: r).length + vs.length ∧ ∀ s k r', (settle (w :: r) vs).1 ≠ .bld s k :: r' := fun hw => by
      rw [settle_top hw]
      exact ⟨h, Nat.le_refl _, fun s k r' z => hw s k (List.cons.inj z).1⟩
    cases w with
    | bld s k =>
      obtain ⟨hk, h2⟩ := h
      have ln : (mkB s (vs.take k).reverse :: vs.drop k).length = vs.length - k + 1 := by rw [List.length_cons, List.length_drop]
      obtain ⟨a, b, c⟩ := ih (vs := mkB s (vs.take k).reverse :: vs.drop k) (by rw [ln]; exact h2)
      refine ⟨a, Nat.le_trans b ?_, c⟩
      rw [ln, List.length_cons]
      omega
    | _ => exact other fun _ _ z => by cases z
/-- o.meets(token) -/
def sp_meets (C : Addr) : Sp := fun as H Q E => ∃ x W U G0 H0 G ws vs oc tok, as = [.ref x, .str tok] ∧ PlIn C x W U G0 H0 G H ws vs oc ∧ wfS ws vs.length ∧ ws.length + vs.length ≤ 80000 ∧ tok.length ≤ 99000 ∧ PyData.strOk tok = true ∧ (∀ s, Wi.wd s ∈ ws → PyData.strOk s = true) ∧
  (∀ s', stepC (settle ws vs).1 (settle ws vs).2 oc tok = some s' → ∀ G' H' U', PlIn C x W U' G0 H0 G' H' s'.1 s'.2.1 s'.2.2 → OnlyX x W U G G' → (U' = U ∨ G U' = none) → Q (.bl true) H') ∧
  (stepC (settle ws vs).1 (settle ws vs).2 oc tok = none → ∀ G' H', Grow G0 H0 G' H' → OnlyX x W U G G' → Q (.bl false) H')
/-! ### FORMS[token] -/
structure FormsTp (K : PySem.W.Frag) (a : Addr) : Prop where
  t : ∀ z, z ∈ formK → ∃ u : Addr, PySem.W.nsIn K a z = some (some (.ref u)) ∧ ∀ H, SqT K H u ((fieldsW z).map fun w => V.str w.word)
theorem ix_kdK {X : Cx} (K : PySem.W.Frag) (w : World) (hK : X.K = K := by rfl) (hw : X.w = w := by rfl) : IxR X (rIxD K w) := by
  subst hK hw
  exact ix_kdict
theorem v_ixKD {S : SR} {G : Hp} {K : PySem.W.Frag} {w : World} {d u : Addr} {z : Str} (st : Stab S) (hF : FormsAt K w d) (h : PySem.W.nsIn K d z = some (some (.ref u))) : RV S (rIxD K w) (.ref d) (.str z) G (IsV (.ref u)) := by
  obtain ⟨es, n, D⟩ := hF.d
  exact rv_val (fun H s Q q => ⟨d, z, .ref u, rfl, rfl, ⟨es, n, .ref u, D.at_, D.lit, h, rfl⟩, q⟩) st
theorem dat_word {w : Wi} {v : V} {G : Hp} (h : IsDt w.dat v G) : ∃ a xs, v = .ref a ∧ G a = some (.tup (.str w.word :: xs)) := by
  cases w <;> (obtain ⟨a, xs, rfl, ga, v0, r, rfl, e0, _⟩ := h; obtain rfl := (show v0 = _ from e0); exact ⟨a, _, rfl, ga⟩)
section
variable {S : SR} {n ka kb : Nat} {te to tv : TE} {t : TA} {u : TS} {σ : L2.St} {G H : Hp} {nx bk ct : L2.St → Hp → Prop} {rt : VK} {C x dx D : Addr} {fs : List (Str × V)} {m f : Str} {sp : Sp} {dvs : List V} {E : XK} {RA : HRs} {K : PySem.W.Frag} {G0 H0 : Hp}
/-- return o.m(..) -/
theorem q_retM (st : Stab S) (s : S n G H) (gx : G x = some (.ins C dx fs)) (hm : fs.lookup m = none) (e1 : Ev S n ka te σ G (IsV (.ref x))) (e2 : EvA S (n + ka) kb t σ G RA)
    (h : ∀ vs G' H', Stp S (n + (ka + kb)) G H G' H' → RA vs G' → sp (.ref x :: (vs ++ dvs)) H' (fun v H2 => rt v H2) E) : tSeq (tRet (tMeth C m sp dvs E te t)) u (Ends.mk nx rt bk ct) σ H :=
  e1 G H (Same.refl _) s _ fun v G1 H1 s1 ev => by
    obtain rfl := (show _ = _ from ev)
    exact ⟨x, dx, fs, rfl, st.sub s1.s _ _ (s1.g _ _ gx), hm, e2 G1 H1 s1.g s1.s _ fun vs G2 H2 s2 e => h vs G2 H2 (s1.trans s2).up e⟩
/-- o.f += i, o told, i known -/
theorem q_augV {a b : Int} (hs : Same G0 H0) (hD0 : H0 D = none) (hC : Cls K C) (hN : NoAttr K C f) (s : SP0 G0 H0 n G H) (gD : G D = some (.ins C dx fs)) (hf : fs.lookup f = some (.int a)) (hl : fs.length < 1000) (e1 : Ev (SP0 G0 H0) n ka to σ G (IsV (.ref D))) (e2 : Ev (SP0 G0 H0) (n + ka) kb tv σ G (IsV (.int b)))
    (h : ∀ G' H', Same G G' → SP0 G0 H0 (n + ka + kb) (upd G' D (.ins C dx (putF f (.int (a + b)) fs))) H' → u (Ends.mk nx rt bk ct) σ H') : tSeq (sFldAug K to tv rAdd f) u (Ends.mk nx rt bk ct) σ H := by
  have st := stab0 G0 H0
  refine e1 G H (Same.refl _) s _ fun w G1 H1 s1 ew => ?_
  obtain rfl := (show _ = _ from ew)
  refine ⟨D, C, dx, fs, .int a, rfl, st.sub s1.s _ _ (s1.g _ _ gD), hC, hN, hf, e2 G1 H1 s1.g s1.s _ fun v G2 H2 s2 ev => ?_⟩
  obtain rfl := (show _ = _ from ev)
  exact ⟨a, b, rfl, rfl, dx, fs, st.sub s2.s _ _ (s2.g _ _ (s1.g _ _ gD)), hl, h G2 _ (s1.g.trans s2.g) (p_chg hs hD0 s2.s _)⟩
end
theorem word_term {w : Wi} : w.word = "term" → w = .term := by
  cases w with
  | wd s => exact fun z => absurd (show ("word" : Str) = "term" from z) (by decide +kernel)
  | bld s k => exact fun z => absurd (show ("build" : Str) = "term" from z) (by decide +kernel)
  | _ => first | exact fun _ => rfl | exact fun z => absurd z (by decide +kernel)
theorem word_name {w : Wi} : w.word = "name" → w = .name := by
  cases w with
  | wd s => exact fun z => absurd (show ("word" : Str) = "name" from z) (by decide +kernel)
  | bld s k => exact fun z => absurd (show ("build" : Str) = "name" from z) (by decide +kernel)
  | _ => first | exact fun _ => rfl | exact fun z => absurd z (by decide +kernel)
theorem word_count {w : Wi} : w.word = "count" → w = .count := by
  cases w with
  | wd s => exact fun z => absurd (show ("word" : Str) = "count" from z) (by decide +kernel)
  | bld s k => exact fun z => absurd (show ("build" : Str) = "count" from z) (by decide +kernel)
  | _ => first | exact fun _ => rfl | exact fun z => absurd z (by decide +kernel)
theorem word_form {w : Wi} : w.word = "form" → w = .form := by
  cases w with
  | wd s => exact fun z => absurd (show ("word" : Str) = "form" from z) (by decide +kernel)
  | bld s k => exact fun z => absurd (show ("build" : Str) = "form" from z) (by decide +kernel)
  | _ => first | exact fun _ => rfl | exact fun z => absurd z (by decide +kernel)
theorem count_int {s : Str} (h : countB s = true) : PySem.intText? s = some (cval s) ∧ s.length ≤ 640 := by
  unfold countB at h
  rw [Bool.and_eq_true] at h
  obtain ⟨h1, h2⟩ := h
  rw [Bool.not_eq_true', Bool.or_eq_false_iff, Bool.or_eq_false_iff] at h1
  obtain ⟨ne, l60, _⟩ := h1
  have ne := of_decide_eq_false ne
  have l60 := of_decide_eq_false l60
  have hl : s.cps.toList.length = s.length := by
    show s.cps.toList.length = s.cps.size
    simp
  have e := SX.int_S (a := s.cps.toList) (List.all_eq_true.mpr fun c hc => by
    have := of_decide_eq_true (List.all_eq_true.mp h2 c hc)
    simp [this.1, this.2]) (fun z => ne (by rw [← SX.S_tl s, z]; rfl)) (by omega)
  rw [SX.S_tl] at e
  exact ⟨e, by omega⟩
def rIntS : List V → Hp → VK → Prop := fun xs H Q => ∃ a n, xs = [.str a] ∧ PySem.intText? a = some n ∧ a.length ≤ 640 ∧ Q (.int n) H
theorem call_intSt {X : Cx} : CallR X (.type "int") rIntS := call_int_str
theorem c_intS {S : SR} {G : Hp} {s : Str} (st : Stab S) (h : countB s = true) : RC S rIntS [.str s] G (IsV (.int (cval s))) := rc_val (fun H _ Q q => ⟨s, cval s, rfl, (count_int h).1, (count_int h).2, q⟩) st
theorem eqv_word {w : Wi} {tok : Str} : PyData.eqv w.dat (.tuple [.str "word", .str tok]) = (match w with | .wd s => decide (s = tok) | _ => false) := by
  cases w <;> simp [Wi.dat, PyData.eqv, PyData.eqvAll] <;> first | decide +kernel | exact (beq_eq_decide ..) | rfl
theorem wish_ok : PyData.strOk "term" = true ∧ PyData.strOk "name" = true ∧ PyData.strOk "count" = true ∧ PyData.strOk "form" = true ∧ PyData.strOk "close" = true ∧ PyData.strOk "open" = true ∧ PyData.strOk "procedure" = true ∧ PyData.strOk "procedures" = true ∧ PyData.strOk "word" = true := by decide +kernel
theorem wd_shaped {w : Wi} (hb : ∀ s k, w ≠ .bld s k) (hw : ∀ s, w = .wd s → PyData.strOk s = true) : SeqAt.shaped w.dat = true := by
  obtain ⟨k1, k2, k3, k4, k5, k6, k7, k8, k9⟩ := wish_ok
  cases w with
  | bld s k => exact absurd rfl (hb s k)
  | wd s =>
    have e := hw s rfl
    simp [Wi.dat, SeqAt.shaped, PyData.canLay0, PyData.canLayAll0, PyData.depth, PyData.depthAll, k9, e]
  | _ => simp [Wi.dat, SeqAt.shaped, PyData.canLay0, PyData.canLayAll0, PyData.depth, PyData.depthAll, k1, k2, k3, k4, k5, k6, k7, k8]
theorem mem_settle : ∀ {ws : List Wi} {vs : List PyData} {x : Wi}, x ∈ (settle ws vs).1 → x ∈ ws := by
  intro ws
  induction ws with
  | nil => exact fun h => h
  | cons w r ih =>
    intro vs x h
    cases w with
    | bld s k => exact List.mem_cons_of_mem _ (ih (vs := mkB s (vs.take k).reverse :: vs.drop k) h)
    | _ => exact h
section
variable {S : SR} {n k i : Nat} {te el : TE} {σ : L2.St} {G : Hp} {K : PySem.W.Frag} {xs : List V}
/-- [el for x in tuple], any relation -/
theorem ev_lcTR {vs : List Nat} {c1 : Nat} (st : Stab S) (R : Nat → HR) [∀ i, Mon (R i)] (e : Ev S n k te σ G (fun v G' => ∃ p, v = .ref p ∧ SqT K G' p xs)) (hl : xs.length ≤ 100000)
    (hs : ∀ j x G', xs[j]? = some x → Same G G' → Ev S (n + k + c1 * j) c1 el ((wipe σ vs).set i (some x)) G' (R j)) (hw : ∀ x : V, wipe ((wipe σ vs).set i (some x)) vs = wipe σ vs) :
    Ev S n (k + c1 * xs.length) (tLc (iTup K te) (gName i) tYes el vs) σ G (IsLN G xs.length R) := fun G1 H1 s0 s Q q =>
  e G1 H1 s0 s _ fun v G2 H2 s2 ⟨p, ev, hp2⟩ => ⟨p, ev, ⟨xs, same_t (st.sub s2.s) hp2⟩, fun D hD =>
    lc_tup (K := K) (a := p) (xs := xs) (LcP S G2 H2 (n + k) c1 R D) (lc_start st s2.s hD) (fun j J _ ⟨G3, acc, a, _⟩ => same_t (a.g.trans (st.sub a.s)) hp2)
      (fun j x J hx h => ⟨hw x, lc_turn st s2.s hD h (by have := (List.getElem?_eq_some_iff.mp hx).1; omega) (fun G' g => hs j x G' hx ((s0.trans s2.g).trans g)) fun _ h => h⟩)
      fun J h => lc_end st s2 hD h fun v G' H' a b => q v G' H' (by rw [← Nat.add_assoc]; exact a) (b.wk s0)⟩
end
/-- the j-th of what is told -/
def IsDj (ds : List PyData) (j : Nat) : HR := fun v G => ∃ d, ds[j]? = some d ∧ IsDt d v G
instance (ds : List PyData) (j : Nat) : Mon (IsDj ds j) := ⟨fun s ⟨d, e, h⟩ => ⟨d, e, Mon.mon s h⟩⟩
theorem dts_of {G : Hp} : ∀ {ds : List PyData} {xs : List V}, xs.length = ds.length → (∀ i y, xs[i]? = some y → IsDj ds i y G) → IsDts ds xs G
  | [], [], _, _ => rfl
  | [], x :: r, l, _ => by cases l
  | d :: r, [], l, _ => by cases l
  | d :: r, x :: t, l, h => by
    obtain ⟨d', e, h0⟩ := h 0 x rfl
    obtain rfl := Option.some.inj e
    exact ⟨x, t, rfl, h0, dts_of (Nat.succ.inj l) fun i y e => by
      obtain ⟨d2, e2, h2⟩ := h (i + 1) y e
      exact ⟨d2, e2, h2⟩⟩
theorem fields_dat {s : Str} {w : Wi} (h : w ∈ fieldsW s) : w.dat = .tuple [.str w.word] := by
  unfold fieldsW at h
  split at h
  · simp at h
    subst h
    rfl
  · split at h
    · simp at h
      rcases h with rfl | rfl <;> rfl
    · split at h
      · simp at h
        subst h
        rfl
      · split at h
        · simp at h
          rcases h with rfl | rfl <;> rfl
        · simp at h
          subst h
          rfl
end L2.DS
/-! read_all: the reader's run over tokens with their places. -/
namespace L2.DS
open PySem PySem.Spec PyProof.Rows
/-- the first token that is not allowed, or what is read -/
def readM : List (Str × Nat) → Ms → Nat ⊕ List PyData
  | [], s => .inr s.2.1
  | p :: r, s =>
    if p.1 = "" ∧ (settle s.1 s.2.1).1 = [] then .inr (settle s.1 s.2.1).2
    else match stepC (settle s.1 s.2.1).1 (settle s.1 s.2.1).2 s.2.2 p.1 with
      | none => .inl p.2
      | some s' => readM r s'
theorem readM_cons {p : Str × Nat} {r : List (Str × Nat)} {s : Ms} : readM (p :: r) s = if p.1 = "" ∧ (settle s.1 s.2.1).1 = [] then .inr (settle s.1 s.2.1).2 else (match stepC (settle s.1 s.2.1).1 (settle s.1 s.2.1).2 s.2.2 p.1 with | none => .inl p.2 | some s' => readM r s') := by
  rfl
theorem wd_step {ws ws' : List Wi} {vs vs' : List PyData} {oc oc' : Int} {tok : Str} (h : ∀ s, Wi.wd s ∈ ws → PyData.strOk s = true) (e : stepC ws vs oc tok = some (ws', vs', oc')) : ∀ s, Wi.wd s ∈ ws' → PyData.strOk s = true := by
  have kt : PyData.strOk "to" = true := by decide +kernel
  have fm : ∀ {s z : Str}, Wi.wd s ∉ fieldsW z := fun {s z} hm => by
    unfold fieldsW at hm
    split at hm
    · simp at hm
    · split at hm
      · simp at hm
      · split at hm
        · simp at hm
        · split at hm <;> simp at hm
  cases ws with
  | nil => cases e
  | cons w r =>
    have hr : ∀ s, Wi.wd s ∈ r → PyData.strOk s = true := fun s hs => h s (List.mem_cons_of_mem _ hs)
    rw [stepC_cons] at e
    split at e
    · cases e
    · split at e
      · split at e
        · cases e
        · cases w <;> simp only [opB] at e <;> first | (cases e; done) | (obtain ⟨rfl, rfl, rfl⟩ := Prod.mk.inj (Option.some.inj e) |>.imp id Prod.mk.inj)
          · intro s hs
            simp at hs
            exact hr s hs
          · exact hr
          · intro s hs
            simp at hs
            rcases hs with rfl | hs
            · exact kt
            · exact hr s hs
          · intro s hs
            simp at hs
            rcases hs with rfl | hs
            · exact kt
            · exact hr s hs
      · split at e
        · cases w <;> simp only [clB] at e <;> first | (cases e; done) | (obtain ⟨rfl, rfl, rfl⟩ := Prod.mk.inj (Option.some.inj e) |>.imp id Prod.mk.inj)
          · exact hr
          · exact hr
        · cases w <;> simp only [tkB] at e <;> first | (cases e; done) | (split at e <;> first | (cases e; done) | (obtain ⟨rfl, rfl, rfl⟩ := Prod.mk.inj (Option.some.inj e) |>.imp id Prod.mk.inj))
          · exact hr
          · exact hr
          · exact hr
          · intro s hs
            simp at hs
            rcases hs with hs | hs
            · exact absurd hs fm
            · exact hr s hs
          · exact hr
/-! ### tokens of a text -/
theorem tkAt_ok {l : List Nat} {P : Nat → Prop} (hl : ∀ c ∈ l, P c) (h0 : P 0) : ∀ j, (∀ p ∈ (tkAt l j).1, p.1.length ≤ j ∧ ∀ c ∈ p.1.cps.toList, P c) ∧ (tkAt l j).2.1.length ≤ j ∧ ∀ c ∈ (tkAt l j).2.1.cps.toList, P c
  | 0 => ⟨fun p h => absurd h (by simp [tkAt]), Nat.le_refl 0, fun c h => absurd (show c ∈ ([] : List Nat) from h) (by simp)⟩
  | j + 1 => by
    obtain ⟨a, b, d⟩ := tkAt_ok hl h0 j
    have hc : P (l.getD j 0) := by
      rw [List.getD_eq_getElem?_getD]
      cases e : l[j]? with
      | none => exact h0
      | some c => exact hl c (List.mem_of_getElem? e)
    unfold tkAt tkStep
    split
    · refine ⟨fun p hp => ?_, Nat.zero_le _, fun c h => absurd (show c ∈ ([] : List Nat) from h) (by simp)⟩
      rcases List.mem_append.mp hp with hp | hp
      · rcases List.mem_append.mp hp with hp | hp
        · exact ⟨Nat.le_succ_of_le (a p hp).1, (a p hp).2⟩
        · split at hp
          · cases hp
          · obtain rfl := List.mem_singleton.mp hp
            exact ⟨Nat.le_succ_of_le b, d⟩
      · split at hp
        · cases hp
        · obtain rfl := List.mem_singleton.mp hp
          exact ⟨Nat.succ_le_succ (Nat.zero_le _), fun c h => by
            obtain rfl := List.mem_singleton.mp (show c ∈ [l.getD j 0] from h)
            exact hc⟩
    · refine ⟨fun p hp => ⟨Nat.le_succ_of_le (a p hp).1, (a p hp).2⟩, ?_, fun c h => ?_⟩
      · show Str.length (_ ++ _) ≤ _
        rw [Str.length_append]
        exact Nat.succ_le_succ b
      · have h : c ∈ ((tkAt l j).2.1 ++ (⟨#[l.getD j 0]⟩ : Str)).cps.toList := h
        rw [show ((tkAt l j).2.1 ++ (⟨#[l.getD j 0]⟩ : Str)).cps.toList = (tkAt l j).2.1.cps.toList ++ [l.getD j 0] from Array.toList_append ..] at h
        rcases List.mem_append.mp h with h | h
        · exact d c h
        · obtain rfl := List.mem_singleton.mp h
          exact hc
theorem strOk_iff {s : Str} : PyData.strOk s = true ↔ ∀ c ∈ s.cps.toList, c < 0x110000 := by
  unfold PyData.strOk
  rw [Array.all_eq_true_iff_forall_mem]
  exact ⟨fun h c hc => of_decide_eq_true (h c (by simpa using hc)), fun h c hc => decide_eq_true (h c (by simpa using hc))⟩
theorem toks_ok {s : Str} (hs : PyData.strOk s = true) : ∀ p ∈ toksP s, p.1.length ≤ s.length + 1 ∧ PyData.strOk p.1 = true := by
  intro p hp
  have hs := strOk_iff.mp hs
  have hl : ∀ c ∈ s.cps.toList ++ [32], c < 0x110000 := fun c hc => by
    rcases List.mem_append.mp hc with h | h
    · exact hs c h
    · obtain rfl := List.mem_singleton.mp h
      decide
  rcases List.mem_append.mp hp with h | h
  · obtain ⟨a, b⟩ := (tkAt_ok hl (by decide) (s.length + 1)).1 p h
    exact ⟨a, strOk_iff.mpr b⟩
  · obtain rfl := List.mem_singleton.mp h
    exact ⟨Nat.zero_le _, show PyData.strOk "" = true by decide +kernel⟩
/-! ### Pile(wishes) -/
def pilFs (W U : Addr) : List (Str × V) := [("wishes", .ref W), ("read_values", .ref U), ("open_count", .int 0)]
def RPil (F : Hp) (l : List Wi) : OR := fun _ _ fs' G' => Same F G' ∧ ∃ W U lw, fs' = pilFs W U ∧ F W = none ∧ F U = none ∧ W ≠ U ∧ G' W = some (.lst lw) ∧ IsDts (l.reverse.map Wi.dat) lw G' ∧ G' U = some (.lst [])
def PPil (C0 : Addr) : Addr → List (Str × V) → List V → Hp → OR → Prop := fun C fs rest G R => ∃ F p lp l, C = C0 ∧ rest = [.ref p] ∧ fs = [] ∧ Same F G ∧ G p = some (.lst lp) ∧ IsDts (l.map Wi.dat) lp G ∧ l.length ≤ 10 ∧ R = RPil F l
section
variable {S : SR} {n n0 ka kb k i : Nat} {te to tv : TE} {t : TA} {tb u t1 t2 : TS} {σ : L2.St} {G H G0 H0 : Hp} {nx bk ct : L2.St → Hp → Prop} {rt : VK} {C x dx D : Addr} {fs : List (Str × V)} {m f : Str} {sp : Sp} {dvs : List V} {E : XK} {RA : HRs} {K : PySem.W.Frag} {g : TG} {l : List Wi}
/-- the new pile, told -/
theorem pile_new {v : V} {G1 H1 : Hp} (hs : Same G H) (st0 : Stp (SP0 G H) n G H G1 H1) (r : IsO C (RPil G l) v G1) :
    ∃ x W U, v = .ref x ∧ PlIn C x W U G H G1 H1 l [] 0 := by
  obtain ⟨x, dx, fs, G', rfl, gx, s1, sG, W, U, lw, rfl, gW, gU, nWU, eW, dW, eU⟩ := r
  have hx : G1 x = some (.ins C dx (pilFs W U)) := s1 _ _ upd_same
  have gr : Grow G H G1 H1 := st0.s
  have fr : ∀ {b : Addr} {o : HO}, G b = none → G1 b = some o → H b = none := fun {b o} e1 e2 => by
    rcases gr.n b o e2 with z | z
    · rw [e1] at z
      cases z
    · exact z
  have nx : ∀ {b : Addr} {o : HO}, G' b = some o → b ≠ x := fun {b o} e z => by
    rw [z, gx] at e
    cases e
  have sG1 : Same G' G1 := fun b o e => s1 b o (by rw [upd_ne (nx e)]; exact e)
  refine ⟨x, W, U, rfl, hs, fr (sG.free gx) hx, fr gW (sG1 _ _ eW), fr gU (sG1 _ _ eU), ⟨⟨dx, _, hx, rfl, rfl, rfl, ?_, by show 3 ≤ 10; decide⟩, ⟨lw, sG1 _ _ eW, ?_⟩, ⟨[], sG1 _ _ eU, rfl⟩, nWU⟩, gr⟩
  · intro f hf
    revert f
    show ∀ f ∈ pilM, (pilFs W U).lookup f = none
    unfold pilM pilFs
    intro f hf
    have k : ∀ f ∈ (["wish", "settle", "meets", "meets_bracket"] : List Str), (f == ("wishes" : Str)) = false ∧ (f == ("read_values" : Str)) = false ∧ (f == ("open_count" : Str)) = false := by decide +kernel
    obtain ⟨a, b, c⟩ := k f hf
    rw [List.lookup_cons, a, List.lookup_cons, b, List.lookup_cons, c]
    rfl
  · exact Mons.mon sG1 dW
/-- for .. in e, e a list that is made for it; the turns keep Pv -/
theorem q_forLI {R : HR} (st : Stab S) (s : S n G H) (e : Ev S n k te σ G R)
    (hb : ∀ v G2 H2, Stp S (n + k) G H G2 H2 → R v G2 → ∃ (p : Addr) (xs : List V) (Pv : Nat → L2.St → Hp → Prop), v = .ref p ∧ G2 p = some (.lst xs) ∧ Pv 0 σ H2 ∧ (∀ j τ J, j ≤ xs.length → Pv j τ J → J p = some (.lst xs)) ∧
      (∀ j y τ J, xs[j]? = some y → Pv j τ J → g y τ J fun σ2 J2 => tb (Ends.mk (Pv (j + 1)) rt (u (Ends.mk nx rt bk ct)) (Pv (j + 1))) σ2 J2) ∧ ∀ τ J, Pv xs.length τ J → u (Ends.mk nx rt bk ct) τ J) : tSeq (tFor (iList K te) g tb) u (Ends.mk nx rt bk ct) σ H := by
  refine e G H (Same.refl _) s _ fun v G1 H1 s1 ev => ?_
  obtain ⟨p, xs, Pv, rfl, gp, h0, hl, hs, hd⟩ := hb v G1 H1 s1 ev
  exact ⟨p, rfl, ⟨xs, SqL.of (st.sub s1.s _ _ gp)⟩, for_list (K := K) (a := p) (xs := xs) Pv h0 (fun j τ J hj hp => SqL.of (hl j τ J hj hp)) hs hd⟩
/-- if not o.m(..) -/
theorem q_ifNM (st : Stab S) (s : S n G H) (gx : G x = some (.ins C dx fs)) (hm : fs.lookup m = none) (e1 : Ev S n ka te σ G (IsV (.ref x))) (e2 : EvA S (n + ka) kb t σ G RA)
    (h : ∀ vs G' H', Stp S (n + (ka + kb)) G H G' H' → RA vs G' → sp (.ref x :: (vs ++ dvs)) H' (fun v H2 => ∃ b, v = .bl b ∧ (if (!b) = true then t1 (Ends.mk (u (Ends.mk nx rt bk ct)) rt bk ct) σ H2 else t2 (Ends.mk (u (Ends.mk nx rt bk ct)) rt bk ct) σ H2)) E) : tSeq (tIfS (tNot (tB (tMeth C m sp dvs E te t))) t1 t2) u (Ends.mk nx rt bk ct) σ H :=
  e1 G H (Same.refl _) s _ fun v G1 H1 s1 ev => by
    obtain rfl := (show _ = _ from ev)
    exact ⟨x, dx, fs, rfl, st.sub s1.s _ _ (s1.g _ _ gx), hm, e2 G1 H1 s1.g s1.s _ fun vs G2 H2 s2 e => h vs G2 H2 (s1.trans s2).up e⟩
end
/-- read_all(text, wishes) -/
def sp_rall (CB : Addr) : Sp := fun as H Q E => ∃ G s p lp l, as = [.str s, .ref p] ∧ Same G H ∧ G p = some (.lst lp) ∧ IsDts (l.map Wi.dat) lp G ∧ l.length ≤ 10 ∧ wfS l 0 ∧ (∀ s, Wi.wd s ∈ l → PyData.strOk s = true) ∧ s.length ≤ 99000 ∧ (toksP s).length ≤ 15900 ∧ (∀ q ∈ toksP s, q.1.length ≤ 99000 ∧ PyData.strOk q.1 = true) ∧
  (∀ ds, readM (toksP s) (l, [], 0) = .inr ds → ∀ v G' H', Grow G H G' H' → IsNX G (IsDts ds.reverse) v G' → Q v H') ∧
  (∀ a, readM (toksP s) (l, [], 0) = .inl a → ∀ d G' H', Grow G H G' H' → H' d = none → E (.ref CB) (some d) (upd H' d (.xd [(("at" : Str), .int (a : Nat))])))
end L2.DS
/-! Texts read back: what a term's and a program's tokens give; comprehensions over rows; lists of what is drawn. -/
namespace L2.DS
open PySem PySem.Spec PyProof.Rows
/-! ### tokens are not empty -/
theorem tkAt_ne (l : List Nat) : ∀ j, ∀ p ∈ (tkAt l j).1, ¬ p.1 = ""
  | 0 => fun p h => by cases h
  | j + 1 => by
    have a := tkAt_ne l j
    unfold tkAt tkStep
    split
    · intro p hp
      rcases List.mem_append.mp hp with hp | hp
      · rcases List.mem_append.mp hp with hp | hp
        · exact a p hp
        · split at hp
          · cases hp
          · rename_i hn
            obtain rfl := List.mem_singleton.mp hp
            exact hn
      · split at hp
        · cases hp
        · obtain rfl := List.mem_singleton.mp hp
          intro z
          have z : (⟨#[l.getD j 0]⟩ : Str) = "" := z
          have this : 1 = ("" : Str).length := congrArg Str.length z
          exact absurd this (by decide +kernel)
    · exact a
theorem toks_ne {s : Str} : ∃ ts : List (Str × Nat), toksP s = ts ++ [(("" : Str), s.length)] ∧ (∀ p ∈ ts, ¬ p.1 = "") ∧ ts.map (·.1) = fl (scan s ([], "")) := by
  refine ⟨_, rfl, tkAt_ne _ _, ?_⟩
  have h := toks_words s
  unfold toksP at h
  rw [List.map_append] at h
  exact List.append_cancel_right h
/-! ### the tokens of texts -/
theorem join_cons2 (s a b : Str) (r : List Str) : Txt.join s (a :: b :: r) = a ++ s ++ Txt.join s (b :: r) := by
  rw [show Txt.join s (a :: b :: r) = Str.join s (a :: b :: r) from StrLaws.glued_eq_join _ _, show Txt.join s (b :: r) = Str.join s (b :: r) from StrLaws.glued_eq_join _ _]
  rfl
theorem join_one (s a : Str) : Txt.join s [a] = a := by
  rw [show Txt.join s [a] = Str.join s [a] from StrLaws.glued_eq_join _ _]
  rfl
def tkOk (s : Str) : Prop := s.length ≤ 99000 ∧ PyData.strOk s = true
theorem num_tk {i : Int} (h0 : 0 ≤ i) (h : i < 10 ^ 60) : tkOk (toString i : Str) := by
  obtain ⟨k, rfl⟩ : ∃ k : Nat, i = (k : Nat) := ⟨i.toNat, by omega⟩
  have hk : k < 10 ^ 60 := by
    have : ((k : Nat) : Int) < ((10 ^ 60 : Nat) : Int) := by
      rw [Int.natCast_pow]
      exact h
    exact Int.ofNat_lt.mp this
  have hl : (toString ((k : Nat) : Int) : Str).length ≤ 60 := by
    have := TL.numL_len (n := k) (k := 60) (by decide) hk
    rw [← show (toString ((k : Nat) : Int) : Str).cps.toList = TL.numL k from TL.tl_num k] at this
    exact this
  refine ⟨by omega, strOk_iff.mpr fun c hc => ?_⟩
  have := num_digits k c hc
  unfold fgC at this
  have := of_decide_eq_true this
  omega
/-! ### ends of texts -/
/-! ### comprehensions over rows, lists of what is drawn -/
theorem dts_rl {α : Type} {d : α → PyData} {G : Hp} : ∀ {ss : List α} {xs : List V}, RL (fun a => IsDt (d a)) ss xs G → IsDts (ss.map d) xs G
  | [], _, h => h
  | a :: r, _, ⟨v, w, e, h1, h2⟩ => ⟨v, w, e, h1, dts_rl (ss := r) h2⟩
section
variable {α : Type} {S : SR} {n k n0 i j : Nat} {te el : TE} {t : TA} {u : TS} {σ : L2.St} {G H : Hp} {nx bk ct : L2.St → Hp → Prop} {rt : VK} {K : PySem.W.Frag} {xs : List V} {p : Addr} {g : TG} {R : α → HR}
/-- [el for .. in l], l told row by row, values told by the rows -/
theorem ev_lcRL {vs : List Nat} {R0 : α → HR} {ss : List α} (st : Stab S) (f : α → V) (e : Ev S n k te σ G (IsV (.ref p))) (hq : SqL K G p xs) (rl : RL R0 ss xs G) (hl : ss.length ≤ 100000)
    (hs : ∀ a x, a ∈ ss → R0 a x G → ∃ σ' : L2.St, (∀ G' J, Same G G' → Same G' J → ∀ Q : L2.St → Hp → Prop, Q σ' J → g x (wipe σ vs) J Q) ∧ wipe σ' vs = wipe σ vs ∧ ∀ G', Same G G' → Ev S (n + k) 0 el σ' G' (IsV (f a))) :
    Ev S n k (tLc (iList K te) g tYes el vs) σ G (IsNew G (.lst (ss.map f))) := by
  have lx := rl_len rl
  have key : ∀ j : Nat, ∃ σ' : L2.St, wipe σ' vs = wipe σ vs ∧ ∀ x : V, xs[j]? = some x → ∀ a : α, ss[j]? = some a → (∀ G' J, Same G G' → Same G' J → ∀ Q : L2.St → Hp → Prop, Q σ' J → g x (wipe σ vs) J Q) ∧ ∀ G', Same G G' → Ev S (n + k) 0 el σ' G' (IsV (f a)) := by
    intro j
    by_cases hj : j < ss.length
    · have hg : ss[j]? = some ss[j] := List.getElem?_eq_getElem hj
      obtain ⟨x, hx, hr⟩ := rl_get rl hg
      obtain ⟨σ', h1, h2, h3⟩ := hs _ x (List.getElem_mem hj) hr
      refine ⟨σ', h2, fun x' hx' a ha => ?_⟩
      rw [hx] at hx'
      obtain rfl := Option.some.inj hx'
      rw [hg] at ha
      obtain rfl := Option.some.inj ha
      exact ⟨h1, h3⟩
    · exact ⟨σ, rfl, fun x _ a ha => absurd (List.getElem?_eq_some_iff.mp ha).1 hj⟩
  have ⟨σf, hσ⟩ := Classical.axiomOfChoice key
  have at_ : ∀ {j : Nat} {x : V}, xs[j]? = some x → ∃ a, ss[j]? = some a := fun {j x} hx => by
    have := (List.getElem?_eq_some_iff.mp hx).1
    exact ⟨_, List.getElem?_eq_getElem (by omega)⟩
  refine (ev_lcF (R := fun v : V => IsV v) (b := fun _ => true) (sj := fun j => (ss[j]?.map f).getD .non) (σf := σf) st e hq (by omega) (fun j x G' J hx s1 s2 Q q => ?_) (fun j => (hσ j).1) (fun j x G' _ _ => et_yes) (fun j x G' hx _ s' => ?_)).imp fun v G' _ h => ?_
  · obtain ⟨a, ha⟩ := at_ hx
    exact ((hσ j).2 x hx a ha).1 G' J s1 s2 Q q
  · obtain ⟨a, ha⟩ := at_ hx
    rw [ha]
    exact ((hσ j).2 x hx a ha).2 G' s'
  · rw [filt_true] at h
    have z := isNX_V (f := fun v : V => v) h
    rw [List.map_id'] at z
    have e : (List.range xs.length).map (fun j => (ss[j]?.map f).getD .non) = ss.map f := by
      refine List.ext_getElem? fun j => ?_
      rw [List.getElem?_map, List.getElem?_map]
      by_cases hj : j < ss.length
      · rw [List.getElem?_range (by omega)]
        show some ((Option.map f ss[j]?).getD .non) = _
        rw [List.getElem?_eq_getElem hj]
        rfl
      · rw [List.getElem?_eq_none (by rw [List.length_range]; omega), List.getElem?_eq_none (by omega)]
        rfl
    rw [e] at z
    exact z
def IsEx (P : α → Prop) (R : α → HR) : HR := fun v G => ∃ x, P x ∧ R x v G
instance (P : α → Prop) (R : α → HR) [∀ a, Mon (R a)] : Mon (IsEx P R) := ⟨fun s ⟨x, h, r⟩ => ⟨x, h, Mon.mon s r⟩⟩
/-- D.append(..), what is drawn -/
theorem q_appOx {P : α → Prop} {ss : List α} {D : Addr} {G1 H1 G3 J : Hp} (st : Stab S) [∀ a, Mon (R a)] (a : S n0 G1 H1) (hD : H1 D = none) (h : LcO S G1 H1 n D R ss G3 J) (hl : ss.length < 100000) (hv : σ[j]? = some (some (.ref D))) (e : EvA S n k t σ G3 (RCons (IsEx P R) RNil))
    (hN : ∀ x G4 J', P x → Same G3 G4 → LcO S G1 H1 (n + k) D R (ss ++ [x]) G4 J' → u (Ends.mk nx rt bk ct) σ J') : tSeq (tDrop (tBM K "list" rAppend (tVar j) t)) u (Ends.mk nx rt bk ct) σ J := by
  obtain ⟨s3, c, acc, d, r⟩ := h
  refine ⟨_, hv, .inl ⟨rfl, _, SqL.of d⟩, e G3 J (Same.refl _) s3.s _ fun ws G4 H4 s4 ev => ?_⟩
  obtain ⟨y, _, rfl, ⟨x, px, ry⟩, rn⟩ := ev
  obtain rfl := (show _ = [] from rn)
  have d4 : H4 D = some (.lst acc) := s4.k.k D _ (st.fre a hD) d
  have h4 := LcO.go st a hD ⟨s3, c, acc, d, r⟩ s4
  have lr := rl_len r
  refine ⟨D, acc, y, rfl, rfl, d4, by have : (100000 : Nat) ≤ sizeLine := by decide
                                      omega, ?_⟩
  refine hN x G4 _ px s4.g ⟨⟨h4.s.g, kp_new h4.s.k hD, st.chg a hD h4.s.s h4.d, h4.s.n⟩, h4.d, acc ++ [y], upd_same, rl_app (rl_mon s4.g r) (rl_one ry)⟩
end
/-! ### what the reader and the writer are asked -/
/-- read_term(text) -/
def sp_rtrm (CB : Addr) : Sp := fun as H Q E => ∃ G s, as = [.str s] ∧ Same G H ∧ s.length ≤ 99000 ∧ (toksP s).length ≤ 15900 ∧ (∀ q ∈ toksP s, q.1.length ≤ 99000 ∧ PyData.strOk q.1 = true) ∧
  (∀ ds, readM (toksP s) ([.term], [], 0) = .inr ds → ∃ d r, ds.reverse = d :: r ∧ ∀ v G' H', Grow G H G' H' → IsDt d v G' → Q v H') ∧
  (∀ a, readM (toksP s) ([.term], [], 0) = .inl a → ∀ d G' H', Grow G H G' H' → H' d = none → E (.ref CB) (some d) (upd H' d (.xd [(("at" : Str), .int (a : Nat))])))
/-- read_procedures(text) -/
def sp_rprc (CB : Addr) : Sp := fun as H Q E => ∃ G s, as = [.str s] ∧ Same G H ∧ s.length ≤ 99000 ∧ (toksP s).length ≤ 15900 ∧ (∀ q ∈ toksP s, q.1.length ≤ 99000 ∧ PyData.strOk q.1 = true) ∧
  (∀ ds, readM (toksP s) ([.opn, .wd "program", .prc], [], 0) = .inr ds → ∀ v G' H', Grow G H G' H' → IsNX G (IsDts ds.reverse) v G' → Q v H') ∧
  (∀ a, readM (toksP s) ([.opn, .wd "program", .prc], [], 0) = .inl a → ∀ d G' H', Grow G H G' H' → H' d = none → E (.ref CB) (some d) (upd H' d (.xd [(("at" : Str), .int (a : Nat))])))
end L2.DS
/-! Data of texts, ints, tuples, lists: equal to itself; promises for any of some. -/
namespace L2.DS
open PySem PySem.Spec PyProof.Rows
/-- what is promised for each of some -/
theorem fnOk_ex {ι : Type} {P : Program} {w : World} {K : PySem.W.Frag} {mg : Str → Option Value} {base : Heap} {CX : CXT} {k : Nat} {f : Addr} {fd : FuncData} {ps : List Str} {sp : ι → Sp} {Pi : ι → Prop} (F : ∀ i, Pi i → FnOk P w K mg base CX k f fd ps (sp i)) : FnOk P w K mg base CX k f fd ps (fun vs H Q E => ∃ i, Pi i ∧ sp i vs H Q E) :=
  ⟨fun vs H Q E ⟨i, hi, h⟩ => (F i hi).len vs H Q E h, fun A outer s H args us vs Q E hr he hb hv ⟨i, hi, h⟩ => (F i hi).run A outer s H args us vs Q E hr he hb hv h⟩
theorem tkT_mono {a b : Nat} (h : a ≤ b) : tkT a ≤ tkT b := by
  induction b with
  | zero => obtain rfl : a = 0 := by omega
            exact Nat.le_refl _
  | succ b ih =>
    by_cases e : a = b + 1
    · rw [e]
      exact Nat.le_refl _
    · have := ih (by omega)
      show _ ≤ 2 * tkT b + 5
      omega
theorem TmIn.upN {D C W : Str → Prop} {a b : Nat} {t : Tm} (h : TmIn D C W a t) (hab : a ≤ b) : TmIn D C W b t := by
  induction b with
  | zero => obtain rfl : a = 0 := by omega
            exact h
  | succ b ih =>
    by_cases e : a = b + 1
    · rw [← e]
      exact h
    · exact (ih (by omega)).up
/-- a term of any depth up to M -/
def PTrA (M : Nat) : Addr → List V → Nat → Nat → Hp → HR → Prop := fun sa vs _ k G R => ∃ (p1 p2 p3 : Addr) (D C W : List Str) (m : Nat), vs = [.ref sa, .ref p1, .ref p2, .ref p3, .int (m : Nat)] ∧ m ≤ M ∧ IsNmL p1 D G ∧ IsNmL p2 C G ∧ IsNmL p3 W G ∧ k = tkT M ∧ R = IsTt (TmIn (· ∈ D) (· ∈ C) (· ∈ W) M)
theorem trA_of {M : Nat} {vs : List V} {H : Hp} {Q : VK} {E : XK} (h : spS (PTrA M) vs H Q E) : ∃ m, m ≤ M ∧ spS (PTrm m) vs H Q E := by
  obtain ⟨sa, cl, n, k, G, R, h0, ⟨p1, p2, p3, D, C, W, m, rfl, hm, i1, i2, i3, rfl, rfl⟩, q⟩ := h
  refine ⟨m, hm, sa, cl, n, tkT m, G, _, h0, ⟨p1, p2, p3, D, C, W, rfl, i1, i2, i3, rfl, rfl⟩, fun v G' H' s ⟨t, ht, hv⟩ => q v G' H' (s.wk (stabS sa cl) (by have := tkT_mono hm; omega)) ⟨t, ht.upN hm, hv⟩⟩
end L2.DS
/-! The law's own reading of tokens, and the pile's. -/
namespace L2.DS
open PySem PySem.Spec PyProof.Rows
/-! ### what does not fit -/
theorem no_term {tok : Str} {r : List Wi} {vs : List PyData} {oc : Int} (h1 : ¬ tok = "skip") (h2 : ¬ tok = "(" ∨ oc = 40) : stepC (.term :: r) vs oc tok = none := by
  rw [stepC_cons]
  split
  · rfl
  · split
    · rename_i h
      rw [if_pos (h2.resolve_left (fun z => z h))]
    · split
      · rfl
      · exact if_neg h1
theorem no_close {tok : Str} {r : List Wi} {vs : List PyData} {oc : Int} (h1 : ¬ tok = ")") : stepC (.close :: r) vs oc tok = none := by
  rw [stepC_cons, if_neg h1]
  split
  · rfl
  · split
    · split <;> rfl
    · rfl
theorem no_form {tok : Str} {r : List Wi} {vs : List PyData} {oc : Int} (h1 : ¬ tok ∈ formK) : stepC (.form :: r) vs oc tok = none := by
  rw [stepC_cons]
  split
  · rfl
  · split
    · split <;> rfl
    · split
      · rfl
      · exact if_neg h1
theorem no_name {tok : Str} {r : List Wi} {vs : List PyData} {oc : Int} (h1 : ¬ nameB tok = true) : stepC (.name :: r) vs oc tok = none := by
  rw [stepC_cons]
  split
  · rfl
  · split
    · split <;> rfl
    · split
      · rfl
      · exact if_neg h1
theorem no_count {tok : Str} {r : List Wi} {vs : List PyData} {oc : Int} (h1 : ¬ countB tok = true) : stepC (.count :: r) vs oc tok = none := by
  rw [stepC_cons]
  split
  · rfl
  · split
    · split <;> rfl
    · split
      · rfl
      · exact if_neg h1
theorem no_wd {tok s : Str} {r : List Wi} {vs : List PyData} {oc : Int} (h1 : ¬ tok = s) : stepC (.wd s :: r) vs oc tok = none := by
  rw [stepC_cons]
  split
  · rfl
  · split
    · split <;> rfl
    · split
      · rfl
      · exact if_neg h1
theorem nameB_plain {s : Str} (h : nameB s = true) : Plain s := by
  have k : ∀ x : Str, x ∈ (["", "(", ")"] : List Str) → nameB x = false := by decide +kernel
  exact ⟨fun e => (by rw [e, k _ (by simp)] at h; cases h), fun e => (by rw [e, k _ (by simp)] at h; cases h), fun e => (by rw [e, k _ (by simp)] at h; cases h)⟩
theorem countB_plain {s : Str} (h : countB s = true) : Plain s := by
  have k : ∀ x : Str, x ∈ (["", "(", ")"] : List Str) → countB x = false := by decide +kernel
  exact ⟨fun e => (by rw [e, k _ (by simp)] at h; cases h), fun e => (by rw [e, k _ (by simp)] at h; cases h), fun e => (by rw [e, k _ (by simp)] at h; cases h)⟩
theorem yes_name {s : Str} {r : List Wi} {vs : List PyData} {oc : Int} (h : nameB s = true) : stepC (.name :: r) vs oc s = some (r, .str s :: vs, oc) := by
  have p := nameB_plain h
  rw [stepC_cons, if_neg p.e, if_neg p.o, if_neg p.c]
  exact if_pos h
theorem yes_count {s : Str} {r : List Wi} {vs : List PyData} {oc : Int} (h : countB s = true) : stepC (.count :: r) vs oc s = some (r, .int (cval s) :: vs, oc) := by
  have p := countB_plain h
  rw [stepC_cons, if_neg p.e, if_neg p.o, if_neg p.c]
  exact if_pos h
theorem stepC_ne {ws : List Wi} {vs : List PyData} {oc : Int} {tok : Str} {s' : Ms} (h : stepC ws vs oc tok = some s') : ¬ tok = "" := by
  cases ws with
  | nil => cases h
  | cons w r =>
    rw [stepC_cons] at h
    split at h
    · cases h
    · assumption
/-! ### the law's own reading -/
def rdW (rd : Nat → Option PyData × Nat) (L : List Str) (w : Wi) (p : Nat) : Option PyData × Nat :=
  match w with
  | .term => rd p
  | .name => if nameB (L.getD p "") = true then (some (.str (L.getD p "")), p + 1) else (none, p)
  | .count => if countB (L.getD p "") = true then (some (.int (cval (L.getD p ""))), p + 1) else (none, p)
  | .form => (none, p)
  | .close => (none, p)
  | .opn => (none, p)
  | .prc => (none, p)
  | .prcs => (none, p)
  | .wd _ => (none, p)
  | .bld _ _ => (none, p)
def rdF (rd : Nat → Option PyData × Nat) (L : List Str) : List Wi → List PyData → Nat → Option (List PyData) × Nat
  | [], acc, p => (some acc, p)
  | w :: r, acc, p => match (rdW rd L w p).1 with
    | none => (none, (rdW rd L w p).2)
    | some d => rdF rd L r (acc ++ [d]) (rdW rd L w p).2
def skipD : PyData := .tuple [.str "skip"]
def rdT : Nat → List Str → Nat → Option PyData × Nat
  | 0, L, p => if L.getD p "" = "skip" then (some skipD, p + 1) else (none, p)
  | f + 1, L, p =>
    if L.getD p "" = "skip" then (some skipD, p + 1)
    else if L.getD p "" = "(" then
      (if L.getD (p + 1) "" ∈ formK then
        (match (rdF (rdT f L) L (fieldsW (L.getD (p + 1) "")) [.str (L.getD (p + 1) "")] (p + 2)).1 with
          | none => (none, (rdF (rdT f L) L (fieldsW (L.getD (p + 1) "")) [.str (L.getD (p + 1) "")] (p + 2)).2)
          | some fs => if L.getD (rdF (rdT f L) L (fieldsW (L.getD (p + 1) "")) [.str (L.getD (p + 1) "")] (p + 2)).2 "" = ")" then (some (.tuple fs), (rdF (rdT f L) L (fieldsW (L.getD (p + 1) "")) [.str (L.getD (p + 1) "")] (p + 2)).2 + 1) else (none, (rdF (rdT f L) L (fieldsW (L.getD (p + 1) "")) [.str (L.getD (p + 1) "")] (p + 2)).2))
      else (none, p + 1))
    else (none, p)
/-- tokens with places, the last one empty -/
structure TkL (Lp : List (Str × Nat)) : Prop where
  ex : ∃ (ts : List (Str × Nat)) (n : Nat), Lp = ts ++ [(("" : Str), n)] ∧ ∀ p ∈ ts, ¬ p.1 = ""
theorem toks_tkL (s : Str) : TkL (toksP s) := by
  obtain ⟨ts, e, h, _⟩ := toks_ne (s := s)
  exact ⟨ts, _, e, h⟩
section
variable {Lp : List (Str × Nat)} {p : Nat} {ws r : List Wi} {w : Wi} {v0 vs : List PyData} {oc : Int} {s' : Ms}
def tkA (Lp : List (Str × Nat)) (p : Nat) : Str := (Lp.map (·.1)).getD p ""
def plA (Lp : List (Str × Nat)) (p : Nat) : Nat := (Lp.map (·.2)).getD p 0
theorem tkA_of (hp : p < Lp.length) : tkA Lp p = (Lp[p]).1 ∧ plA Lp p = (Lp[p]).2 := by
  unfold tkA plA
  rw [List.getD_eq_getElem?_getD, List.getElem?_map, List.getElem?_eq_getElem hp, List.getD_eq_getElem?_getD, List.getElem?_map, List.getElem?_eq_getElem hp]
  exact ⟨rfl, rfl⟩
theorem TkL.next (h : TkL Lp) (hp : p < Lp.length) (hn : ¬ tkA Lp p = "") : p + 1 < Lp.length := by
  obtain ⟨ts, n, e, _⟩ := h.ex
  rw [(tkA_of hp).1] at hn
  subst e
  rw [List.length_append] at hp ⊢
  have : ([(("" : Str), n)] : List (Str × Nat)).length = 1 := rfl
  by_cases hl : p < ts.length
  · omega
  · refine absurd ?_ hn
    have e1 : p = ts.length := by omega
    subst e1
    simp
theorem TkL.ne (h : TkL Lp) (hp : p + 1 < Lp.length) : ¬ tkA Lp p = "" := by
  obtain ⟨ts, n, e, hn⟩ := h.ex
  have hp1 : p < Lp.length := by omega
  rw [(tkA_of hp1).1]
  subst e
  rw [List.length_append] at hp
  have hl : p < ts.length := by
    have : ([(("" : Str), n)] : List (Str × Nat)).length = 1 := rfl
    omega
  rw [List.getElem_append_left hl]
  exact hn _ (List.getElem_mem hl)
theorem rdM_fail (hp : p < Lp.length) (hs : settle ws v0 = (w :: r, vs)) (h : stepC (w :: r) vs oc (tkA Lp p) = none) : readM (Lp.drop p) (ws, v0, oc) = .inl (plA Lp p) := by
  obtain ⟨a, b⟩ := tkA_of hp
  rw [List.drop_eq_getElem_cons hp, readM_cons]
  show (if (Lp[p]).1 = "" ∧ (settle ws v0).1 = [] then _ else (match stepC (settle ws v0).1 (settle ws v0).2 oc (Lp[p]).1 with | none => _ | some s' => _)) = _
  rw [hs]
  rw [if_neg (fun z => by cases z.2), ← a, h, b]
theorem rdM_end (hp : p < Lp.length) (hs : settle ws v0 = ([], vs)) (h : ¬ tkA Lp p = "") : readM (Lp.drop p) (ws, v0, oc) = .inl (plA Lp p) := by
  obtain ⟨a, b⟩ := tkA_of hp
  rw [List.drop_eq_getElem_cons hp, readM_cons]
  show (if (Lp[p]).1 = "" ∧ (settle ws v0).1 = [] then _ else (match stepC (settle ws v0).1 (settle ws v0).2 oc (Lp[p]).1 with | none => _ | some s' => _)) = _
  rw [hs, if_neg (fun z => h (a.trans z.1)), b]
  rfl
theorem rdM_stop (hp : p < Lp.length) (hs : settle ws v0 = ([], vs)) (h : tkA Lp p = "") : readM (Lp.drop p) (ws, v0, oc) = .inr vs := by
  obtain ⟨a, b⟩ := tkA_of hp
  rw [List.drop_eq_getElem_cons hp, readM_cons]
  show (if (Lp[p]).1 = "" ∧ (settle ws v0).1 = [] then _ else (match stepC (settle ws v0).1 (settle ws v0).2 oc (Lp[p]).1 with | none => _ | some s' => _)) = _
  rw [hs, if_pos ⟨a.symm.trans h, rfl⟩]
theorem rdM_step (hL : TkL Lp) (hp : p < Lp.length) (hs : settle ws v0 = (w :: r, vs)) (h : stepC (w :: r) vs oc (tkA Lp p) = some s') : p + 1 < Lp.length ∧ readM (Lp.drop p) (ws, v0, oc) = readM (Lp.drop (p + 1)) s' := by
  obtain ⟨a, b⟩ := tkA_of hp
  refine ⟨hL.next hp (stepC_ne h), ?_⟩
  rw [List.drop_eq_getElem_cons hp, readM_cons]
  show (if (Lp[p]).1 = "" ∧ (settle ws v0).1 = [] then _ else (match stepC (settle ws v0).1 (settle ws v0).2 oc (Lp[p]).1 with | none => _ | some s' => _)) = _
  rw [hs]
  rw [if_neg (fun z => by cases z.2), ← a, h]
/-- what a reading of one term says of the machine -/
def RdOk (Lp : List (Str × Nat)) (p : Nat) (ws : List Wi) (v0 : List PyData) (oc : Int) (r : List Wi) (vs : List PyData) (z : Option PyData × Nat) : Prop :=
  (z.1 = none → z.2 < Lp.length ∧ readM (Lp.drop p) (ws, v0, oc) = .inl (plA Lp z.2)) ∧
  ∀ d, z.1 = some d → p < z.2 ∧ z.2 < Lp.length ∧ ∃ w1 v1, readM (Lp.drop p) (ws, v0, oc) = readM (Lp.drop z.2) (w1, v1, oc) ∧ settle w1 v1 = settle r (d :: vs)
theorem RdOk.no {q : Nat} (h1 : q < Lp.length) (h2 : readM (Lp.drop p) (ws, v0, oc) = .inl (plA Lp q)) : RdOk Lp p ws v0 oc r vs (none, q) := ⟨fun _ => ⟨h1, h2⟩, fun d e => (by cases e)⟩
theorem RdOk.yes {q : Nat} {d : PyData} {w1 : List Wi} {v1 : List PyData} (h1 : p < q) (h2 : q < Lp.length) (h3 : readM (Lp.drop p) (ws, v0, oc) = readM (Lp.drop q) (w1, v1, oc)) (h4 : settle w1 v1 = settle r (d :: vs)) : RdOk Lp p ws v0 oc r vs (some d, q) :=
  ⟨fun e => (by cases e), fun d' e => by
    obtain rfl := Option.some.inj e
    exact ⟨h1, h2, w1, v1, h3, h4⟩⟩
/-- the fields of a form -/
theorem rdF_ok (hL : TkL Lp) {rd : Nat → Option PyData × Nat} {oc : Int} (ih : ∀ p ws v0 r vs, p < Lp.length → settle ws v0 = (.term :: r, vs) → RdOk Lp p ws v0 oc r vs (rd p)) :
    ∀ (wl : List Wi), (∀ w ∈ wl, w = .term ∨ w = .name ∨ w = .count) → ∀ (acc : List PyData) (p : Nat) (ws r2 : List Wi) (v0 vs : List PyData), p < Lp.length → settle ws v0 = settle (wl ++ r2) vs →
      ((rdF rd (Lp.map (·.1)) wl acc p).1 = none → (rdF rd (Lp.map (·.1)) wl acc p).2 < Lp.length ∧ readM (Lp.drop p) (ws, v0, oc) = .inl (plA Lp (rdF rd (Lp.map (·.1)) wl acc p).2)) ∧
      ∀ fs', (rdF rd (Lp.map (·.1)) wl acc p).1 = some fs' → p ≤ (rdF rd (Lp.map (·.1)) wl acc p).2 ∧ (rdF rd (Lp.map (·.1)) wl acc p).2 < Lp.length ∧ ∃ fs w1 v1, fs' = acc ++ fs ∧ fs.length = wl.length ∧ readM (Lp.drop p) (ws, v0, oc) = readM (Lp.drop (rdF rd (Lp.map (·.1)) wl acc p).2) (w1, v1, oc) ∧ settle w1 v1 = settle r2 (fs.reverse ++ vs)
  | [], _, acc, p, ws, r2, v0, vs, hp, hs => ⟨fun e => (by cases e), fun fs' e => by
      obtain rfl := Option.some.inj (show some acc = some fs' from e)
      exact ⟨Nat.le_refl _, hp, [], ws, v0, by simp, rfl, rfl, hs⟩⟩
  | w :: wl, hw, acc, p, ws, r2, v0, vs, hp, hs => by
    have hs : settle ws v0 = (w :: (wl ++ r2), vs) := by
      rw [hs]
      exact settle_top fun s k z => by
        rcases hw w List.mem_cons_self with e | e | e <;> rw [e] at z <;> cases z
    have one : RdOk Lp p ws v0 oc (wl ++ r2) vs (rdW rd (Lp.map (·.1)) w p) := by
      rcases hw w List.mem_cons_self with e | e | e
      · subst e
        exact ih p ws v0 _ vs hp hs
      · subst e
        show RdOk Lp p ws v0 oc (wl ++ r2) vs (if nameB (tkA Lp p) = true then (some (.str (tkA Lp p)), p + 1) else (none, p))
        split
        · rename_i h
          obtain ⟨a, b⟩ := rdM_step hL hp hs (yes_name h)
          exact .yes (Nat.lt_succ_self _) a b rfl
        · rename_i h
          exact .no hp (rdM_fail hp hs (no_name h))
      · subst e
        show RdOk Lp p ws v0 oc (wl ++ r2) vs (if countB (tkA Lp p) = true then (some (.int (cval (tkA Lp p))), p + 1) else (none, p))
        split
        · rename_i h
          obtain ⟨a, b⟩ := rdM_step hL hp hs (yes_count h)
          exact .yes (Nat.lt_succ_self _) a b rfl
        · rename_i h
          exact .no hp (rdM_fail hp hs (no_count h))
    have eF : rdF rd (Lp.map (·.1)) (w :: wl) acc p = (match (rdW rd (Lp.map (·.1)) w p).1 with | none => (none, (rdW rd (Lp.map (·.1)) w p).2) | some d => rdF rd (Lp.map (·.1)) wl (acc ++ [d]) (rdW rd (Lp.map (·.1)) w p).2) := rfl
    rw [eF]
    generalize hz : rdW rd (Lp.map (·.1)) w p = z at *
    obtain ⟨o, q⟩ := z
    cases o with
    | none => exact ⟨fun _ => one.1 rfl, fun fs' e => by cases e⟩
    | some d =>
      obtain ⟨a1, a2, w1, v1, a3, a4⟩ := one.2 d rfl
      obtain ⟨b1, b2⟩ := rdF_ok hL ih wl (fun x hx => hw x (List.mem_cons_of_mem _ hx)) (acc ++ [d]) q w1 r2 v1 (d :: vs) a2 a4
      show ((rdF rd (Lp.map (·.1)) wl (acc ++ [d]) q).1 = none → _) ∧ _
      refine ⟨fun e => ?_, fun fs' e => ?_⟩
      · obtain ⟨c1, c2⟩ := b1 e
        exact ⟨c1, a3.trans c2⟩
      · obtain ⟨c1, c2, fs, w2, v2, c3, c4, c5, c6⟩ := b2 fs' e
        refine ⟨Nat.le_trans (Nat.le_of_lt a1) c1, c2, d :: fs, w2, v2, by rw [c3, List.append_assoc]; rfl, by rw [List.length_cons, c4]; rfl, a3.trans c5, ?_⟩
        rw [c6]
        simp
theorem fields_kinds (s : Str) : ∀ w ∈ fieldsW s, w = .term ∨ w = .name ∨ w = .count := by
  intro w h
  unfold fieldsW at h
  split at h
  · simp at h
    exact .inl h
  · split at h
    · simp at h
      rcases h with h | h
      · exact .inr (.inr h)
      · exact .inl h
    · split at h
      · simp at h
        exact .inl h
      · split at h
        · simp at h
          rcases h with h | h
          · exact .inr (.inl h)
          · exact .inl h
        · simp at h
          exact .inr (.inl h)
theorem rdT_ok (hL : TkL Lp) : ∀ (f : Nat) {oc : Int}, oc + f = 40 → ∀ p ws v0 r vs, p < Lp.length → settle ws v0 = (.term :: r, vs) → RdOk Lp p ws v0 oc r vs (rdT f (Lp.map (·.1)) p) := by
  intro f
  have skp : ∀ {oc : Int} {p : Nat} {ws r : List Wi} {v0 vs : List PyData}, p < Lp.length → settle ws v0 = (.term :: r, vs) → tkA Lp p = "skip" → RdOk Lp p ws v0 oc r vs (some skipD, p + 1) := fun {oc p ws r v0 vs} hp hs e => by
    obtain ⟨a, b⟩ := rdM_step (oc := oc) hL hp hs (by rw [e]; exact step_skip)
    exact .yes (Nat.lt_succ_self _) a b rfl
  induction f with
  | zero =>
    intro oc ho p ws v0 r vs hp hs
    show RdOk Lp p ws v0 oc r vs (if tkA Lp p = "skip" then (some skipD, p + 1) else (none, p))
    split
    · exact skp hp hs (by assumption)
    · rename_i h
      exact .no hp (rdM_fail hp hs (no_term h (.inr (by omega))))
  | succ f ih =>
    intro oc ho p ws v0 r vs hp hs
    show RdOk Lp p ws v0 oc r vs (if tkA Lp p = "skip" then (some skipD, p + 1) else if tkA Lp p = "(" then (if tkA Lp (p + 1) ∈ formK then _ else (none, p + 1)) else (none, p))
    split
    · exact skp hp hs (by assumption)
    · rename_i h1
      split
      · rename_i h2
        obtain ⟨a1, a2⟩ := rdM_step (oc := oc) hL hp hs (by rw [h2]; exact step_open (by omega))
        split
        · rename_i h3
          have s1 : settle (.form :: r) vs = (.form :: r, vs) := settle_top fun s k z => by cases z
          obtain ⟨b1, b2⟩ := rdM_step (oc := oc + 1) hL a1 s1 (step_form h3)
          obtain ⟨c1, c2⟩ := rdF_ok hL (rd := rdT f (Lp.map (·.1))) (oc := oc + 1) (fun p ws v0 r vs hp hs => ih (by omega) p ws v0 r vs hp hs) (fieldsW (tkA Lp (p + 1))) (fields_kinds _) [.str (tkA Lp (p + 1))] (p + 2) _ (.close :: .bld (tkA Lp (p + 1)) (fieldsW (tkA Lp (p + 1))).length :: r) vs vs b1 rfl
          show RdOk Lp p ws v0 oc r vs (match (rdF (rdT f (Lp.map (·.1))) (Lp.map (·.1)) (fieldsW (tkA Lp (p + 1))) [.str (tkA Lp (p + 1))] (p + 2)).1 with
            | none => (none, (rdF (rdT f (Lp.map (·.1))) (Lp.map (·.1)) (fieldsW (tkA Lp (p + 1))) [.str (tkA Lp (p + 1))] (p + 2)).2)
            | some fs => if tkA Lp (rdF (rdT f (Lp.map (·.1))) (Lp.map (·.1)) (fieldsW (tkA Lp (p + 1))) [.str (tkA Lp (p + 1))] (p + 2)).2 = ")" then (some (.tuple fs), (rdF (rdT f (Lp.map (·.1))) (Lp.map (·.1)) (fieldsW (tkA Lp (p + 1))) [.str (tkA Lp (p + 1))] (p + 2)).2 + 1) else (none, (rdF (rdT f (Lp.map (·.1))) (Lp.map (·.1)) (fieldsW (tkA Lp (p + 1))) [.str (tkA Lp (p + 1))] (p + 2)).2))
          generalize rdF (rdT f (Lp.map (·.1))) (Lp.map (·.1)) (fieldsW (tkA Lp (p + 1))) [.str (tkA Lp (p + 1))] (p + 2) = z at *
          obtain ⟨o, q⟩ := z
          cases o with
          | none =>
            obtain ⟨d1, d2⟩ := c1 rfl
            exact .no d1 (a2.trans (b2.trans d2))
          | some fs' =>
            obtain ⟨d1, d2, fs, w1, v1, d3, d4, d5, d6⟩ := c2 fs' rfl
            subst d3
            have s6 : settle w1 v1 = (.close :: .bld (tkA Lp (p + 1)) (fieldsW (tkA Lp (p + 1))).length :: r, fs.reverse ++ vs) := by
              rw [d6]
              exact settle_top fun s k z => by cases z
            show RdOk Lp p ws v0 oc r vs (if tkA Lp q = ")" then (some (.tuple (.str (tkA Lp (p + 1)) :: fs)), q + 1) else (none, q))
            split
            · rename_i h4
              obtain ⟨e1, e2⟩ := rdM_step (oc := oc + 1) hL d2 s6 (by rw [h4]; exact step_close)
              refine .yes (w1 := .bld (tkA Lp (p + 1)) (fieldsW (tkA Lp (p + 1))).length :: r) (v1 := fs.reverse ++ vs) (by omega) e1 ?_ ?_
              · rw [a2, b2, d5, e2]
                rw [show oc + 1 - 1 = oc by omega]
              · show settle r (mkB (tkA Lp (p + 1)) ((fs.reverse ++ vs).take (fieldsW (tkA Lp (p + 1))).length).reverse :: (fs.reverse ++ vs).drop (fieldsW (tkA Lp (p + 1))).length) = _
                rw [← d4, ← List.length_reverse, List.take_left, List.drop_left, List.reverse_reverse]
                unfold mkB
                rw [if_neg (kw_plain _ h3).e]
            · rename_i h4
              exact .no d2 (a2.trans (b2.trans (d5.trans (rdM_fail d2 s6 (no_close h4)))))
        · rename_i h3
          have s1 : settle (.form :: r) vs = (.form :: r, vs) := settle_top fun s k z => by cases z
          exact .no a1 (a2.trans (rdM_fail a1 s1 (no_form h3)))
      · rename_i h2
        exact .no hp (rdM_fail hp hs (no_term h1 (.inl h2)))
/-- a whole term -/
def dueT (L : List Str) : Option PyData × Nat := match (rdT 40 L 0).1 with
  | none => (none, (rdT 40 L 0).2)
  | some d => if L.getD (rdT 40 L 0).2 "" = "" then (some d, (rdT 40 L 0).2) else (none, (rdT 40 L 0).2)
theorem tkL_pos (hL : TkL Lp) : 0 < Lp.length := by
  obtain ⟨ts, n, e, _⟩ := hL.ex
  rw [e, List.length_append]
  exact Nat.lt_of_lt_of_le Nat.zero_lt_one (Nat.le_add_left _ _)
theorem dueT_ok (hL : TkL Lp) : (∀ d, (dueT (Lp.map (·.1))).1 = some d → readM Lp ([.term], [], 0) = .inr [d]) ∧ ((dueT (Lp.map (·.1))).1 = none → readM Lp ([.term], [], 0) = .inl (plA Lp (dueT (Lp.map (·.1))).2)) ∧ (dueT (Lp.map (·.1))).2 < Lp.length := by
  have h := rdT_ok hL 40 (oc := 0) (by decide) 0 [.term] [] [] [] (tkL_pos hL) rfl
  unfold dueT
  generalize rdT 40 (Lp.map (·.1)) 0 = z at *
  obtain ⟨o, q⟩ := z
  obtain ⟨h1, h2⟩ := h
  cases o with
  | none =>
    obtain ⟨a, b⟩ := h1 rfl
    exact ⟨fun d e => (by cases e), fun _ => b, a⟩
  | some d =>
    obtain ⟨a, b, w1, v1, c, e⟩ := h2 d rfl
    have c : readM Lp ([.term], [], 0) = readM (Lp.drop q) (w1, v1, 0) := c
    show (∀ d', (if tkA Lp q = "" then (some d, q) else (none, q)).1 = some d' → _) ∧ ((if tkA Lp q = "" then (some d, q) else (none, q)).1 = none → readM Lp ([.term], [], 0) = .inl (plA Lp (if tkA Lp q = "" then (some d, q) else (none, q)).2)) ∧ (if tkA Lp q = "" then (some d, q) else ((none : Option PyData), q)).2 < Lp.length
    split
    · rename_i h
      refine ⟨fun d' e' => ?_, fun e' => (by cases e'), b⟩
      obtain rfl := Option.some.inj e'
      rw [c]
      exact rdM_stop b e h
    · rename_i h
      refine ⟨fun d' e' => (by cases e'), fun _ => ?_, b⟩
      rw [c]
      exact rdM_end b e h
/-! ### programs -/
def rdR : Nat → List Str → List PyData → Nat → Option (List PyData) × Nat
  | 0, _, _, p => (none, p)
  | k + 1, L, acc, p =>
    if L.getD p "" = "(" then
      (if L.getD (p + 1) "" = "to" then
        (if nameB (L.getD (p + 2) "") = true then
          (match (rdT 38 L (p + 3)).1 with
            | none => (none, (rdT 38 L (p + 3)).2)
            | some d => if L.getD (rdT 38 L (p + 3)).2 "" = ")" then rdR k L (acc ++ [.tuple [.str (L.getD (p + 2) ""), d]]) ((rdT 38 L (p + 3)).2 + 1) else (none, (rdT 38 L (p + 3)).2))
        else (none, p + 2))
      else (none, p + 1))
    else if L.getD p "" = ")" then (some acc, p + 1) else (none, p)
def rdP (L : List Str) : Option (List PyData) × Nat :=
  if L.getD 0 "" = "(" then (if L.getD 1 "" = "program" then (if L.getD 2 "" = "(" then rdR L.length L [] 2 else (none, 2)) else (none, 1)) else (none, 0)
def RrOk (Lp : List (Str × Nat)) (p : Nat) (ws : List Wi) (v0 : List PyData) (z : Option (List PyData) × Nat) : Prop :=
  (z.1 = none → z.2 < Lp.length ∧ readM (Lp.drop p) (ws, v0, 1) = .inl (plA Lp z.2)) ∧ ∀ rows, z.1 = some rows → z.2 < Lp.length ∧ readM (Lp.drop p) (ws, v0, 1) = readM (Lp.drop z.2) ([], rows.reverse, 0)
theorem RrOk.no {q : Nat} (h1 : q < Lp.length) (h2 : readM (Lp.drop p) (ws, v0, 1) = .inl (plA Lp q)) : RrOk Lp p ws v0 (none, q) := ⟨fun _ => ⟨h1, h2⟩, fun d e => (by cases e)⟩
theorem rdR_ok (hL : TkL Lp) : ∀ (k : Nat) (w : Wi) (acc : List PyData) (p : Nat) (ws : List Wi) (v0 : List PyData), (w = .prc ∧ tkA Lp p = "(" ∨ w = .prcs) → p < Lp.length → Lp.length < k + p → settle ws v0 = ([w], acc.reverse) → RrOk Lp p ws v0 (rdR k (Lp.map (·.1)) acc p)
  | 0, w, acc, p, ws, v0, hw, hp, hk, hs => by omega
  | k + 1, w, acc, p, ws, v0, hw, hp, hk, hs => by
    show RrOk Lp p ws v0 (if tkA Lp p = "(" then (if tkA Lp (p + 1) = "to" then (if nameB (tkA Lp (p + 2)) = true then (match (rdT 38 (Lp.map (·.1)) (p + 3)).1 with
      | none => (none, (rdT 38 (Lp.map (·.1)) (p + 3)).2)
      | some d => if tkA Lp (rdT 38 (Lp.map (·.1)) (p + 3)).2 = ")" then rdR k (Lp.map (·.1)) (acc ++ [.tuple [.str (tkA Lp (p + 2)), d]]) ((rdT 38 (Lp.map (·.1)) (p + 3)).2 + 1) else (none, (rdT 38 (Lp.map (·.1)) (p + 3)).2)) else (none, p + 2)) else (none, p + 1)) else if tkA Lp p = ")" then (some acc, p + 1) else (none, p))
    split
    · rename_i h1
      have o1 : stepC [w] acc.reverse 1 (tkA Lp p) = some ([.wd "to", .name, .term, .close, .bld "" 2, .prcs], acc.reverse, 2) := by
        rw [h1, stepC_cons, if_neg lit_par.1, if_pos rfl, if_neg (by decide)]
        rcases hw with ⟨rfl, _⟩ | rfl <;> rfl
      obtain ⟨a1, a2⟩ := rdM_step hL hp hs o1
      have s1 : settle [.wd "to", .name, .term, .close, .bld "" 2, .prcs] acc.reverse = ([.wd "to", .name, .term, .close, .bld "" 2, .prcs], acc.reverse) := rfl
      split
      · rename_i h2
        obtain ⟨b1, b2⟩ := rdM_step (oc := 2) hL a1 s1 (by rw [h2]; exact step_wd wd_plain.1)
        have s2 : settle [.name, .term, .close, .bld "" 2, .prcs] acc.reverse = ([.name, .term, .close, .bld "" 2, .prcs], acc.reverse) := rfl
        split
        · rename_i h3
          obtain ⟨c1, c2⟩ := rdM_step (oc := 2) hL b1 s2 (yes_name h3)
          have s3 : settle [.term, .close, .bld "" 2, .prcs] (.str (tkA Lp (p + 2)) :: acc.reverse) = ([.term, .close, .bld "" 2, .prcs], .str (tkA Lp (p + 2)) :: acc.reverse) := rfl
          obtain ⟨d1, d2⟩ := rdT_ok hL 38 (oc := 2) (by decide) (p + 3) _ _ _ _ c1 s3
          generalize rdT 38 (Lp.map (·.1)) (p + 3) = z at *
          obtain ⟨o, q⟩ := z
          cases o with
          | none =>
            obtain ⟨e1, e2⟩ := d1 rfl
            exact .no e1 (a2.trans (b2.trans (c2.trans e2)))
          | some d =>
            obtain ⟨e0, e1, w1, v1, e2, e3⟩ := d2 d rfl
            have s4 : settle w1 v1 = (.close :: .bld "" 2 :: [.prcs], d :: .str (tkA Lp (p + 2)) :: acc.reverse) := e3
            show RrOk Lp p ws v0 (if tkA Lp q = ")" then rdR k (Lp.map (·.1)) (acc ++ [.tuple [.str (tkA Lp (p + 2)), d]]) (q + 1) else (none, q))
            split
            · rename_i h4
              obtain ⟨g1, g2⟩ := rdM_step (oc := 2) hL e1 s4 (by rw [h4]; exact step_close)
              have z := rdR_ok hL k .prcs (acc ++ [.tuple [.str (tkA Lp (p + 2)), d]]) (q + 1) [.bld "" 2, .prcs] (d :: .str (tkA Lp (p + 2)) :: acc.reverse) (.inr rfl) g1 (by have : p + 3 < q := e0; omega) (by
                rw [List.reverse_append]
                rfl)
              refine ⟨fun e => ?_, fun rows e => ?_⟩
              · obtain ⟨k1, k2⟩ := z.1 e
                exact ⟨k1, a2.trans (b2.trans (c2.trans (e2.trans (g2.trans k2))))⟩
              · obtain ⟨k1, k2⟩ := z.2 rows e
                exact ⟨k1, a2.trans (b2.trans (c2.trans (e2.trans (g2.trans k2))))⟩
            · rename_i h4
              exact .no e1 (a2.trans (b2.trans (c2.trans (e2.trans (rdM_fail e1 s4 (no_close h4))))))
        · rename_i h3
          exact .no b1 (a2.trans (b2.trans (rdM_fail b1 s2 (no_name h3))))
      · rename_i h2
        exact .no a1 (a2.trans (rdM_fail a1 s1 (no_wd h2)))
    · rename_i h1
      obtain rfl : w = .prcs := by
        rcases hw with ⟨_, h⟩ | h
        · exact absurd h h1
        · exact h
      split
      · rename_i h2
        have c1 : stepC [.prcs] acc.reverse 1 (tkA Lp p) = some ([], acc.reverse, 0) := by
          rw [h2, stepC_cons, if_neg lit_par.2.1, if_neg lit_par.2.2.1, if_pos rfl]
          rfl
        obtain ⟨a1, a2⟩ := rdM_step hL hp hs c1
        exact ⟨fun e => (by cases e), fun rows e => by
          obtain rfl := Option.some.inj (show some acc = some rows from e)
          exact ⟨a1, a2⟩⟩
      · rename_i h2
        refine .no hp (rdM_fail hp hs ?_)
        rw [stepC_cons, if_neg h1, if_neg h2]
        split <;> rfl
def dueP (L : List Str) : Option (List PyData) × Nat := match (rdP L).1 with
  | none => (none, (rdP L).2)
  | some d => if L.getD (rdP L).2 "" = "" then (some d, (rdP L).2) else (none, (rdP L).2)
theorem rdP_ok (hL : TkL Lp) : ((rdP (Lp.map (·.1))).1 = none → (rdP (Lp.map (·.1))).2 < Lp.length ∧ readM Lp ([.opn, .wd "program", .prc], [], 0) = .inl (plA Lp (rdP (Lp.map (·.1))).2)) ∧ ∀ rows, (rdP (Lp.map (·.1))).1 = some rows → (rdP (Lp.map (·.1))).2 < Lp.length ∧ readM Lp ([.opn, .wd "program", .prc], [], 0) = readM (Lp.drop (rdP (Lp.map (·.1))).2) ([], rows.reverse, 0) := by
  have hp := tkL_pos hL
  have s0 : settle [.opn, .wd "program", .prc] [] = ([.opn, .wd "program", .prc], []) := rfl
  have s1 : settle [.wd "program", .prc] [] = ([.wd "program", .prc], []) := rfl
  have s2 : settle [.prc] [] = ([.prc], []) := rfl
  have er : rdP (Lp.map (·.1)) = (if tkA Lp 0 = "(" then (if tkA Lp 1 = "program" then (if tkA Lp 2 = "(" then rdR Lp.length (Lp.map (·.1)) [] 2 else (none, 2)) else (none, 1)) else (none, 0)) := by
    unfold rdP
    rw [List.length_map]
    rfl
  have d0 : ∀ {s : Ms}, readM Lp s = readM (Lp.drop 0) s := fun {s} => rfl
  rw [er, d0]
  split
  · rename_i h1
    obtain ⟨a1, a2⟩ := rdM_step (oc := 0) (s' := ([.wd "program", .prc], [], 1)) hL hp s0 (by
      rw [h1, stepC_cons, if_neg lit_par.1, if_pos rfl, if_neg (by decide)]
      rfl)
    split
    · rename_i h2
      obtain ⟨b1, b2⟩ := rdM_step (oc := 1) hL a1 s1 (by rw [h2]; exact step_wd wd_plain.2)
      split
      · rename_i h3
        have z := rdR_ok hL Lp.length .prc [] 2 [.prc] [] (.inl ⟨rfl, h3⟩) b1 (by omega) s2
        refine ⟨fun e => ?_, fun rows e => ?_⟩
        · obtain ⟨k1, k2⟩ := z.1 e
          exact ⟨k1, a2.trans (b2.trans k2)⟩
        · obtain ⟨k1, k2⟩ := z.2 rows e
          exact ⟨k1, a2.trans (b2.trans k2)⟩
      · rename_i h3
        refine ⟨fun _ => ⟨b1, a2.trans (b2.trans (rdM_fail b1 s2 ?_))⟩, fun rows e => (by cases e)⟩
        rw [stepC_cons, if_neg h3]
        split
        · rfl
        · split <;> rfl
    · rename_i h2
      exact ⟨fun _ => ⟨a1, a2.trans (rdM_fail a1 s1 (no_wd h2))⟩, fun rows e => (by cases e)⟩
  · rename_i h1
    refine ⟨fun _ => ⟨hp, rdM_fail hp s0 ?_⟩, fun rows e => (by cases e)⟩
    rw [stepC_cons, if_neg h1]
    split
    · rfl
    · split <;> rfl
theorem dueP_ok (hL : TkL Lp) : (∀ rows, (dueP (Lp.map (·.1))).1 = some rows → readM Lp ([.opn, .wd "program", .prc], [], 0) = .inr rows.reverse) ∧ ((dueP (Lp.map (·.1))).1 = none → readM Lp ([.opn, .wd "program", .prc], [], 0) = .inl (plA Lp (dueP (Lp.map (·.1))).2)) ∧ (dueP (Lp.map (·.1))).2 < Lp.length := by
  have h := rdP_ok hL
  unfold dueP
  generalize rdP (Lp.map (·.1)) = z at *
  obtain ⟨o, q⟩ := z
  obtain ⟨h1, h2⟩ := h
  cases o with
  | none =>
    obtain ⟨a, b⟩ := h1 rfl
    exact ⟨fun d e => (by cases e), fun _ => b, a⟩
  | some rows =>
    obtain ⟨b, c⟩ := h2 rows rfl
    have c : readM Lp ([.opn, .wd "program", .prc], [], 0) = readM (Lp.drop q) ([], rows.reverse, 0) := c
    show (∀ d', (if tkA Lp q = "" then (some rows, q) else (none, q)).1 = some d' → _) ∧ ((if tkA Lp q = "" then (some rows, q) else (none, q)).1 = none → readM Lp ([.opn, .wd "program", .prc], [], 0) = .inl (plA Lp (if tkA Lp q = "" then (some rows, q) else (none, q)).2)) ∧ (if tkA Lp q = "" then (some rows, q) else ((none : Option (List PyData)), q)).2 < Lp.length
    split
    · rename_i h
      refine ⟨fun d' e' => ?_, fun e' => (by cases e'), b⟩
      obtain rfl := Option.some.inj e'
      rw [c]
      exact rdM_stop b rfl h
    · rename_i h
      refine ⟨fun d' e' => (by cases e'), fun _ => ?_, b⟩
      rw [c]
      exact rdM_end b rfl h
end
end L2.DS
/-! The law's own reading, walked: strip, texts sign by sign, dicts written out, rows of tokens. -/
namespace L2.DS
open PySem PySem.Spec PyProof.Rows
/-! ### text.strip(signs) == '' -/
theorem tw_all {p : Nat → Bool} : ∀ {l : List Nat}, (∀ c ∈ l, p c = true) → l.takeWhile p = l
  | [], _ => rfl
  | c :: r, h => by rw [List.takeWhile_cons, if_pos (h c List.mem_cons_self), tw_all fun x hx => h x (List.mem_cons_of_mem _ hx)]
theorem tw_lt {p : Nat → Bool} : ∀ {l : List Nat}, (∃ c ∈ l, p c = false) → (l.takeWhile p).length < l.length
  | [], h => by obtain ⟨c, h, _⟩ := h; cases h
  | c :: r, h => by
    rw [List.takeWhile_cons]
    by_cases hc : p c = true
    · rw [if_pos hc, List.length_cons, List.length_cons]
      obtain ⟨x, hx, e⟩ := h
      rcases List.mem_cons.mp hx with rfl | hx
      · rw [hc] at e
        cases e
      · exact Nat.succ_lt_succ (tw_lt ⟨x, hx, e⟩)
    · rw [if_neg hc]
      exact Nat.succ_pos _
theorem tw_bad {p : Nat → Bool} : ∀ {l : List Nat}, (∃ c ∈ l, p c = false) → ∃ c r, l.drop (l.takeWhile p).length = c :: r ∧ p c = false
  | [], h => by obtain ⟨c, h, _⟩ := h; cases h
  | c :: r, h => by
    rw [List.takeWhile_cons]
    by_cases hc : p c = true
    · rw [if_pos hc]
      obtain ⟨x, hx, e⟩ := h
      rcases List.mem_cons.mp hx with rfl | hx
      · rw [hc] at e
        cases e
      · exact tw_bad (l := r) ⟨x, hx, e⟩
    · rw [if_neg hc]
      exact ⟨c, r, rfl, by simpa using hc⟩
theorem str_nil {x : Str} : x = "" ↔ x.cps.toList = [] := ⟨fun e => by rw [e]; rfl, fun e => str_inj (by rw [e]; rfl)⟩
theorem strip_e (a b : Str) : decide (Txt.stripChars a b = "") = a.cps.toList.all fun c => decide (c ∈ b.cps.toList) := by
  have hg : ∀ c, b.cps.contains c = decide (c ∈ b.cps.toList) := fun c => by simp
  have e1 : a.length = a.cps.toList.length := rfl
  by_cases h : ∃ c ∈ a.cps.toList, b.cps.contains c = false
  · have r : (a.cps.toList.all fun c => decide (c ∈ b.cps.toList)) = false := by
      obtain ⟨c, hc, e⟩ := h
      rw [List.all_eq_false]
      exact ⟨c, hc, by rw [← hg, e]; decide⟩
    rw [r]
    refine decide_eq_false ?_
    unfold Txt.stripChars Txt.stripBy
    have l1 := tw_lt h
    obtain ⟨c, rr, e2, hc⟩ := tw_bad h
    have lo : stripLo b.cps.contains true a = (a.cps.toList.takeWhile b.cps.contains).length := rfl
    have hi : stripHi b.cps.contains true a (stripLo b.cps.contains true a) = a.length - ((a.cps.toList.drop (a.cps.toList.takeWhile b.cps.contains).length).reverse.takeWhile b.cps.contains).length := rfl
    have l2 : ((a.cps.toList.drop (a.cps.toList.takeWhile b.cps.contains).length).reverse.takeWhile b.cps.contains).length < (a.cps.toList.drop (a.cps.toList.takeWhile b.cps.contains).length).reverse.length := tw_lt ⟨c, by rw [e2]; simp, hc⟩
    rw [List.length_reverse, List.length_drop] at l2
    split
    · intro z
      rw [str_nil] at z
      rw [z] at l1
      exact absurd l1 (Nat.not_lt_zero _)
    · intro z
      have z := congrArg Str.length z
      unfold stripped Builtin.Str.strSub at z
      rw [hi, lo] at z
      have z : (a.cps.extract (a.cps.toList.takeWhile b.cps.contains).length (a.length - ((a.cps.toList.drop (a.cps.toList.takeWhile b.cps.contains).length).reverse.takeWhile b.cps.contains).length)).size = 0 := z
      rw [Array.size_extract] at z
      have e3 : a.cps.size = a.cps.toList.length := rfl
      omega
  · have h : ∀ c ∈ a.cps.toList, b.cps.contains c = true := fun c hc => by
      cases e : b.cps.contains c with
      | true => rfl
      | false => exact absurd ⟨c, hc, e⟩ h
    have r : (a.cps.toList.all fun c => decide (c ∈ b.cps.toList)) = true := List.all_eq_true.mpr fun c hc => by rw [← hg]; exact h c hc
    rw [r]
    refine decide_eq_true ?_
    unfold Txt.stripChars Txt.stripBy
    have lo : stripLo b.cps.contains true a = a.cps.toList.length := by
      show (a.cps.toList.takeWhile b.cps.contains).length = _
      rw [tw_all h]
    have hi : stripHi b.cps.contains true a (stripLo b.cps.contains true a) = a.length := by
      rw [lo]
      show a.length - ((a.cps.toList.drop a.cps.toList.length).reverse.takeWhile b.cps.contains).length = _
      rw [List.drop_length]
      rfl
    split
    · rename_i hs
      unfold stripSame at hs
      rw [lo] at hs
      obtain ⟨h0, _⟩ := Bool.and_eq_true_iff.mp hs
      rw [str_nil]
      exact List.eq_nil_of_length_eq_zero (beq_iff_eq.mp h0)
    · rw [str_nil]
      unfold stripped Builtin.Str.strSub
      rw [hi, lo]
      refine List.eq_nil_of_length_eq_zero ?_
      show (a.cps.extract a.cps.toList.length a.length).size = 0
      rw [Array.size_extract, e1]
      omega
def rStripC : V → List V → Hp → VK → Prop := fun x xs H Q => ∃ a b, x = .str a ∧ xs = [.str b] ∧ a.length ≤ sizeLine ∧ Q (.str (Txt.stripChars a b)) H
theorem mt_stripC {X : Cx} : MtR X "str.strip" rStripC := mt_stripChars
theorem signs_mem (c : Nat) : decide (c ∈ signs36.cps.toList) = (smC c || fgC c) := by
  have e : signs36.cps.toList = List.range' 97 26 ++ List.range' 48 10 := by decide +kernel
  rw [e, ← small_mem, ← figs_mem]
  have e1 : smallL.cps.toList = List.range' 97 26 := by decide +kernel
  have e2 : figsL.cps.toList = List.range' 48 10 := by decide +kernel
  rw [e1, e2]
  simp
section
variable {S : SR} {n ka kb i : Nat} {te : TE} {t : TA} {σ : L2.St} {G H : Hp} {K : PySem.W.Frag} {a b z : Str} {tb u : TS} {nx bk ct : L2.St → Hp → Prop} {rt : VK} {k : Nat}
theorem ev_strip (st : Stab S) (h : Ev S n ka te σ G (IsV (.str a))) (h2 : EvA S (n + ka) kb t σ G (IsVs [.str b])) (hl : a.length ≤ sizeLine) : Ev S n (ka + kb) (tBM K "str" rStripC te t) σ G (IsV (.str (Txt.stripChars a b))) := fun G1 H1 s0 s Q q =>
  h G1 H1 s0 s _ fun v G2 H2 s2 e => by
    obtain rfl := (show v = _ from e)
    exact ⟨rfl, h2 G2 H2 (s0.trans s2.g) s2.s _ fun vs G3 H3 s3 e3 => ⟨a, b, rfl, e3, hl, q _ G3 H3 (s2.trans s3).up rfl⟩⟩
/-- for c in text -/
theorem q_forS (st : Stab S) (s : S n G H) (e : Ev S n k te σ G (IsV (.str z))) (Pv : Nat → L2.St → Hp → Prop) (h0 : ∀ G' H', Stp S (n + k) G H G' H' → Pv 0 σ H')
    (hs : ∀ (l : Nat) c σ' J, z.cps[l]? = some c → Pv l σ' J → tb (Ends.mk (Pv (l + 1)) rt (u (Ends.mk nx rt bk ct)) (Pv (l + 1))) (σ'.set i (some (.str ⟨#[c]⟩))) J)
    (hd : ∀ σ' J, Pv z.cps.size σ' J → u (Ends.mk nx rt bk ct) σ' J) : tSeq (tFor (iStr te) (gName i) tb) u (Ends.mk nx rt bk ct) σ H := by
  refine e G H (Same.refl _) s _ fun v G1 H1 s1 ev => ?_
  refine ⟨z, ev, for_it walk_str Pv (h0 G1 H1 s1) (fun _ _ _ _ _ => trivial) (fun l x τ J J' hl hp hy => ?_) hd⟩
  obtain ⟨rfl, c, hc, rfl⟩ := hy
  exact hs l c τ _ hc hp
end
/-! ### rows of tokens -/
def IsRwk (p : Str × Nat) : HR := fun v G => ∃ a, v = .ref a ∧ G a = some (.lst [.str p.1, .int (p.2 : Nat)])
instance (p) : Mon (IsRwk p) := ⟨fun s ⟨a, e, h⟩ => ⟨a, e, s _ _ h⟩⟩
def PLtk : List V → Hp → HR → Prop := fun vs G R => ∃ (s : Str) (F : Hp), vs = [.str s] ∧ s.length ≤ 99000 ∧ Same F G ∧ R = IsNX F (RL IsRwk (toksP s))
/-- the list of tokens as it stands -/
structure TokAt (p : Addr) (xs : List V) (Lp : List (Str × Nat)) (G : Hp) : Prop where
  g : G p = some (.lst xs)
  r : RL IsRwk Lp xs G
  t : TkL Lp
  l : ∀ q ∈ Lp, q.1.length ≤ 99000
theorem TokAt.mono {p : Addr} {xs : List V} {Lp : List (Str × Nat)} {G G' : Hp} (h : TokAt p xs Lp G) (s : Same G G') : TokAt p xs Lp G' := ⟨s _ _ h.g, rl_mon s h.r, h.t, h.l⟩
theorem TokAt.row {p : Addr} {xs : List V} {Lp : List (Str × Nat)} {G : Hp} (h : TokAt p xs Lp G) {i : Nat} (hi : i < Lp.length) : ∃ a, xs[i]? = some (.ref a) ∧ G a = some (.lst [.str (tkA Lp i), .int (plA Lp i : Nat)]) ∧ (tkA Lp i).length ≤ 99000 := by
  obtain ⟨u, hu, a, rfl, ha⟩ := rl_get h.r (List.getElem?_eq_getElem hi)
  obtain ⟨e1, e2⟩ := tkA_of hi
  rw [← e1, ← e2] at ha
  exact ⟨a, hu, ha, by rw [e1]; exact h.l _ (List.getElem_mem hi)⟩
section
variable {S : SR} {n k ka kb i : Nat} {te ti : TE} {t : TA} {σ : L2.St} {G H : Hp} {K : PySem.W.Frag} {p : Addr} {xs : List V} {Lp : List (Str × Nat)} {trs : List (TE × TE)}
/-- tokens[i][0], tokens[i][1] -/
theorem ev_tok0 (st : Stab S) (h : TokAt p xs Lp G) (hi : i < Lp.length) (e1 : Ev S n ka te σ G (IsV (.ref p))) (e2 : Ev S (n + ka) kb ti σ G (IsV (.int (i : Nat)))) : Ev S n (ka + kb + 0) (tOp (rIxA K) (tOp (rIxA K) te ti) (tC (.int 0))) σ G (IsV (.str (tkA Lp i))) := by
  obtain ⟨a, hx, ha, _⟩ := h.row hi
  exact ev_opV (ev_opV e1 e2 (v_ixL st (SqL.of h.g) (atI_nat hx))) ev_c (v_ixL st (SqL.of ha) (atI_nat (j := 0) rfl))
theorem ev_tok1 (st : Stab S) (h : TokAt p xs Lp G) (hi : i < Lp.length) (e1 : Ev S n ka te σ G (IsV (.ref p))) (e2 : Ev S (n + ka) kb ti σ G (IsV (.int (i : Nat)))) : Ev S n (ka + kb + 0) (tOp (rIxA K) (tOp (rIxA K) te ti) (tC (.int 1))) σ G (IsV (.int (plA Lp i : Nat))) := by
  obtain ⟨a, hx, ha, _⟩ := h.row hi
  exact ev_opV (ev_opV e1 e2 (v_ixL st (SqL.of h.g) (atI_nat hx))) ev_c (v_ixL st (SqL.of ha) (atI_nat (j := 1) rfl))
/-- {k: v, ..} of constants -/
theorem ev_dispC (st : Stab S) (kvs : List (Key × V)) (h : ∀ (σ : L2.St) (H : Hp) (Q : List (V × V) → Hp → Prop), Q (kvs.map fun kv => (kV kv.1, kv.2)) H → tPairs trs σ H Q) (hl : kvs.length ≤ 15) : Ev S n 0 (tDisp trs) σ G (IsNew G (.dK (mergeK [] kvs))) := fun G1 H1 s0 s Q q p hp => by
  refine h _ _ _ ⟨upd_same, kvs, rfl, hl, ?_⟩
  rw [upd_upd]
  exact q (.ref p) _ _ (st.new s hp) ⟨p, rfl, s0.free ((st.sub s).free hp), upd_same⟩
theorem q_augI {j : Nat} {a b : Int} {u : TS} {nx bk ct : L2.St → Hp → Prop} {rt : VK} (st : Stab S) (s : S n G H) (hx : σ[j]? = some (some (.int a))) (e : Ev S n k te σ G (IsV (.int b))) (h : ∀ H', Kp S H H' → S (n + k) G H' → u (Ends.mk nx rt bk ct) (σ.set j (some (.int (a + b)))) H') : tSeq (tAug j te rAdd) u (Ends.mk nx rt bk ct) σ H :=
  ⟨.int a, hx, e G H (Same.refl _) s _ fun v G' H' s1 ev => by
    obtain rfl := (show _ = _ from ev)
    exact ⟨a, b, rfl, rfl, h H' s1.k (st.anti s s1.s s1.g)⟩⟩
end
/-! ### the tokens as the law cuts them -/
theorem cut_mid {z : Str} {a b : Nat} (h1 : a ≤ b) (h2 : b ≤ z.length) : (cutS z (some (a : Nat)) (some (b : Nat))).cps.toList = (z.cps.toList.take b).drop a := by
  unfold cutS
  have e1 : HT.sIx z.length 0 (some ((a : Nat) : Int)) = a := by
    rw [HT.sIx_nat]
    omega
  have e2 : HT.sIx z.length z.length (some ((b : Nat) : Int)) = b := by
    rw [HT.sIx_nat]
    omega
  rw [e1, e2, List.drop_take]
/-- start, found behind j signs -/
structure LtI (s : Str) (j start : Nat) : Prop where
  h : start ≤ j
  w : (tkAt (s.cps.toList ++ [32]) j).2.1.cps.toList = (s.cps.toList.take j).drop start
  b : start < j → (tkAt (s.cps.toList ++ [32]) j).2.2 = start
theorem LtI.e {s : Str} {j start : Nat} (h : LtI s j start) (hj : j ≤ s.length) : (tkAt (s.cps.toList ++ [32]) j).2.1 = "" ↔ start = j := by
  rw [str_nil, h.w]
  have l : s.cps.toList.length = s.length := rfl
  have h1 := h.h
  constructor
  · intro e
    have := congrArg List.length e
    rw [List.length_drop, List.length_take, List.length_nil] at this
    omega
  · intro e
    refine List.eq_nil_of_length_eq_zero ?_
    rw [List.length_drop, List.length_take]
    omega
theorem LtI.cut {s : Str} {j c : Nat} {start : Nat} (h : LtI s j start) (hc : s.cps.toList[j]? = some c) (hcu : cuC c = true) : LtI s (j + 1) (j + 1) := by
  have hj : j < s.cps.toList.length := (List.getElem?_eq_some_iff.mp hc).1
  have e : (tkAt (s.cps.toList ++ [32]) (j + 1)).2.1 = "" := by
    have hd : (s.cps.toList ++ [32]).getD j 0 = c := by
      rw [List.getD_eq_getElem?_getD, List.getElem?_append_left hj, hc]
      rfl
    show (tkStep _ j ((s.cps.toList ++ [32]).getD j 0)).2.1 = ""
    rw [hd]
    unfold tkStep
    rw [if_pos hcu]
  refine ⟨Nat.le_refl _, ?_, fun z => absurd z (Nat.lt_irrefl _)⟩
  rw [e]
  refine (List.eq_nil_of_length_eq_zero ?_).symm
  rw [List.length_drop, List.length_take]
  omega
theorem tkAt_chr {l : List Nat} {j c : Nat} (hc : l[j]? = some c) : tkAt (l ++ [32]) (j + 1) = tkStep (tkAt (l ++ [32]) j) j c := by
  have hj : j < l.length := (List.getElem?_eq_some_iff.mp hc).1
  have hd : (l ++ [32]).getD j 0 = c := by
    rw [List.getD_eq_getElem?_getD, List.getElem?_append_left hj, hc]
    rfl
  show tkStep _ j ((l ++ [32]).getD j 0) = _
  rw [hd]
theorem LtI.go {s : Str} {j c : Nat} {start : Nat} (h : LtI s j start) (hc : s.cps.toList[j]? = some c) (hcu : cuC c = false) : LtI s (j + 1) start ∧ (tkAt (s.cps.toList ++ [32]) (j + 1)).1 = (tkAt (s.cps.toList ++ [32]) j).1 := by
  have hj : j < s.cps.toList.length := (List.getElem?_eq_some_iff.mp hc).1
  have ln : ¬ cuC c = true := by rw [hcu]; decide
  have e : tkAt (s.cps.toList ++ [32]) (j + 1) = ((tkAt (s.cps.toList ++ [32]) j).1, (tkAt (s.cps.toList ++ [32]) j).2.1 ++ (⟨#[c]⟩ : Str), if (tkAt (s.cps.toList ++ [32]) j).2.1 = "" then j else (tkAt (s.cps.toList ++ [32]) j).2.2) := by
    rw [tkAt_chr hc]
    unfold tkStep
    rw [if_neg ln]
  have h1 := h.h
  refine ⟨⟨by omega, ?_, fun z => ?_⟩, by rw [e]⟩
  · rw [e]
    show ((tkAt (s.cps.toList ++ [32]) j).2.1 ++ (⟨#[c]⟩ : Str)).cps.toList = _
    rw [cps_app, h.w, List.take_succ_eq_append_getElem hj, List.drop_append_of_le_length (by rw [List.length_take]; omega)]
    rw [List.getElem?_eq_getElem hj] at hc
    rw [Option.some.inj hc]
  · rw [e]
    show (if _ then j else _) = start
    have hi := h.e (show j ≤ s.length from Nat.le_of_lt hj)
    by_cases hs : start = j
    · rw [if_pos (hi.mpr hs), hs]
    · rw [if_neg (fun z => hs (hi.mp z))]
      exact h.b (by omega)
theorem toks_fin (s : Str) : toksP s = (tkAt (s.cps.toList ++ [32]) s.length).1 ++ (if (tkAt (s.cps.toList ++ [32]) s.length).2.1 = "" then [] else [((tkAt (s.cps.toList ++ [32]) s.length).2.1, (tkAt (s.cps.toList ++ [32]) s.length).2.2)]) ++ [(("" : Str), s.length)] := by
  have hd : (s.cps.toList ++ [32]).getD s.length 0 = 32 := by
    rw [List.getD_eq_getElem?_getD, List.getElem?_append_right (show s.cps.toList.length ≤ s.length from Nat.le_refl _)]
    simp [str_len]
  have e : tkAt (s.cps.toList ++ [32]) (s.length + 1) = tkStep (tkAt (s.cps.toList ++ [32]) s.length) s.length 32 := by
    show tkStep _ s.length ((s.cps.toList ++ [32]).getD s.length 0) = _
    rw [hd]
  unfold toksP
  rw [e]
  unfold tkStep
  rw [if_pos (show cuC 32 = true by decide), if_pos (show (32 : Nat) = 32 from rfl), List.append_nil]
end L2.DS
/-! The law that refuses: what is read can be compared; texts told by what they hold; two ways that meet behind a try. -/
namespace L2.DS
open PySem PySem.Spec PyProof.Rows
mutual
def plainB : PyData → Bool
  | .str s => PyData.strOk s
  | .int _ => true
  | .bool _ => true
  | .tuple ds => plainBs ds
  | .list ds => plainBs ds
  | .none => false
  | .dict _ => false
def plainBs : List PyData → Bool
  | [] => true
  | d :: r => plainB d && plainBs r
end
mutual
theorem eqvB : ∀ d : PyData, plainB d = true → PyData.eqv d d = true
  | .str s, _ => by simp [PyData.eqv]
  | .int i, _ => by simp [PyData.eqv]
  | .bool b, _ => by simp [PyData.eqv]
  | .tuple ds, h => by
    simp only [PyData.eqv]
    exact eqvBs ds h
  | .list ds, h => by
    simp only [PyData.eqv]
    exact eqvBs ds h
  | .none, h => by cases h
  | .dict _, h => by cases h
theorem eqvBs : ∀ ds : List PyData, plainBs ds = true → PyData.eqvAll ds ds = true
  | [], _ => by simp [PyData.eqvAll]
  | d :: r, h => by
    obtain ⟨a, b⟩ := Bool.and_eq_true_iff.mp (show (plainB d && plainBs r) = true from h)
    simp only [PyData.eqvAll]
    rw [eqvB d a, eqvBs r b]
    rfl
theorem layB : ∀ d : PyData, plainB d = true → PyData.canLay0 d = true
  | .str s, h => by
    simp only [PyData.canLay0]
    exact h
  | .int i, _ => by simp [PyData.canLay0]
  | .bool b, _ => by simp [PyData.canLay0]
  | .tuple ds, h => by
    simp only [PyData.canLay0]
    exact layBs ds h
  | .list ds, h => by
    simp only [PyData.canLay0]
    exact layBs ds h
  | .none, h => by cases h
  | .dict _, h => by cases h
theorem layBs : ∀ ds : List PyData, plainBs ds = true → PyData.canLayAll0 ds = true
  | [], _ => by simp [PyData.canLayAll0]
  | d :: r, h => by
    obtain ⟨a, b⟩ := Bool.and_eq_true_iff.mp (show (plainB d && plainBs r) = true from h)
    simp only [PyData.canLayAll0]
    rw [layB d a, layBs r b]
    rfl
end
theorem shapedB {d : PyData} (h : plainB d = true) (hd : PyData.depth d ≤ 60) : SeqAt.shaped d = true := by
  unfold SeqAt.shaped
  rw [layB d h, Bool.true_and]
  exact decide_eq_true (Nat.le_trans hd (by decide))
theorem plainBs_all : ∀ {ds : List PyData}, (∀ d ∈ ds, plainB d = true) → plainBs ds = true
  | [], _ => rfl
  | d :: r, h => Bool.and_eq_true_iff.mpr ⟨h d List.mem_cons_self, plainBs_all fun x hx => h x (List.mem_cons_of_mem _ hx)⟩
def LayD (m : Nat) (d : PyData) : Prop := plainB d = true ∧ PyData.depth d ≤ m
theorem LayD.tup {m : Nat} {ds : List PyData} (h : ∀ d ∈ ds, LayD m d) : LayD (m + 1) (.tuple ds) := ⟨plainBs_all fun d hd => (h d hd).1, by
  simp only [PyData.depth]
  have := depthAll_le (k := m) fun d hd => (h d hd).2
  omega⟩
theorem LayD.lst {m : Nat} {ds : List PyData} (h : ∀ d ∈ ds, LayD m d) : LayD (m + 1) (.list ds) := ⟨plainBs_all fun d hd => (h d hd).1, by
  simp only [PyData.depth]
  have := depthAll_le (k := m) fun d hd => (h d hd).2
  omega⟩
theorem LayD.up {m k : Nat} {d : PyData} (h : LayD m d) (hk : m ≤ k) : LayD k d := ⟨h.1, Nat.le_trans h.2 hk⟩
theorem LayD.str {s : Str} (m : Nat) (h : PyData.strOk s = true) : LayD m (.str s) := ⟨h, by simp [PyData.depth]⟩
theorem LayD.int (m : Nat) (i : Int) : LayD m (.int i) := ⟨rfl, by simp [PyData.depth]⟩
theorem rdF_lay {rd : Nat → Option PyData × Nat} {L : List Str} {m : Nat} (hL : ∀ i, PyData.strOk (L.getD i "") = true) (ih : ∀ p d, (rd p).1 = some d → LayD m d) : ∀ (wl : List Wi) (acc : List PyData) (p : Nat), (∀ d ∈ acc, LayD m d) → ∀ fs, (rdF rd L wl acc p).1 = some fs → ∀ d ∈ fs, LayD m d
  | [], acc, p, h, fs, e => by
    obtain rfl := Option.some.inj (show some acc = some fs from e)
    exact h
  | w :: wl, acc, p, h, fs, e => by
    have eF : rdF rd L (w :: wl) acc p = (match (rdW rd L w p).1 with | none => (none, (rdW rd L w p).2) | some d => rdF rd L wl (acc ++ [d]) (rdW rd L w p).2) := rfl
    rw [eF] at e
    cases hd : (rdW rd L w p).1 with
    | none =>
      rw [hd] at e
      cases e
    | some d =>
      rw [hd] at e
      have ld : LayD m d := by
        cases w with
        | term => exact ih p d hd
        | name =>
          have hd : (if nameB (L.getD p "") = true then (some (PyData.str (L.getD p "")), p + 1) else (none, p)).1 = some d := hd
          split at hd
          · obtain rfl := Option.some.inj hd
            exact .str m (hL p)
          · cases hd
        | count =>
          have hd : (if countB (L.getD p "") = true then (some (PyData.int (cval (L.getD p ""))), p + 1) else (none, p)).1 = some d := hd
          split at hd
          · obtain rfl := Option.some.inj hd
            exact .int m _
          · cases hd
        | _ => cases hd
      refine rdF_lay hL ih wl (acc ++ [d]) _ (fun x hx => ?_) fs e
      rcases List.mem_append.mp hx with z | z
      · exact h x z
      · obtain rfl := List.mem_singleton.mp z
        exact ld
theorem rdT_lay {L : List Str} (hL : ∀ i, PyData.strOk (L.getD i "") = true) : ∀ (f : Nat) (p : Nat) (d : PyData), (rdT f L p).1 = some d → LayD (f + 1) d := by
  have sk : LayD 1 skipD := .tup (m := 0) fun d hd => by
    obtain rfl := List.mem_singleton.mp hd
    exact .str 0 (by decide +kernel)
  intro f
  induction f with
  | zero =>
    intro p d e
    have e : (if L.getD p "" = "skip" then (some skipD, p + 1) else (none, p)).1 = some d := e
    split at e
    · obtain rfl := Option.some.inj e
      exact sk
    · cases e
  | succ f ih =>
    intro p d e
    by_cases h1 : L.getD p "" = "skip"
    · have e : (some skipD, p + 1).1 = some d := by
        have := e
        unfold rdT at this
        rw [if_pos h1] at this
        exact this
      obtain rfl := Option.some.inj e
      exact sk.up (by omega)
    · unfold rdT at e
      rw [if_neg h1] at e
      by_cases h2 : L.getD p "" = "("
      · rw [if_pos h2] at e
        by_cases h3 : L.getD (p + 1) "" ∈ formK
        · rw [if_pos h3] at e
          have hf := rdF_lay (m := f + 1) hL ih (fieldsW (L.getD (p + 1) "")) [.str (L.getD (p + 1) "")] (p + 2) (fun x hx => by
            obtain rfl := List.mem_singleton.mp hx
            exact .str _ (hL _))
          generalize rdF (rdT f L) L (fieldsW (L.getD (p + 1) "")) [.str (L.getD (p + 1) "")] (p + 2) = z at *
          obtain ⟨o, q⟩ := z
          cases o with
          | none => cases e
          | some fs =>
            have e : (if L.getD q "" = ")" then (some (PyData.tuple fs), q + 1) else (none, q)).1 = some d := e
            split at e
            · obtain rfl := Option.some.inj e
              exact .tup (hf fs rfl)
            · cases e
        · rw [if_neg h3] at e
          cases e
      · rw [if_neg h2] at e
        cases e
theorem rdR_lay {L : List Str} (hL : ∀ i, PyData.strOk (L.getD i "") = true) : ∀ (k : Nat) (acc : List PyData) (p : Nat), (∀ d ∈ acc, LayD 40 d) → ∀ rows, (rdR k L acc p).1 = some rows → ∀ d ∈ rows, LayD 40 d
  | 0, acc, p, h, rows, e => by cases e
  | k + 1, acc, p, h, rows, e => by
    unfold rdR at e
    split at e
    · split at e
      · split at e
        · have ht := rdT_lay hL 38 (p + 3)
          generalize rdT 38 L (p + 3) = z at *
          obtain ⟨o, q⟩ := z
          cases o with
          | none => cases e
          | some d =>
            have e : (if L.getD q "" = ")" then rdR k L (acc ++ [.tuple [.str (L.getD (p + 2) ""), d]]) (q + 1) else (none, q)).1 = some rows := e
            split at e
            · refine rdR_lay hL k _ _ (fun x hx => ?_) rows e
              rcases List.mem_append.mp hx with z | z
              · exact h x z
              · obtain rfl := List.mem_singleton.mp z
                refine .tup (m := 39) fun y hy => ?_
                rcases List.mem_cons.mp hy with rfl | hy
                · exact .str _ (hL _)
                · obtain rfl := List.mem_singleton.mp hy
                  exact ht _ rfl
            · cases e
        · cases e
      · cases e
    · split at e
      · obtain rfl := Option.some.inj e
        exact h
      · cases e
theorem rdP_lay {L : List Str} (hL : ∀ i, PyData.strOk (L.getD i "") = true) {rows : List PyData} (e : (rdP L).1 = some rows) : LayD 41 (.list rows) := by
  refine .lst (m := 40) ?_
  unfold rdP at e
  split at e
  · split at e
    · split at e
      · exact rdR_lay hL _ _ _ (fun d hd => by cases hd) rows e
      · cases e
    · cases e
  · cases e
/-! ### a due of either kind -/
def dueZ (L : List Str) (z : Option PyData × Nat) : Option PyData × Nat := match z.1 with
  | none => (none, z.2)
  | some d => if L.getD z.2 "" = "" then (some d, z.2) else (none, z.2)
def rdB (b : Bool) (L : List Str) : Option PyData × Nat := if b then ((rdP L).1.map PyData.list, (rdP L).2) else rdT 40 L 0
theorem dueZ_T (L : List Str) : dueZ L (rdB false L) = dueT L := rfl
theorem dueZ_P (L : List Str) : dueZ L (rdB true L) = ((dueP L).1.map PyData.list, (dueP L).2) := by
  show (match (rdP L).1.map PyData.list with | none => (none, (rdP L).2) | some d => if L.getD (rdP L).2 "" = "" then (some d, (rdP L).2) else (none, (rdP L).2)) = _
  unfold dueP
  cases (rdP L).1 with
  | none => rfl
  | some rows =>
    show (if L.getD (rdP L).2 "" = "" then (some (PyData.list rows), (rdP L).2) else (none, (rdP L).2)) = _
    dsimp only
    split <;> rfl
/-! ### texts by what they hold -/
def TxM (M : Nat) (f : Str) : Prop := PyData.strOk f = true ∧ f.length ≤ M
theorem strOk_app {a b : Str} (h1 : PyData.strOk a = true) (h2 : PyData.strOk b = true) : PyData.strOk (a ++ b) = true := by
  rw [strOk_iff] at *
  intro c hc
  rw [cps_app] at hc
  rcases List.mem_append.mp hc with h | h
  · exact h1 c h
  · exact h2 c h
theorem TxM.app {M N : Nat} {a b : Str} (h1 : TxM M a) (h2 : TxM N b) : TxM (M + N) (a ++ b) := ⟨strOk_app h1.1 h2.1, by rw [Str.length_append]; have := h1.2; have := h2.2; omega⟩
theorem TxM.up {M N : Nat} {a : Str} (h : TxM M a) (hn : M ≤ N) : TxM N a := ⟨h.1, Nat.le_trans h.2 hn⟩
theorem TxM.blk (k : Nat) : TxM k (blkS k) := ⟨by
  rw [strOk_iff]
  intro c hc
  have hc : c ∈ List.replicate k 32 := by
    unfold blkS at hc
    simpa using hc
  rw [List.eq_of_mem_replicate hc]
  decide, by rw [blkS_len]; exact Nat.le_refl _⟩
theorem rep_cps (a : Array Nat) : ∀ (k : Nat) (b : Array Nat), ((List.replicate k a).foldl (· ++ ·) b).toList = b.toList ++ (List.replicate k a.toList).flatten
  | 0, b => by simp
  | k + 1, b => by
    show ((List.replicate k a).foldl (· ++ ·) (b ++ a)).toList = _
    rw [rep_cps a k (b ++ a)]
    simp [List.replicate_succ]
theorem TxM.rep {M : Nat} {a : Str} (h : TxM M a) (k : Nat) : TxM (k * M) ⟨(List.replicate k a.cps).foldl (· ++ ·) #[]⟩ := by
  have e : (⟨(List.replicate k a.cps).foldl (· ++ ·) #[]⟩ : Str).cps.toList = (List.replicate k a.cps.toList).flatten := by
    show ((List.replicate k a.cps).foldl (· ++ ·) #[]).toList = _
    rw [rep_cps]
    simp
  refine ⟨?_, ?_⟩
  · rw [strOk_iff, e]
    intro c hc
    obtain ⟨l, hl, hc⟩ := List.mem_flatten.mp hc
    rw [List.eq_of_mem_replicate hl] at hc
    exact strOk_iff.mp h.1 c hc
  · rw [str_len, e, List.length_flatten, List.map_replicate, List.sum_replicate_nat]
    exact Nat.mul_le_mul_left _ h.2
section
variable {S : SR} {n n0 ka kb k i : Nat} {te to ta tb : TE} {t u : TS} {σ : L2.St} {G H G0 H0 : Hp} {nx bk ct : L2.St → Hp → Prop} {rt : VK} {D : Addr} {xs : List V} {v : V} {K : PySem.W.Frag}
/-- two ways that meet *) -/
theorem q_join (Jn : L2.St → Hp → Prop) (hu : ∀ σ' H', Jn σ' H' → u (Ends.mk nx rt bk ct) σ' H') (h : ∀ nx' : L2.St → Hp → Prop, (∀ σ' H', Jn σ' H' → nx' σ' H') → t (Ends.mk nx' rt bk ct) σ H) : tSeq t u (Ends.mk nx rt bk ct) σ H := h _ hu
/-- l.pop(), l told -/
theorem q_popG (st : Stab S) (s0 : S n0 G0 H0) (hD0 : H0 D = none) (hc : ∀ m G' J, S m G' J → S m (cut G' (· = D)) J) (s : S n G H) (gD : G D = some (.lst (xs ++ [v]))) (e1 : Ev S n ka to σ G (IsV (.ref D)))
    (h : ∀ G' H', Same G G' → S (n + ka) (upd G' D (.lst xs)) H' → u (Ends.mk nx rt bk ct) σ H') : tSeq (tDrop (tBM0 K "list" rPop to)) u (Ends.mk nx rt bk ct) σ H := by
  refine e1 G H (Same.refl _) s _ fun w G1 H1 s1 ew => ?_
  obtain rfl := (show _ = _ from ew)
  have d1 : H1 D = some (.lst (xs ++ [v])) := st.sub s1.s _ _ (s1.g _ _ gD)
  refine ⟨.inl ⟨rfl, _, SqL.of d1⟩, D, xs ++ [v], v, rfl, rfl, d1, by simp, ?_⟩
  rw [List.dropLast_concat]
  exact h G1 _ s1.g (st_chgT st s0 hD0 hc s1.s _)
theorem ev_catT {M N : Nat} (st : Stab S) (ha : Ev S n ka ta σ G (IsS (TxM M))) (hb : Ev S (n + ka) kb tb σ G (IsS (TxM N))) (hl : M + N ≤ 16000000) : Ev S n (ka + kb) (tOp rAddA ta tb) σ G (IsS (TxM (M + N))) :=
  ev_op ha hb fun x y G' s' hx hy => by
    obtain ⟨a, pa, rfl⟩ := hx
    obtain ⟨b, pb, rfl⟩ := hy
    have hsz : (16000000 : Nat) ≤ sizeLine := by decide
    exact rv_imp (v_adds st (by have := pa.2; have := pb.2; omega)) fun v G2 s2 r => ⟨_, pa.app pb, r⟩
theorem ev_TxC {M : Nat} {s : Str} (h : TxM M s) : Ev S n 0 (tC (.str s)) σ G (IsS (TxM M)) := ev_c.imp fun v G' s' e => ⟨s, h, e⟩
theorem ev_TxV {M : Nat} {s : Str} (e : Ev S n k te σ G (IsV (.str s))) (h : TxM M s) : Ev S n k te σ G (IsS (TxM M)) := e.imp fun v G' s' e => ⟨s, h, e⟩
end
end L2.DS
/-! Rows of words: their lengths; texts made of them. -/
namespace L2.DS
open PySem PySem.Spec PyProof.Rows
def sumL (L : List Str) : Nat := (L.map (·.length)).sum
theorem sumL_app (a b : List Str) : sumL (a ++ b) = sumL a + sumL b := by
  unfold sumL
  rw [List.map_append, List.sum_append]
theorem sumL_one (s : Str) : sumL [s] = s.length := by simp [sumL]
theorem sumL_td (L : List Str) (k : Nat) : sumL (L.take k) + sumL (L.drop k) = sumL L := by
  rw [← sumL_app, List.take_append_drop]
theorem str_e0 : ("" : Str).length = 0 := by decide +kernel
theorem fl_sum (st : ScSt) : sumL (fl st) = sumL st.1 + st.2.length := by
  unfold fl
  rw [sumL_app]
  split
  · rename_i h
    rw [h, str_e0]
    rfl
  · rw [sumL_one]
theorem fl_len1 (c : Nat) (st : ScSt) : sumL (fl (scS st c)) ≤ sumL (fl st) + 1 := by
  unfold scS
  split
  · rw [fl_sum]
    show sumL (fl st ++ _) + ("" : Str).length ≤ _
    rw [sumL_app, str_e0]
    split
    · show _ + 0 + 0 ≤ _
      omega
    · rw [sumL_one]
      show _ + 1 + 0 ≤ _
      omega
  · rw [fl_sum, fl_sum]
    show sumL st.1 + (st.2 ++ (⟨#[c]⟩ : Str)).length ≤ _
    rw [Str.length_append]
    show _ + (_ + 1) ≤ _
    omega
theorem scan_len (l : List Nat) : ∀ st : ScSt, sumL (fl (l.foldl scS st)) ≤ sumL (fl st) + l.length := by
  induction l with
  | nil => intro st; exact Nat.le_refl _
  | cons c r ih =>
    intro st
    have a := ih (scS st c)
    have b := fl_len1 c st
    show sumL (fl (r.foldl scS (scS st c))) ≤ _ + (r.length + 1)
    omega
theorem toks_sum (s : Str) : sumL ((toksP s).map (·.1)) ≤ s.length := by
  rw [toks_words, sumL_app, sumL_one, str_e0]
  have := scan_len s.cps.toList ([], "")
  have e : sumL (fl (([], "") : ScSt)) = 0 := by
    rw [fl_sum]
    show sumL [] + ("" : Str).length = 0
    rw [str_e0]
    rfl
  rw [e] at this
  have e2 : s.cps.toList.length = s.length := rfl
  unfold scan
  omega
theorem toks_cnt (s : Str) : (toksP s).length ≤ s.length + 2 := by
  have := (tkAt_len (s.cps.toList ++ [32]) (s.length + 1)).1
  unfold toksP
  rw [List.length_append]
  show _ + 1 ≤ _
  omega
theorem strOk_join {s : Str} (hs : PyData.strOk s = true) : ∀ {ys : List Str}, (∀ y ∈ ys, PyData.strOk y = true) → PyData.strOk (Txt.join s ys) = true
  | [], _ => (show PyData.strOk "" = true by decide +kernel)
  | [a], h => by
    rw [join_one]
    exact h a List.mem_cons_self
  | a :: b :: r, h => by
    rw [join_cons2]
    exact strOk_app (strOk_app (h a List.mem_cons_self) hs) (strOk_join hs fun y hy => h y (List.mem_cons_of_mem _ hy))
theorem strOk_wrap {ws : List Str} (h : ∀ w ∈ ws, PyData.strOk w = true) : PyData.strOk (wrapS ws) = true := by
  unfold wrapS
  exact strOk_app (strOk_app (by decide +kernel) (strOk_join (by decide +kernel) h)) (by decide +kernel)
theorem tm_txOk : ∀ {m : Nat} {t : Tm}, TmIn Nm12 Nm12 Nm12 m t → PyData.strOk t.txt = true := by
  obtain ⟨k1, k2, k3, k4, k5, k6, k7, k8, k9, k0⟩ := kw_ok
  have w2 : ∀ {a b : Str}, PyData.strOk a = true → PyData.strOk b = true → PyData.strOk (wrapS [a, b]) = true := fun ha hb => strOk_wrap fun w hw => by
    simp only [List.mem_cons, List.not_mem_nil, or_false] at hw
    rcases hw with rfl | rfl <;> assumption
  have w3 : ∀ {a b c : Str}, PyData.strOk a = true → PyData.strOk b = true → PyData.strOk c = true → PyData.strOk (wrapS [a, b, c]) = true := fun ha hb hc => strOk_wrap fun w hw => by
    simp only [List.mem_cons, List.not_mem_nil, or_false] at hw
    rcases hw with rfl | rfl | rfl <;> assumption
  have w4 : ∀ {a b c d : Str}, PyData.strOk a = true → PyData.strOk b = true → PyData.strOk c = true → PyData.strOk d = true → PyData.strOk (wrapS [a, b, c, d]) = true := fun ha hb hc hd => strOk_wrap fun w hw => by
    simp only [List.mem_cons, List.not_mem_nil, or_false] at hw
    rcases hw with rfl | rfl | rfl | rfl <;> assumption
  intro m t
  induction t generalizing m with
  | skip => intro _; exact k0
  | deed s => intro h; have h : Nm12 s := by cases m <;> exact h
              exact w2 k1 h.2
  | call s => intro h; have h : Nm12 s := by cases m <;> exact h
              exact w2 k2 h.2
  | leave s => intro h; have h : Nm12 s := by cases m <;> exact h
               exact w2 k3 h.2
  | loop t ih =>
    intro h
    cases m with
    | zero => exact h.elim
    | succ m => exact w2 k4 (ih (m := m) h)
  | times n t ih =>
    intro h
    cases m with
    | zero => exact h.elim
    | succ m => exact w3 k5 (num_tk h.1.1 h.1.2).2 (ih (m := m) h.2)
  | seq t u i1 i2 =>
    intro h
    cases m with
    | zero => exact h.elim
    | succ m => exact w3 k6 (i1 (m := m) h.1) (i2 (m := m) h.2)
  | either t u i1 i2 =>
    intro h
    cases m with
    | zero => exact h.elim
    | succ m => exact w3 k7 (i1 (m := m) h.1) (i2 (m := m) h.2)
  | clean t u i1 i2 =>
    intro h
    cases m with
    | zero => exact h.elim
    | succ m => exact w3 k8 (i1 (m := m) h.1) (i2 (m := m) h.2)
  | ctch s t u i1 i2 =>
    intro h
    cases m with
    | zero => exact h.elim
    | succ m =>
      have hs : Nm12 s := h.1
      exact w4 k9 hs.2 (i1 (m := m) h.2.1) (i2 (m := m) h.2.2)
theorem tm_TxM {m : Nat} {t : Tm} (h : TmIn Nm12 Nm12 Nm12 m t) : TxM (200 * 2 ^ m) t.txt := ⟨tm_txOk h, by have := txt_len h; omega⟩
theorem TxM.join {M N : Nat} {s : Str} (hs : TxM M s) {ys : List Str} (h : ∀ y ∈ ys, TxM N y) : TxM (ys.length * (N + M)) (Txt.join s ys) := by
  refine ⟨strOk_join hs.1 fun y hy => (h y hy).1, ?_⟩
  induction ys with
  | nil =>
    show ("" : Str).length ≤ _
    rw [str_e0]
    exact Nat.zero_le _
  | cons a r ih =>
    have ha := (h a List.mem_cons_self).2
    have hM := hs.2
    cases r with
    | nil =>
      rw [join_one]
      simp only [List.length_cons, List.length_nil]
      omega
    | cons b r =>
      have := ih fun y hy => h y (List.mem_cons_of_mem _ hy)
      rw [join_cons2, Str.length_append, Str.length_append, List.length_cons, Nat.succ_mul]
      omega
/-! ### rows of words -/
structure Wds (B N : Nat) (L : List Str) : Prop where
  ok : ∀ w ∈ L, PyData.strOk w = true
  s : sumL L ≤ B
  n : L.length ≤ N
theorem Wds.take {B N : Nat} {L : List Str} (h : Wds B N L) (k : Nat) : Wds B N (L.take k) := ⟨fun w hw => h.ok w (List.mem_of_mem_take hw), by have := sumL_td L k; have := h.s; omega, by have := h.n; rw [List.length_take]; omega⟩
theorem Wds.put {B N : Nat} {L : List Str} (h : Wds B N L) {s : Str} (hs : TxM 61 s) {k j : Nat} (hj : k ≤ j) : Wds (B + 61) (N + 1) (L.take k ++ [s] ++ L.drop j) := by
  have h1 := sumL_td L k
  have h2 := sumL_td (L.drop k) (j - k)
  rw [List.drop_drop, show k + (j - k) = j by omega] at h2
  have := h.s
  have := h.n
  have := hs.2
  refine ⟨fun w hw => ?_, ?_, ?_⟩
  · rcases List.mem_append.mp hw with hw | hw
    · rcases List.mem_append.mp hw with hw | hw
      · exact h.ok w (List.mem_of_mem_take hw)
      · obtain rfl := List.mem_singleton.mp hw
        exact hs.1
    · exact h.ok w (List.mem_of_mem_drop hw)
  · rw [sumL_app, sumL_app, sumL_one]
    omega
  · rw [List.length_append, List.length_append, List.length_take, List.length_drop]
    show _ + 1 + _ ≤ _
    omega
theorem Wds.cut {B N : Nat} {L : List Str} (h : Wds B N L) {k j : Nat} (hj : k ≤ j) : Wds B N (L.take k ++ L.drop j) := by
  have h1 := sumL_td L k
  have h2 := sumL_td (L.drop k) (j - k)
  rw [List.drop_drop, show k + (j - k) = j by omega] at h2
  have := h.s
  have := h.n
  refine ⟨fun w hw => ?_, ?_, ?_⟩
  · rcases List.mem_append.mp hw with hw | hw
    · exact h.ok w (List.mem_of_mem_take hw)
    · exact h.ok w (List.mem_of_mem_drop hw)
  · rw [sumL_app]
    omega
  · rw [List.length_append, List.length_take, List.length_drop]
    omega
theorem Wds.up {B N B' N' : Nat} {L : List Str} (h : Wds B N L) (hB : B ≤ B') (hN : N ≤ N') : Wds B' N' L := ⟨h.ok, Nat.le_trans h.s hB, Nat.le_trans h.n hN⟩
def IsWds (B N : Nat) : HR := fun v G => ∃ p L, v = .ref p ∧ G p = some (.lst (L.map V.str)) ∧ Wds B N L
instance (B N) : Mon (IsWds B N) := ⟨fun s ⟨p, L, e, g, h⟩ => ⟨p, L, e, s _ _ g, h⟩⟩
def PBnt : Addr → List V → Nat → Nat → Hp → HR → Prop := fun sa vs _ k G R => ∃ (p : Addr) (L : List Str) (B N : Nat), vs = [.ref sa, .ref p] ∧ G p = some (.lst (L.map V.str)) ∧ Wds B N L ∧ N ≤ 50000 ∧ k = 4 ∧ R = IsWds (B + 61) (N + 1)
def PLaid : Addr → List V → Nat → Nat → Hp → HR → Prop := fun sa vs _ k G R => ∃ (p : Addr) (L : List Str) (B N : Nat), vs = [.ref sa, .ref p] ∧ G p = some (.lst (L.map V.str)) ∧ Wds B N L ∧ B + 3 * N + 4 ≤ 15000 ∧ k = N + 2 ∧ R = IsS (TxM 15000)
/-! ### texts several times -/
def repS (a : Str) (k : Nat) : Str := ⟨(List.replicate k a.cps).foldl (· ++ ·) #[]⟩
theorem TxM.repS {M : Nat} {a : Str} (h : TxM M a) (k : Nat) : TxM (k * M) (repS a k) := TxM.rep h k
section
variable {S : SR} {n k ka kb : Nat} {te ta tb : TE} {σ : L2.St} {G : Hp} {a : Str} {P : Int → Prop} {M : Nat} {K : PySem.W.Frag} {g : TG} {el : TE} {tt : TT} {vs : List Nat} {R0 R : HR}
theorem v_repS (st : Stab S) {k : Nat} (h0 : 2 ≤ k) (h1 : k ≤ 1000) (h2 : 1 ≤ a.length) (h3 : a.length ≤ 1000) : RV S rMulS (.str a) (.int (k : Nat)) G (IsV (.str (repS a k))) := by
  have hz : (repS a k).cps.size ≤ sizeLine := by
    have : (repS a k).cps.size ≤ 1000 * 1000 := by
      unfold repS
      have : ((List.replicate k a.cps).foldl (· ++ ·) #[]).size = ((List.replicate k a.cps).foldl (· ++ ·) #[]).toList.length := rfl
      show ((List.replicate k a.cps).foldl (· ++ ·) #[]).size ≤ _
      rw [this, rep_cps]
      simp only [List.length_append, List.length_flatten, List.map_replicate, List.sum_replicate_nat]
      have : k * a.cps.toList.length ≤ 1000 * 1000 := Nat.mul_le_mul h1 h3
      simpa using this
    have e : (1000 * 1000 : Nat) ≤ sizeLine := by decide
    exact Nat.le_trans this e
  exact rv_val (fun H _ Q q => ⟨a, (k : Nat), rfl, rfl, by omega, by omega, h2, h3, hz, q⟩) st
theorem ev_repT (st : Stab S) (h : TxM M a) (h1 : 1 ≤ a.length) (h2 : a.length ≤ 1000) (hP : ∀ i, P i → 2 ≤ i ∧ i ≤ 900) (e1 : Ev S n ka ta σ G (IsV (.str a))) (e2 : Ev S (n + ka) kb tb σ G (IsI P)) : Ev S n (ka + kb) (tOp rMulS ta tb) σ G (IsS (TxM (900 * M))) :=
  ev_op e1 e2 fun x y G' s' hx hy => by
    obtain rfl := (show _ = _ from hx)
    obtain ⟨i, hi, rfl⟩ := hy
    obtain ⟨i', rfl⟩ : ∃ b : Nat, i = (b : Nat) := ⟨i.toNat, by have := hP i hi; omega⟩
    have := hP _ hi
    exact rv_imp (v_repS st (by omega) (by omega) h1 h2) fun v G2 s2 r => ⟨_, (h.repS i').up (Nat.mul_le_mul_right _ (by omega)), r⟩
/-- [.. for .. in e ..]: e first -/
theorem ev_lcFst {k2 : Nat} (h : Ev S n k te σ G R0) (h2 : ∀ v G2, Same G G2 → R0 v G2 → Ev S (n + k) k2 (tLc (iList K (tC v)) g tt el vs) σ G2 R) : Ev S n (k + k2) (tLc (iList K te) g tt el vs) σ G R := fun G1 H1 s0 s Q q =>
  h G1 H1 s0 s (fun v H2 => tLc (iList K (tC v)) g tt el vs σ H2 Q) fun v G2 H2 s2 r => h2 v G2 (s0.trans s2.g) r G2 H2 (Same.refl _) s2.s Q fun w G3 H3 s3 r3 => q w G3 H3 (s2.trans s3).up r3
/-- a def that leaves the heap, its result told by less -/
theorem ev_callPW {t : TA} {P : List V → Hp → HR → Prop} {dvs : List V} {E : XK} {RA : HRs} (st : Stab S) (h : EvA S n k t σ G RA) (hp : ∀ vs G', Same G G' → RA vs G' → ∃ R0, P (vs ++ dvs) G' R0 ∧ ∀ v G2, R0 v G2 → R v G2) : Ev S n k (tCall (spP P) dvs E t) σ G R := fun G1 H1 s0 s Q q =>
  h G1 H1 s0 s _ fun vs G2 H2 s2 e => by
    obtain ⟨R1, hP, hR⟩ := hp vs G2 (s0.trans s2.g) e
    exact ⟨G2, R1, st.sub s2.s, hP, fun v G' H' g r => q v G' H' (s2.trans (st.gro s2.s g)) (hR v G' r)⟩
end
end L2.DS
namespace L2.DS
open PySem PySem.Spec PyProof.Rows
def top (i : Nat) : Stmt := PySem.Challenge.pw_deedscale_k20_texts_refused.main.body.getD i (.Pass ⟨0, 0, 0, 0⟩)
local macro_rules | `(tactic| walk_at "sq") => `(tactic| first | assumption | exact SqL.of (by assumption) | exact SqT.of (by assumption) | (refine Same.seq (by assumption) ?_; walk_at "sq") | (refine same_t (by assumption) ?_; walk_at "sq"))
local macro_rules | `(tactic| walk_at "sd") => `(tactic| first | assumption | omega | decide | (simp; done) | (simp_all; done))
local macro_rules | `(tactic| walk_at "rv") => `(tactic| first
  | with_reducible exact v_add (by assumption) | with_reducible exact v_sub (by assumption) | with_reducible exact v_lt (by assumption) | with_reducible exact v_le (by assumption) | with_reducible exact v_gt (by assumption) | with_reducible exact v_ge (by assumption)
  | with_reducible exact v_eqI (by assumption) | with_reducible exact v_eqB (by assumption) | with_reducible exact v_eqS (by assumption) | with_reducible exact v_neI (by assumption) | with_reducible exact v_neS (by assumption)
  | ((with_reducible refine v_mod (by assumption) ?_); walk_at "sd") | ((with_reducible refine v_mul (by assumption) ?_); first | exact .inl ⟨by omega, by omega⟩ | exact .inr ⟨by omega, by omega⟩) | ((with_reducible refine v_div (by assumption) ?_); exact ⟨by omega, by omega⟩)
  | ((with_reducible apply v_ixL); assumption; walk_at "sq"; walk_at "sd") | ((with_reducible apply v_ixT); assumption; walk_at "sq"; walk_at "sd")
  | exact v_isN (by assumption) | exact v_notN (by assumption))
local macro_rules | `(tactic| walk_at "rc") => `(tactic| first
  | ((with_reducible apply c_lenL); assumption; walk_at "sq") | ((with_reducible apply c_lenT); assumption; walk_at "sq") | with_reducible exact c_abs (by assumption) | with_reducible exact c_int (by assumption) | with_reducible exact c_intB (by assumption))
local macro_rules | `(tactic| walk_at "ev") => `(tactic| first
  | with_reducible exact ev_c
  | ((with_reducible apply ev_var); rfl)
  | ((with_reducible apply ev_opV); walk_at "ev"; walk_at "ev"; walk_at "rv")
  | ((with_reducible apply ev_unV); walk_at "ev"; exact u_neg (by assumption))
  | ((with_reducible apply ev_ifV); assumption; walk_at "et"; (intro _; walk_at "ev"); (intro _; walk_at "ev"))
  | ((with_reducible apply ev_cbV); walk_at "ea"; walk_at "rc")
  | ((with_reducible apply ev_andV); assumption; walk_at "ev"; (intro _; walk_at "ev"))
  | ((with_reducible apply ev_orV); assumption; walk_at "ev"; (intro _; walk_at "ev"))
  | ((with_reducible apply ev_notV); walk_at "ev")
  | assumption)
local macro_rules | `(tactic| walk_at "ea") => `(tactic| first
  | with_reducible exact ea_nilV
  | ((with_reducible apply ea_consV); walk_at "ev"; walk_at "ea"))
local macro_rules | `(tactic| walk_at "et") => `(tactic| first
  | ((with_reducible apply et_testV); walk_at "ev")
  | ((with_reducible apply et_B); walk_at "ev")
  | ((with_reducible apply et_and); assumption; walk_at "et"; (intro _; walk_at "et"))
  | ((with_reducible apply et_or); assumption; walk_at "et"; (intro _; walk_at "et"))
  | ((with_reducible apply et_not); walk_at "et"))
local macro_rules | `(tactic| walk_at "qn") => `(tactic| repeat (with_reducible refine q_end ?_))
local macro_rules | `(tactic| walk_at "qif") => `(tactic| (walk_at "qn"; (with_reducible apply q_if); assumption; assumption; walk_at "et"))
local macro_rules | `(tactic| walk_at "qret") => `(tactic| (walk_at "qn"; (with_reducible apply q_retV); assumption; assumption; walk_at "ev"))
local macro_rules | `(tactic| walk_at "qset") => `(tactic| (walk_at "qn"; (with_reducible apply q_setV); assumption; assumption; walk_at "ev"))
section
variable {P : Program} {w : World} {K : PySem.W.Frag} {mg : Str → Option Value} {base : Heap}
theorem getInt {ns : List Int} {j : Nat} {x : V} (h : (ns.map V.int)[j]? = some x) : ∃ i, ns[j]? = some i ∧ x = .int i := by
  rw [List.getElem?_map] at h
  cases e : ns[j]? with
  | none => rw [e] at h; cases h
  | some i => rw [e] at h; exact ⟨i, rfl, (Option.some.inj h).symm⟩
theorem mapRange {ns : List Int} (g : Int → Int) {x : Nat → V} (m : Nat) (hm : m = ns.length) (h : ∀ j i, ns[j]? = some i → x j = .int (g i)) : (List.range m).map x = (ns.map g).map V.int := by
  subst hm
  refine List.ext_getElem? fun j => ?_
  rw [List.getElem?_map, List.getElem?_map, List.getElem?_map]
  by_cases hj : j < ns.length
  · rw [List.getElem?_range hj, List.getElem?_eq_getElem hj]
    show some (x j) = some (V.int (g ns[j]))
    rw [h j _ (List.getElem?_eq_getElem hj)]
  · rw [List.getElem?_eq_none (l := List.range ns.length) (by rw [List.length_range]; omega), List.getElem?_eq_none (l := ns) (by omega)]
    rfl
theorem getRev {ns : List Int} {j : Nat} (hj : j < ns.length) : atI (ns.map V.int) (((ns.map V.int).length : Int) - 1 - (j : Int)) = some (.int (ns.getD (ns.length - 1 - j) 0)) := by
  rw [show (((ns.map V.int).length : Nat) : Int) = (ns.length : Int) by rw [List.length_map]]
  have e : ((ns.length : Int) - 1 - (j : Int)) = ((ns.length - 1 - j : Nat) : Int) := by omega
  have h1 : ixN ns.length ((ns.length - 1 - j : Nat) : Int) = some (ns.length - 1 - j) := by
    unfold ixN
    rw [if_pos (by omega), if_pos (by omega)]
    all_goals rfl
  unfold atI
  rw [e, List.length_map, h1]
  show (ns.map V.int)[ns.length - 1 - j]? = _
  rw [List.getElem?_map, List.getElem?_eq_getElem (by omega), List.getD_eq_getElem?_getD, List.getElem?_eq_getElem (by omega)]
  rfl
theorem merge_src {cl : Addr} {l m t : Int} : mergeK [] (srcK cl l m t) = srcK cl l m t := by
  have a := ne_lc
  have b := ne_mc
  have c := ne_tc
  have d := ne_ml
  have e := ne_tl
  have f := ne_tm
  simp [mergeK, srcK, putK, a, b, c, d, e, f]
abbrev s__law_source : Stmt := top 18
theorem sc__law_source : FnScope ["_law_script", "_law_mixed", "_law_cell", "_law_cells", "_law_k"] ["_law_script"] (defScope s__law_source) := ⟨rfl, rfl, rfl, by decide +kernel, rfl, by decide +kernel, by decide +kernel⟩
theorem ok_source {f : Addr} {fd : FuncData} (Z : Bi mg) (F : Fun K "_law_source" "_law_source" s__law_source f fd) : FnOk P w K mg base CX0 1 f fd ["_law_script"] (sp_source K) := by
  refine F.ok sc__law_source (fun vs H Q E h => ?_) (fun cdv A outer s H vs Q E hr h => ?_)
  · obtain ⟨p, ns, rfl, _⟩ := h
    rfl
  · obtain ⟨p, ns, rfl, hq, hl, q⟩ := h
    refine ⟨_, (pss_cons (ps_set (i := 1) sc__law_source.nd rfl (Or.inl rfl) pe_int)
  (pss_cons (ps_for PassesOwn.never rfl (pi_listK K (pv 0)) (pg_name (i := 2) sc__law_source.nd rfl (Or.inl rfl)) (pss_cons (ps_set (i := 1) sc__law_source.nd rfl (Or.inl rfl) (pe_op op_modA (pe_callTy call_intA (by rfl) Z.z_int (by decide +kernel) (pa_cons (pe_op op_addA (pe_op op_addA (pe_op op_mulA (pv 1) pe_int) (pe_op op_mulA (pv 2) pe_int)) pe_int) pa_nil)) pe_int))
  pss_nil))
  (pss_cons (ps_set (i := 3) sc__law_source.nd rfl (Or.inr rfl) (pe_lc (own := [("_law_cell", 2)]) (g := (gName 2)) rfl sc__law_source.nd (pi_listK K (pv 0)) (blkOk_by (by kernel_rfl)) (fun _ _ _ _ _ => (pg_name (i := 2) sc__law_source.nd rfl (Or.inl rfl))) (fun _ _ _ _ _ => pts_nil) (fun _ _ _ _ _ => (pe_callB call_absA (by rfl) Z.z_abs (by decide +kernel) (pa_cons (pv 2) pa_nil)))))
  (pss_cons (ps_ret (pe_disp (pps_cons pe_str (pe_lc (own := [("_law_k", 4)]) (g := (gName 4)) rfl sc__law_source.nd (pi_range1 (by rfl) Z.z_range (pa_cons (pe_callB (call_lenA K) (by rfl) Z.z_len PySem.boot_len (pa_cons (pv 3) pa_nil)) pa_nil)) (blkOk_by (by kernel_rfl)) (fun _ _ _ _ _ => (pg_name (i := 4) sc__law_source.nd rfl (Or.inl rfl))) (fun _ _ _ _ _ => pts_nil) (fun _ _ _ _ _ => (pe_ix (ix_any K (hu_of hr)) (pv 3) (pe_op op_subA (pe_op op_subA (pe_callB (call_lenA K) (by rfl) Z.z_len PySem.boot_len (pa_cons (pv 3) pa_nil)) pe_int) (pv 4)) (fun _ _ => rfl)))) (pps_cons pe_str pe_int (pps_cons pe_str (pv 1) (pps_cons pe_str pe_int pps_nil)))) (by rfl) (by rfl) (fun z => by cases z) (by decide)))
  pss_nil)))), ?_⟩
    have st := stab0 H H
    have hS : SP0 H H 0 H H := Grow.refl (Same.refl H)
    show tSeq _ _ (Ends.mk _ _ _ _) [some _, none, none, none, none] _
    walk_at "qset"
    intro H1 k1 h1
    walk_at "qn"
    refine q_forL st h1 (ev_var rfl) hq (fun _ => 0) (fun j σ' G' H' => ∃ m c, 0 ≤ m ∧ m < 2147483629 ∧ σ' = [some (.ref p), some (.int m), c, none, none]) rfl (fun H2 k2 h2 => ⟨11, none, by decide, by decide, rfl⟩) (fun j x σ' G' H2 hx s2 h2 hp => ?_) (fun σ' G' H2 s2 h2 hp => ?_)
    · obtain ⟨m, c, hm0, hm1, rfl⟩ := hp
      obtain ⟨i, hi, rfl⟩ := getInt hx
      show tSeq _ _ (Ends.mk _ _ _ _) [some (.ref p), some (.int m), some (.int i), none, none] _
      have e1 : CMul m 69069 := .inr ⟨by decide, by decide⟩
      have e2 : CMul i 31 := .inr ⟨by decide, by decide⟩
      refine q_setV st h2 (ev_opV (ev_cbV (ea_consV (ev_opV (ev_opV (ev_opV (ev_var rfl) ev_c (v_mul st e1)) (ev_opV (ev_var rfl) ev_c (v_mul st e2)) (v_add st)) ev_c (v_add st)) ea_nilV) (c_int st)) ev_c (v_mod st (by decide))) fun H3 k3 h3 => ?_
      refine q_end ⟨G', s2, st.wk h3 (by omega), _, _, Int.emod_nonneg _ (by decide), Int.emod_lt_of_pos _ (by decide), rfl⟩
    · obtain ⟨m, c, hm0, hm1, rfl⟩ := hp
      walk_at "qn"
      refine q_set h2 (ev_lcL (c1 := 0) st (fun j => IsV (.int (if ns.getD j 0 < 0 then -ns.getD j 0 else ns.getD j 0))) (ev_var rfl) (s2.seq hq) (by rw [List.length_map]; exact hl) (fun j x G2 hx s3 => ?_) (fun x => rfl)) fun v G3 H3 s3 hv => ?_
      · obtain ⟨i, hi, rfl⟩ := getInt hx
        have e : ns.getD j 0 = i := by rw [List.getD_eq_getElem?_getD, hi]; rfl
        rw [e]
        exact ev_cbV (ea_consV (ev_var rfl) ea_nilV) (c_abs st)
      · obtain ⟨pl, rfl, hpl⟩ := isLR_V (K := K) hv.lr
        rw [mapRange (ns := ns) (fun i => if i < 0 then -i else i) _ (by rw [List.length_map]) (fun j i h => by rw [List.getD_eq_getElem?_getD, h]; rfl)] at hpl
        generalize hc : ns.map (fun i : Int => if i < 0 then -i else i) = cs at hpl
        have lc : cs.length = ns.length := by rw [← hc, List.length_map]
        have cp : ∀ c ∈ cs, 0 ≤ c := by
          intro c h
          rw [← hc] at h
          obtain ⟨i, _, rfl⟩ := List.mem_map.mp h
          show 0 ≤ (if i < 0 then -i else i)
          split <;> omega
        walk_at "qn"
        show tDisp _ _ _ Q
        intro sa hsa
        have sH3 : Same H H3 := s3.s.h
        have sA : Same G3 (upd H3 sa (.dK [])) := fun b o e => by
          rw [upd_ne (ne_of_none (s3.s.s b o e) hsa)]
          exact s3.s.s b o e
        have stA := stab0 G3 (upd H3 sa (.dK []))
        have hA : SP0 G3 (upd H3 sa (.dK [])) 0 G3 (upd H3 sa (.dK [])) := Grow.refl sA
        unfold tPairs
        refine tC_run ?_
        show tLc _ _ _ _ _ _ _ _
        refine ev_lcR (c1 := 0) stA (fun j => IsV (.int (cs.getD (cs.length - 1 - j) 0))) (ea_consV (ev_cbV (ea_consV (ev_var rfl) ea_nilV) (c_lenL stA hpl)) ea_nilV) (by omega) (by rw [List.length_map]; omega) (fun j G4 hj s4 => ?_) (fun x => rfl) G3 _ (Same.refl _) hA _ fun v G4 H4 s4 hv4 => ?_
        · rw [List.length_map] at hj
          exact ev_opV (ev_var rfl) (ev_opV (ev_opV (ev_cbV (ea_consV (ev_var rfl) ea_nilV) (c_lenL stA (s4.seq hpl))) ev_c (v_sub stA)) (ev_var rfl) (v_sub stA)) (v_ixL stA (s4.seq hpl) (getRev (by omega)))
        · obtain ⟨cl, ys, rfl, f4, h4, l4, r4⟩ := hv4
          have hsa4 : H4 sa = some (.dK []) := s4.k.k sa _ (fun z => z) upd_same
          have l5 : ys.length = cs.length := by rw [l4, Int.toNat_natCast, List.length_map]
          have ecl : ys = ((List.range cs.length).map fun j => cs.getD (cs.length - 1 - j) 0).map V.int := by
            refine List.ext_getElem? fun j => ?_
            by_cases hj : j < cs.length
            · have q1 : ys[j]? = some ys[j] := List.getElem?_eq_getElem (by omega)
              rw [q1, show ys[j] = V.int (cs.getD (cs.length - 1 - j) 0) from r4 j _ q1, List.getElem?_map, List.getElem?_map, List.getElem?_range hj]
              rfl
            · rw [List.getElem?_eq_none (by omega), List.getElem?_eq_none (by rw [List.length_map, List.length_map, List.length_range]; omega)]
          have hcl : H4 cl = some (.lst (((List.range cs.length).map fun j => cs.getD (cs.length - 1 - j) 0).map V.int)) := by
            rw [← ecl]
            exact (stA.sub s4.s) _ _ h4
          have nsa : cl ≠ sa := fun z => by
            rw [z, hsa4] at hcl
            cases hcl
          unfold tPairs
          refine tC_run (tC_run ?_)
          unfold tPairs
          refine tC_run (tVar_run rfl ?_)
          unfold tPairs
          refine tC_run (tC_run ?_)
          unfold tPairs
          refine ⟨hsa4, srcK cl 1 m 0, rfl, (by decide : 4 ≤ 15), ?_⟩
          rw [merge_src]
          refine q sa cl _ (fun b o e => ?_) (sH3.free hsa) ((s2.trans s3.g).free f4) ⟨_, 1, m, 0, upd_same, by rw [upd_ne nsa]; exact hcl, fun c hc => ?_, by decide, hm0, hm1, by decide, by decide⟩
          · have e3 := sH3 b o e
            have nb := ne_of_none e3 hsa
            rw [upd_ne nb]
            exact s4.k.k b o (fun z => z) (by rw [upd_ne nb]; exact e3)
          · obtain ⟨j, hj, rfl⟩ := List.mem_map.mp hc
            have := List.mem_range.mp hj
            rw [List.getD_eq_getElem?_getD, List.getElem?_eq_getElem (by omega)]
            exact cp _ (List.getElem_mem _)
abbrev s__law_pick : Stmt := top 19
theorem sc__law_pick : FnScope ["_law_source_here", "_law_many", "_law_cells", "_law_left", "_law_turn", "_law_mixed"] ["_law_source_here", "_law_many"] (defScope s__law_pick) := ⟨rfl, rfl, rfl, by decide +kernel, rfl, by decide +kernel, by decide +kernel⟩
theorem kp_upd {S : SR} {H J : Hp} {a : Addr} {o : HO} (k : Kp S H J) (m : S.m a) : Kp S H (upd J a o) := ⟨fun b u nm e => by
  rw [upd_ne (fun z => nm (by rw [z]; exact m))]
  exact k.k b u nm e, fun b e => by
  by_cases hb : b = a
  · rw [hb, upd_same] at e
    cases e
  · rw [upd_ne hb] at e
    exact k.v b e⟩
theorem src_end {sa cl : Addr} {n : Nat} {G H F : Hp} (sG : Same G H) (gs : G sa = none) (gc : G cl = none) (k : Kp (Src sa cl) H F) (h : SrcAt sa cl n F) : Stp (Src sa cl) n G H G F :=
  ⟨Same.refl _, k, ⟨fun b o e => k.k b o (fun z => by
    rcases z with z | z
    · rw [z, gs] at e
      cases e
    · rw [z, gc] at e
      cases e) (sG b o e), gs, gc, h⟩, fun _ _ e => .inl e⟩
/-- cells are popped until a number is left -/
def PopAt (st cl : Addr) (mx t : Int) (H0 : Hp) (cs : List Int) (l : Int) (H : Hp) : Prop := Kp (Src st cl) H0 H ∧ H st = some (srcD cl l mx t) ∧ H cl = some (.lst (cs.map V.int)) ∧ (∀ c ∈ cs, 0 ≤ c) ∧ 0 ≤ l
theorem ok_pick {f : Addr} {fd : FuncData} (Z : Bi mg) (F : Fun K "_law_pick" "_law_pick" s__law_pick f fd) : FnOk P w K mg base CX0 1 f fd ["_law_source_here", "_law_many"] sp_pick := by
  refine F.ok sc__law_pick (fun vs H Q E h => ?_) (fun cdv A outer s H vs Q E hr h => ?_)
  · obtain ⟨_, _, _, _, _, _, _, ⟨_, rfl, _⟩, _⟩ := h
    rfl
  · obtain ⟨sa, cl, n, k, G, R, hS, ⟨many, rfl, hm1, hm2, rfl, rfl⟩, q⟩ := h
    refine ⟨_, (pss_cons (ps_if (pt_cmpR op_ltA (pv 1) pe_int (nomark _)) (pss_cons (ps_ret pe_int)
  pss_nil) pss_nil)
  (pss_cons (ps_set (i := 2) sc__law_pick.nd rfl (Or.inl rfl) (pe_ix (ix_any K (hu_of hr)) (pv 0) pe_str (fun _ _ => rfl)))
  (pss_cons (ps_while PassesOwn.never (PW.pt (pw_and (pt_cmpR op_ltA (pe_ix (ix_any K (hu_of hr)) (pv 0) pe_str (fun _ _ => rfl)) pe_int (nomark _)) (pw_and1 (pt_cmpR op_gtA (pe_callB (call_lenA K) (by rfl) Z.z_len PySem.boot_len (pa_cons (pv 2) pa_nil)) pe_int (nomark _))))) (pss_cons (ps_asg (pe_bm0 PySem.F.plainAttrs_list PySem.F.slot_list_pop PySem.F.type_list_pop mt_pop (pv 2)) (pg_sub (pv 0) pe_str (set_any (hu_of hr))))
  pss_nil))
  (pss_cons (ps_set (i := 3) sc__law_pick.nd rfl (Or.inl rfl) (pe_ix (ix_any K (hu_of hr)) (pv 0) pe_str (fun _ _ => rfl)))
  (pss_cons (ps_if (pt_cmpR op_gtA (pv 3) pe_int (nomark _)) (pss_cons (ps_asg (pe_op op_divA (pv 3) (pv 1)) (pg_sub (pv 0) pe_str (set_any (hu_of hr))))
  (pss_cons (ps_ret (pe_op op_modA (pe_callTy call_intA (by rfl) Z.z_int (by decide +kernel) (pa_cons (pv 3) pa_nil)) (pv 1)))
  pss_nil)) pss_nil)
  (pss_cons (ps_asg (pe_op op_addA (pe_ix (ix_any K (hu_of hr)) (pv 0) pe_str (fun _ _ => rfl)) pe_int) (pg_sub (pv 0) pe_str (set_any (hu_of hr))))
  (pss_cons (ps_set (i := 4) sc__law_pick.nd rfl (Or.inl rfl) (pe_ix (ix_any K (hu_of hr)) (pv 0) pe_str (fun _ _ => rfl)))
  (pss_cons (ps_set (i := 5) sc__law_pick.nd rfl (Or.inl rfl) (pe_op op_modA (pe_callTy call_intA (by rfl) Z.z_int (by decide +kernel) (pa_cons (pe_op op_addA (pe_ix (ix_any K (hu_of hr)) (pv 0) pe_str (fun _ _ => rfl)) (pe_op op_mulA (pv 4) pe_int)) pa_nil)) pe_int))
  (pss_cons (ps_set (i := 5) sc__law_pick.nd rfl (Or.inl rfl) (pe_op op_modA (pe_callTy call_intA (by rfl) Z.z_int (by decide +kernel) (pa_cons (pe_op op_addA (pe_op op_mulA (pv 5) (pv 5)) (pe_op op_mulA (pv 4) pe_int)) pa_nil)) pe_int))
  (pss_cons (ps_if (pt_cmpR op_gtA (pv 1) (pe_op op_pow pe_int pe_int) (nomark _)) (pss_cons (ps_set (i := 5) sc__law_pick.nd rfl (Or.inl rfl) (pe_op op_pow (pe_callTy call_intA (by rfl) Z.z_int (by decide +kernel) (pa_cons (pe_op op_addA (pe_op op_mulA (pv 5) pe_int) (pv 4)) pa_nil)) pe_int))
  pss_nil) pss_nil)
  (pss_cons (ps_ret (pe_op op_modA (pe_callTy call_intA (by rfl) Z.z_int (by decide +kernel) (pa_cons (pe_op op_divA (pv 5) pe_int) pa_nil)) (pv 1)))
  pss_nil))))))))))), ?_⟩
    obtain ⟨sG, gs, gc, cs, l, mx, t, hsa, hcl, hcs, hl0, hx0, hx1, ht0, ht1⟩ := hS
    have nsc : sa ≠ cl := ne_of hsa hcl (by intro z; cases z)
    have st := stab0 H H
    have h0 : SP0 H H 0 H H := Grow.refl (Same.refl H)
    show tSeq _ _ (Ends.mk _ _ _ _) [some _, some _, none, none, none, none] _
    refine q_if st h0 (et_testV (ev_opV (ev_var rfl) ev_c (v_lt st))) (fun H1 p k1 h1 => ?_) (fun H1 p k1 h1 => ?_)
    · refine q_retV st h1 ev_c fun H2 k2 h2 => ?_
      have p : many < 2 := by simpa using p
      have kk := k1.trans k2
      refine q _ G H2 ⟨Same.refl _, ⟨fun b o _ e => kk.k b o (fun z => z) e, kk.v⟩, ⟨fun b o e => h2.s _ _ (sG b o e), gs, gc, cs, l, mx, t, h2.s _ _ hsa, h2.s _ _ hcl, hcs, hl0, hx0, hx1, ht0, by omega⟩, fun _ _ e => .inl e⟩ ⟨0, ⟨by decide, .inr ⟨p, rfl⟩⟩, rfl⟩
    · have p : 2 ≤ many := by simpa using p
      refine q_end ?_
      refine q_setV st h1 (ev_opV (ev_var rfl) ev_c (v_ixDs st hsa src_c)) fun H2 k2 h2 => ?_
      have hPop : PopAt sa cl mx t H cs l H2 := ⟨⟨fun b o _ e => (k1.trans k2).k b o (fun z => z) e, (k1.trans k2).v⟩, h2.s _ _ hsa, h2.s _ _ hcl, hcs, hl0⟩
      clear hsa hcl
      refine ⟨fun m σ' J => σ' = [some (.ref sa), some (.int many), some (.ref cl), none, none, none] ∧ ∃ cs l, m = cs.length ∧ PopAt sa cl mx t H cs l J, ⟨cs.length, rfl, cs, l, rfl, hPop⟩, ?_⟩
      clear hPop hcs hl0 cs l
      rintro m σ' J ⟨rfl, cs, l, rfl, kJ, hsa, hcl, hcs, hl0⟩
      have stJ := stab0 J J
      have hJ : SP0 J J 0 J J := Grow.refl (Same.refl J)
      refine et_and stJ (et_testV (ev_opV (ev_opV (ev_var rfl) ev_c (v_ixDs stJ hsa src_l)) ev_c (v_lt stJ))) (fun _ => et_testV (ev_opV (ev_cbV (ea_consV (ev_var rfl) ea_nilV) (c_lenL stJ (SqL.of hcl))) ev_c (v_gt stJ))) J J (Same.refl _) hJ _ fun b G2 J2 s2 e => ?_
      have sJ := s2.same
      have kJ2 : Kp (Src sa cl) H J2 := kJ.trans ⟨fun b o _ e => sJ b o e, fun b h => sJ.free h⟩
      have hsa2 := sJ _ _ hsa
      have hcl2 := sJ _ _ hcl
      cases b with
      | true =>
        rw [if_pos rfl]
        have e := (Bool.and_eq_true _ _).mp e.symm
        have e1 : 0 < cs.length := by have := e.2; simpa using this
        refine ⟨fun σ3 J3 => ∃ m', m' < cs.length ∧ σ3 = [some (.ref sa), some (.int many), some (.ref cl), none, none, none] ∧ ∃ cs l, m' = cs.length ∧ PopAt sa cl mx t H cs l J3, fun _ _ z => z, ?_⟩
        have ed : (cs.map V.int).dropLast = cs.dropLast.map V.int := by rw [List.map_dropLast]
        have hy : (cs.map V.int)[(cs.map V.int).length - 1]? = some (.int (cs.getD (cs.length - 1) 0)) := by
          rw [List.length_map, List.getElem?_map, List.getElem?_eq_getElem (by omega), List.getD_eq_getElem?_getD, List.getElem?_eq_getElem (by omega)]
          rfl
        refine ⟨_, rfl, .inl ⟨rfl, _, SqL.of hcl2⟩, cl, _, _, rfl, rfl, hcl2, hy, ?_⟩
        rw [ed]
        have hs3 : upd J2 cl (.lst (cs.dropLast.map V.int)) sa = some (srcD cl l mx t) := by rw [upd_ne nsc]; exact hsa2
        refine ⟨_, rfl, tC_run (.inr ⟨sa, _, rfl, DPut.k (k := .inr ("left" : Str)) hs3 src_len, ?_⟩)⟩
        rw [put_l]
        refine ⟨cs.length - 1, by omega, rfl, cs.dropLast, cs.getD (cs.length - 1) 0, by rw [List.length_dropLast], kp_upd (kp_upd kJ2 (.inr rfl)) (.inl rfl), upd_same, by rw [upd_ne (Ne.symm nsc)]; exact upd_same, fun c hc => hcs c (List.dropLast_subset _ hc), ?_⟩
        rw [List.getD_eq_getElem?_getD, List.getElem?_eq_getElem (by omega)]
        exact hcs _ (List.getElem_mem _)
      | false =>
        rw [if_neg (by decide)]
        have e : 2 ≤ l ∨ cs = [] := by
          by_cases h2 : l < 2
          · simp [h2] at e
            exact .inr e
          · exact .inl (by omega)
        generalize hB : J2 = B at *
        have stB := stab0 B B
        have hB : SP0 B B 0 B B := Grow.refl (Same.refl B)
        refine q_setV stB hB (ev_opV (ev_var rfl) ev_c (v_ixDs stB hsa2 src_l)) fun C1 kc1 hc1 => ?_
        refine q_if stB hc1 (et_testV (ev_opV (ev_var rfl) ev_c (v_gt stB))) (fun C2 p2 kc2 hc2 => ?_) (fun C2 p2 kc2 hc2 => ?_)
        · have p2 : 1 < l := by simpa using p2
          refine (ev_opV (ev_var rfl) (ev_var rfl) (v_divW stB (wide_div (b := 2000) (by omega) (by omega) (by decide) (by decide)))) B C2 (Same.refl _) hc2 _ fun v G3 C3 s3 ev => ?_
          obtain rfl : v = _ := ev
          have s3 := s3.same
          have hsa3 : C3 sa = some (srcD cl l mx t) := s3 _ _ (hc2.s _ _ hsa2)
          refine ⟨_, rfl, tC_run (.inr ⟨sa, _, rfl, DPut.k (k := .inr ("left" : Str)) hsa3 src_len, ?_⟩)⟩
          rw [put_l]
          show tSeq _ _ (Ends.mk _ _ _ _) [some (.ref sa), some (.int many), some (.ref cl), some (.int l), none, none] (upd C3 sa (srcD cl (l / many) mx t))
          have kE : Kp (Src sa cl) H (upd C3 sa (srcD cl (l / many) mx t)) := kp_upd ((kJ2.trans (Kp.of hc2.s)).trans (Kp.of s3)) (.inl rfl)
          have hE1 : upd C3 sa (srcD cl (l / many) mx t) sa = some (srcD cl (l / many) mx t) := upd_same
          have hE2 : upd C3 sa (srcD cl (l / many) mx t) cl = some (.lst (cs.map V.int)) := by
            rw [upd_ne (Ne.symm nsc)]
            exact s3 _ _ (hc2.s _ _ hcl2)
          generalize upd C3 sa (srcD cl (l / many) mx t) = C at *
          have stE := stab0 C C
          have hE : SP0 C C 0 C C := Grow.refl (Same.refl C)
          refine q_retV stE hE (ev_opV (ev_cbV (ea_consV (ev_var rfl) ea_nilV) (c_int stE)) (ev_var rfl) (v_mod stE (j := many) (by omega))) fun F kf hf => ?_
          exact q _ G F (src_end sG gs gc (kE.trans (Kp.of hf.s)) ⟨cs, _, mx, t, hf.s _ _ hE1, hf.s _ _ hE2, hcs, Int.ediv_nonneg hl0 (by omega), hx0, hx1, ht0, by omega⟩) ⟨_, ⟨Int.emod_nonneg _ (by omega), .inl (Int.emod_lt_of_pos _ (by omega))⟩, rfl⟩
        · have p2 : ¬ 1 < l := by simpa using p2
          refine q_end ?_
          refine (ev_opV (ev_opV (ev_var rfl) ev_c (v_ixDs stB hsa2 src_t)) ev_c (v_add stB)) B C2 (Same.refl _) hc2 _ fun v G3 C3 s3 ev => ?_
          obtain rfl : v = _ := ev
          have s3 := s3.same
          have hsa3 : C3 sa = some (srcD cl l mx t) := s3 _ _ (hc2.s _ _ hsa2)
          refine ⟨_, rfl, tC_run (.inr ⟨sa, _, rfl, DPut.k (k := .inr ("turn" : Str)) hsa3 src_len, ?_⟩)⟩
          rw [put_t]
          show tSeq _ _ (Ends.mk _ _ _ _) [some (.ref sa), some (.int many), some (.ref cl), some (.int l), none, none] (upd C3 sa (srcD cl l mx (t + 1)))
          have kE : Kp (Src sa cl) H (upd C3 sa (srcD cl l mx (t + 1))) := kp_upd ((kJ2.trans (Kp.of hc2.s)).trans (Kp.of s3)) (.inl rfl)
          have hE1 : upd C3 sa (srcD cl l mx (t + 1)) sa = some (srcD cl l mx (t + 1)) := upd_same
          have hE2 : upd C3 sa (srcD cl l mx (t + 1)) cl = some (.lst (cs.map V.int)) := by
            rw [upd_ne (Ne.symm nsc)]
            exact s3 _ _ (hc2.s _ _ hcl2)
          generalize upd C3 sa (srcD cl l mx (t + 1)) = C at *
          have stE := stab0 C C
          have hE : SP0 C C 0 C C := Grow.refl (Same.refl C)
          refine q_setV stE hE (ev_opV (ev_var rfl) ev_c (v_ixDs stE hE1 src_t)) fun F1 kf1 hf1 => ?_
          refine q_setV stE hf1 (ev_opV (ev_cbV (ea_consV (ev_opV (ev_opV (ev_var rfl) ev_c (v_ixDs stE hE1 src_m)) (ev_opV (ev_var rfl) ev_c (v_mul stE (.inr ⟨by decide, by decide⟩))) (v_add stE)) ea_nilV) (c_int stE)) ev_c (v_mod stE (by decide))) fun F2 kf2 hf2 => ?_
          have r1 : 0 ≤ (mx + (t + 1) * 104729) % 998244353 := Int.emod_nonneg _ (by decide)
          have r2 : (mx + (t + 1) * 104729) % 998244353 < 998244353 := Int.emod_lt_of_pos _ (by decide)
          generalize (mx + (t + 1) * 104729) % 998244353 = m1 at *
          refine q_setV stE hf2 (ev_opV (ev_cbV (ea_consV (ev_opV (ev_opV (ev_var rfl) (ev_var rfl) (v_mul stE (.inl ⟨by omega, by omega⟩))) (ev_opV (ev_var rfl) ev_c (v_mul stE (.inr ⟨by decide, by decide⟩))) (v_add stE)) ea_nilV) (c_int stE)) ev_c (v_mod stE (by decide))) fun F3 kf3 hf3 => ?_
          have r3 : 0 ≤ (m1 * m1 + (t + 1) * 17) % 2147483647 := Int.emod_nonneg _ (by decide)
          have r4 : (m1 * m1 + (t + 1) * 17) % 2147483647 < 2147483647 := Int.emod_lt_of_pos _ (by decide)
          generalize (m1 * m1 + (t + 1) * 17) % 2147483647 = m2 at *
          refine q_if stE hf3 (et_testV (ev_opV (ev_var rfl) (ev_opV ev_c ev_c (v_pow stE ⟨by decide, by decide, by decide⟩)) (v_gt stE))) (fun F4 p4 kf4 hf4 => ?_) (fun F4 p4 kf4 hf4 => ?_)
          · have p4 : (10 : Int) ^ (7 : Nat) < many := of_decide_eq_true p4.symm
            have nb : n < 2 ^ 60 := hm2 p4
            refine q_setV stE hf4 (ev_opV (ev_cbV (ea_consV (ev_opV (ev_opV (ev_var rfl) ev_c (v_mul stE (.inr ⟨by decide, by decide⟩))) (ev_var rfl) (v_add stE)) ea_nilV) (c_int stE)) ev_c (v_pow stE ⟨by decide, by decide, ?_⟩)) fun F5 kf5 hf5 => ?_
            · omega
            · refine q_end ?_
              refine q_retV stE hf5 (ev_opV (ev_cbV (ea_consV (ev_opV (ev_var rfl) ev_c (v_div stE ⟨by decide, by decide⟩)) ea_nilV) (c_int stE)) (ev_var rfl) (v_mod stE (by omega))) fun F6 kf6 hf => ?_
              exact q _ G F6 (src_end sG gs gc (kE.trans (Kp.of hf.s)) ⟨cs, _, mx, t + 1, hf.s _ _ hE1, hf.s _ _ hE2, hcs, hl0, hx0, hx1, by omega, by omega⟩) ⟨_, ⟨Int.emod_nonneg _ (by omega), .inl (Int.emod_lt_of_pos _ (by omega))⟩, rfl⟩
          · refine q_end ?_
            refine q_retV stE hf4 (ev_opV (ev_cbV (ea_consV (ev_opV (ev_var rfl) ev_c (v_div stE ⟨by decide, by decide⟩)) ea_nilV) (c_int stE)) (ev_var rfl) (v_mod stE (by omega))) fun F6 kf6 hf => ?_
            exact q _ G F6 (src_end sG gs gc (kE.trans (Kp.of hf.s)) ⟨cs, _, mx, t + 1, hf.s _ _ hE1, hf.s _ _ hE2, hcs, hl0, hx0, hx1, by omega, by omega⟩) ⟨_, ⟨Int.emod_nonneg _ (by omega), .inl (Int.emod_lt_of_pos _ (by omega))⟩, rfl⟩
abbrev s__law_name : Stmt := top 20
theorem sc__law_name : FnScope ["_law_source_here", "_law_signs", "_law_name_here", "_law_many", "_law_k"] ["_law_source_here"] (defScope s__law_name) := ⟨rfl, rfl, rfl, by decide +kernel, rfl, by decide +kernel, by decide +kernel⟩
theorem ok_lname19 {f : Addr} {fd : FuncData} (Z : Bi mg) (c__law_pick : Callee P w K mg base "_law_pick" CX0 1 ["_law_source_here", "_law_many"] [] sp_pick) (F : Fun K "_law_name" "_law_name" s__law_name f fd) : FnOk P w K mg base CX0 3 f fd ["_law_source_here"] (spS PNmS) := by
  refine F.ok sc__law_name (fun vs H Q E h => ?_) (fun cdv A outer s H vs Q E hr h => ?_)
  · obtain ⟨_, _, _, _, _, _, _, ⟨rfl, _⟩, _⟩ := h
    rfl
  · obtain ⟨sa, cl, n, k, G, R, h0, ⟨rfl, rfl, rfl⟩, q⟩ := h
    refine ⟨_, (pss_cons (ps_set (i := 1) sc__law_name.nd rfl (Or.inl rfl) pe_str)
  (pss_cons (ps_set (i := 2) sc__law_name.nd rfl (Or.inl rfl) (pe_ix (ix_any K (hu_of hr)) (pv 1) (pe_callC c__law_pick (hr.mono (by decide)) pass0 (pa_cons (pv 0) (pa_cons pe_int pa_nil))) (fun _ _ => rfl)))
  (pss_cons (ps_set (i := 3) sc__law_name.nd rfl (Or.inl rfl) (pe_callC c__law_pick (hr.mono (by decide)) pass0 (pa_cons (pv 0) (pa_cons pe_int pa_nil))))
  (pss_cons (ps_for PassesOwn.never rfl (pi_range1 (by rfl) Z.z_range (pa_cons (pe_ifExp (pt_cmpR (op_eqA K hr.units) (pv 3) pe_int (nomark _)) pe_int (pe_op op_subA (pv 3) pe_int)) pa_nil)) (pg_name (i := 4) sc__law_name.nd rfl (Or.inl rfl)) (pss_cons (ps_set (i := 2) sc__law_name.nd rfl (Or.inl rfl) (pe_op op_addA (pv 2) (pe_ix (ix_any K (hu_of hr)) (pv 1) (pe_callC c__law_pick (hr.mono (by decide)) pass0 (pa_cons (pv 0) (pa_cons pe_int pa_nil))) (fun _ _ => rfl))))
  pss_nil))
  (pss_cons (ps_ret (pe_ifExp (pt_cmpR op_gtA (pv 3) pe_int (nomark _)) (pe_op op_addA (pv 2) (pe_callTy call_strA (by rfl) Z.z_str (by decide +kernel) (pa_cons (pe_callC c__law_pick (hr.mono (by decide)) pass0 (pa_cons (pv 0) (pa_cons pe_int pa_nil))) pa_nil))) (pv 2)))
  pss_nil))))), ?_⟩
    have st := stabS sa cl
    have hsz : (1000 : Nat) ≤ sizeLine := by decide
    have l36 : signs36.length = 36 := by decide +kernel
    show tSeq _ _ (Ends.mk _ _ _ _) [some _, none, none, none, none] _
    refine q_setV st h0 (x := .str signs36) ev_c fun H1 k1 h1 => ?_
    have sign : ∀ {m : Nat} {σ : L2.St} {G' : Hp} {M : Int}, (M = 26 ∨ M = 36) → σ[1]? = some (some (.str signs36)) → σ[0]? = some (some (.ref sa)) → Ev (Src sa cl) m (0 + (0 + (0 + 0) + 1)) (tOp (rIxA K) (tVar 1) (tCall sp_pick [] E0 (tCons (tVar 0) (tCons (tC (.int M)) tNil)))) σ G' (IsS fun z => ∃ c, z = (⟨#[c]⟩ : Str) ∧ (smC c || fgC c) = true ∧ (M = 26 → smC c = true)) := fun {m σ G' M} hM e1 e0 =>
      ev_op (ev_var e1) (ev_pick (ea_consV (ev_var e0) (ea_consV ev_c ea_nilV)) (by omega) (by omega)) fun u v G' s' eu ev => by
        obtain rfl := (show _ = _ from eu)
        obtain ⟨i, hi, rfl⟩ := ev
        obtain ⟨i', rfl⟩ : ∃ a : Nat, i = (a : Nat) := ⟨i.toNat, by omega⟩
        obtain ⟨c, z1, z2, z3⟩ := signs_at i' (by omega)
        exact rv_imp (v_ixS st (by rw [l36]; omega) z1) fun v G2 s2 r => ⟨_, ⟨c, rfl, z2, fun e => z3 (by omega)⟩, r⟩
    refine q_set h1 (sign (.inl rfl) rfl rfl) fun v2 G2 H2 s2 r2 => ?_
    obtain ⟨_, ⟨c0, rfl, hc0, hc1⟩, rfl⟩ := r2
    refine q_setI st s2.s (ev_pick (ea_consV (ev_var rfl) (ea_consV ev_c ea_nilV)) (by decide) (by decide)) fun many H3 hm k3 h3 => ?_
    have f3 := (((Fr.refl (S := Src sa cl) G H).kp k1).trans s2.fr).kp k3
    refine q_forR (m := if many = 6 then 10 else many - 3) st h3 (ea_consV (ev_if (ka := 0) (kb := 0) (R := IsV (.int (if many = 6 then 10 else many - 3))) st (et_testV (ev_opV (ev_var rfl) ev_c (v_eqI st))) (fun hc => by rw [if_pos (of_decide_eq_true hc)]; exact ev_c) fun hc => by rw [if_neg (of_decide_eq_false hc)]; exact ev_opV (ev_var rfl) ev_c (v_sub st)) ea_nilV) (fun j => j) (fun j σ' G' H' => Fr (Src sa cl) G H G' H' ∧ ∃ a wd, σ' = [some (.ref sa), some (.str signs36), some (.str wd), some (.int many), a] ∧ NmG (j + 1) wd) rfl (by split <;> omega) (by split <;> omega) (fun H4 k4 h4 => ⟨f3.kp k4, none, _, rfl, NmG.one (hc1 rfl)⟩) (fun j σ' G4 H4 hj s4 h4 hp => ?_) (fun σ' G4 H4 s4 h4 hp => ?_)
    · obtain ⟨f4, a, wd, rfl, hwd⟩ := hp
      have hj : j < 10 := by
        split at hj <;> omega
      refine q_set (R := IsS fun z => NmG (j + 1 + 1) z) h4 (ev_op (ev_var rfl) (sign (.inr rfl) rfl rfl) fun u v G' s' eu ev => ?_) fun v5 G5 H5 s5 r5 => ?_
      · obtain rfl := (show _ = _ from eu)
        obtain ⟨z, ⟨c, rfl, hc, _⟩, rfl⟩ := ev
        exact rv_imp (v_adds st (by rw [hwd.l]; show j + 1 + 1 ≤ _; omega)) fun v G2 s2 r => ⟨_, hwd.app hc, r⟩
      · obtain ⟨z, hz, rfl⟩ := r5
        exact q_end ⟨G5, s4.trans s5.g, st.wk s5.s (by omega), f4.trans s5.fr, _, _, rfl, hz⟩
    · obtain ⟨f4, a, wd, rfl, hwd⟩ := hp
      have hmm : (if many = 6 then (10 : Int) else many - 3).toNat ≤ 10 := by
        split <;> omega
      refine q_ret h4 (ev_if (ka := 1) (kb := 0) (R := IsS NmOk) st (et_testV (ev_opV (ev_var rfl) ev_c (v_gt st))) (fun hc => ?_) fun hc => ?_) fun v6 G6 H6 s6 r6 => q _ G6 H6 (Fr.stp (f4.trans s6.fr) (st.wk s6.s (by omega))) r6
      · refine ev_op (Rb := IsS fun z => ∃ d, z = (⟨#[d]⟩ : Str) ∧ fgC d = true) (ev_var rfl) (ev_cb (ea_1I (ev_pick (ea_consV (ev_var rfl) (ea_consV ev_c ea_nilV)) (by decide) (by decide))) fun vs G' s' h => ?_) fun u v G' s' eu ev => ?_
        · obtain ⟨i, rfl, hi⟩ := one_I h
          obtain ⟨i', rfl⟩ : ∃ a : Nat, i = (a : Nat) := ⟨i.toNat, by omega⟩
          have hl : ∀ i, i < 10 → ((i : Nat) : Int).natAbs.log2 < 1920 ∧ fgC (48 + i) = true := by decide +kernel
          exact fun n G1 H1 a s Q q => c_str st (hl i' (by omega)).1 n G1 H1 a s Q fun v G2 H2 s2 e => q v G2 H2 s2 ⟨_, ⟨48 + i', digit_str i' (by omega), (hl i' (by omega)).2⟩, e⟩
        · obtain rfl := (show _ = _ from eu)
          obtain ⟨z, ⟨d, rfl, hd⟩, rfl⟩ := ev
          exact rv_imp (v_adds st (by rw [hwd.l]; show _ + 1 ≤ _; omega)) fun v G2 s2 r => ⟨_, hwd.okD (by omega) hd, r⟩
      · have hc := of_decide_eq_false hc
        refine (ev_var rfl).imp fun v G' s' e => ⟨wd, ?_, e⟩
        rw [if_neg (by omega), show (many - 3).toNat = 0 by omega] at hwd
        exact hwd.ok1
abbrev s__law_names : Stmt := top 21
theorem sc__law_names : FnScope ["_law_source_here", "_law_many", "_law_found", "_law_k", "_law_name_here"] ["_law_source_here", "_law_many"] (defScope s__law_names) := ⟨rfl, rfl, rfl, by decide +kernel, rfl, by decide +kernel, by decide +kernel⟩
theorem ok_lnames19 {f : Addr} {fd : FuncData} (Z : Bi mg) (c__law_name : Callee P w K mg base "_law_name" CX0 3 ["_law_source_here"] [] (spS PNmS)) (F : Fun K "_law_names" "_law_names" s__law_names f fd) : FnOk P w K mg base CX0 4 f fd ["_law_source_here", "_law_many"] (spS PNms) := by
  refine F.ok sc__law_names (fun vs H Q E h => ?_) (fun cdv A outer s H vs Q E hr h => ?_)
  · obtain ⟨_, _, _, _, _, _, _, ⟨_, rfl, _⟩, _⟩ := h
    rfl
  · obtain ⟨sa, cl, n, k, G, R, h0, ⟨m, rfl, m1, rfl, rfl⟩, q⟩ := h
    refine ⟨_, (pss_cons (ps_set (i := 2) sc__law_names.nd rfl (Or.inl rfl) (pe_lst pa_nil))
  (pss_cons (ps_for PassesOwn.never rfl (pi_range1 (by rfl) Z.z_range (pa_cons (pv 1) pa_nil)) (pg_name (i := 3) sc__law_names.nd rfl (Or.inl rfl)) (pss_cons (ps_set (i := 4) sc__law_names.nd rfl (Or.inl rfl) (pe_callC c__law_name (hr.mono (by decide)) pass0 (pa_cons (pv 0) pa_nil)))
  (pss_cons (ps_if (pt_cmpR (op_ninA K (hu_of hr)) (pv 4) (pv 2) (by rfl)) (pss_cons (ps_expr (pe_bm PySem.F.plainAttrs_list PySem.F.slot_list_append PySem.F.type_list_append mt_append (pv 2) (pa_cons (pv 4) pa_nil)))
  pss_nil) pss_nil)
  pss_nil)))
  (pss_cons (ps_ret (pv 2))
  pss_nil))), ?_⟩
    have st := stabS sa cl
    show tSeq _ _ (Ends.mk _ _ _ _) [some _, some _, none, none, none] _
    refine q_newL st h0 ea_nilV (by decide) fun D H1 hD gD k1 h1 e1 => ?_
    refine q_forR (m := (m : Nat)) st h1 (ea_consV (ev_var rfl) ea_nilV) (fun j => 16 * j) (fun j σ' G' H' => G' = G ∧ Kp (Src sa cl) H H' ∧ ∃ a b L, σ' = [some (.ref sa), some (.int (m : Nat)), some (.ref D), a, b] ∧ H' D = some (.lst (List.map V.str L)) ∧ L.Nodup ∧ (∀ s ∈ L, NmOk s) ∧ L.length ≤ j ∧ (1 ≤ j → 1 ≤ L.length)) rfl (by omega) (by omega) (fun H2 k2 h2 => ⟨rfl, k1.trans k2, none, none, [], rfl, k2.k D _ (st.fre h0 hD) e1, List.nodup_nil, fun x h => absurd h List.not_mem_nil, Nat.le_refl _, fun h => absurd h (by decide)⟩) (fun j σ' G2 H2 hj s2 h2 hp => ?_) (fun σ' G2 H2 s2 h2 hp => ?_)
    · obtain ⟨rfl, k2, a, b, L, rfl, eD, nd, ok, ll, l1⟩ := hp
      refine q_set h2 (ev_callSV (kb := 16) (R := IsS NmOk) (ea_consV (ev_var rfl) ea_nilV) fun G' s' => ⟨rfl, rfl, rfl⟩) fun v3 G3 H3 s3 r3 => ?_
      obtain ⟨nm, hn, rfl⟩ := r3
      have h3 := st.anti h2 s3.s s3.g
      have e3 := s3.k.k D _ (st.fre h0 hD) eD
      obtain ⟨h4, sg4⟩ := st_pub st h0 hD h3 gD e3
      have gP : upd G2 D (.lst (L.map V.str)) D = some (.lst (L.map V.str)) := upd_same
      refine q_if st h4 (et_testV (ev_opV (ev_var rfl) (ev_var rfl) (v_inL (neg := true) st (SqL.of gP) rfl (by rw [List.all_map]; exact List.all_eq_true.mpr fun _ _ => rfl)))) (fun H5 p5 k5 h5 => ?_) (fun H5 p5 k5 h5 => ?_)
      · rw [inV_strs] at p5
        have p5 : nm ∉ L := by simpa using p5.symm
        have e5 := k5.k D _ (st.fre h0 hD) e3
        refine q_app st h0 hD ((k2.trans s3.k).trans k5) (st.anti h3 h5 sg4) gD e5 (by rw [List.length_map]; omega) rfl (ea_consV (ev_var rfl) ea_nilV) fun H6 k6 h6 e6 => q_end (q_end ⟨G2, Same.refl _, st.wk h6 (by omega), rfl, k6, _, _, L ++ [nm], rfl, by rw [e6, List.map_append]; rfl, ?_, ?_, by rw [List.length_append]; show L.length + 1 ≤ j + 1; omega, fun _ => by rw [List.length_append]; show 1 ≤ L.length + 1; omega⟩)
        · refine List.nodup_append.mpr ⟨nd, by simp, fun x hx y hy e => ?_⟩
          rw [List.mem_singleton.mp hy] at e
          exact p5 (e ▸ hx)
        · intro x hx
          rcases List.mem_append.mp hx with hx | hx
          · exact ok x hx
          · rw [List.mem_singleton.mp hx]
            exact hn
      · rw [inV_strs] at p5
        have p5 : nm ∈ L := by simpa using p5.symm
        have e5 := k5.k D _ (st.fre h0 hD) e3
        exact q_end (q_end ⟨G2, Same.refl _, st.wk (st.anti h3 h5 sg4) (by omega), rfl, (k2.trans s3.k).trans k5, _, _, L, rfl, e5, nd, ok, by omega, fun _ => List.length_pos_of_mem p5⟩)
    · obtain ⟨rfl, k2, a, b, L, rfl, eD, nd, ok, ll, l1⟩ := hp
      obtain ⟨h4, sg4⟩ := st_pub st h0 hD h2 gD eD
      refine q_retV st h4 (ev_var rfl) fun H5 k5 h5 => q _ _ H5 (Fr.stp ⟨sg4, k2.trans k5, fun c o e => ?_⟩ (st.wk h5 (by omega))) ⟨D, L, rfl, upd_same, nd, ok, by omega, fun z => l1 (by omega)⟩
      by_cases hc : c = D
      · exact .inr (hc ▸ hD)
      · rw [upd_ne hc] at e
        exact .inl e
theorem ev_nmP {sa cl : Addr} {n i : Nat} {σ : L2.St} {G : Hp} {p : Addr} {L : List Str} (h : IsNmL p L G) (e0 : σ[0]? = some (some (.ref sa))) (ei : σ[i]? = some (some (.ref p))) : Ev (Src sa cl) n 1 (tOp (rIxA K) (tVar i) (tCall sp_pick [] E0 (tCons (tVar 0) (tCons (tCB (rLenA K) (tCons (tVar i) tNil)) tNil)))) σ G (IsS (· ∈ L)) := by
  have st := stabS sa cl
  obtain ⟨g, l1, l2⟩ := h
  have ll : (L.map V.str).length = L.length := List.length_map _
  refine ev_op (ka := 0) (kb := 1) (Ra := IsV (.ref p)) (ev_var ei) (ev_pick (many := (L.length : Nat)) (ea_consV (ev_var e0) (ea_consV (ev_eq (congrArg V.int (by rw [ll])) (ev_cbV (ea_consV (ev_var ei) ea_nilV) (c_lenL st (SqL.of g)))) ea_nilV)) (by omega) (by omega)) fun x y G' s' hx hy => ?_
  obtain rfl := (show _ = _ from hx)
  obtain ⟨j, hj, rfl⟩ := hy
  obtain ⟨i', rfl⟩ : ∃ a : Nat, j = (a : Nat) := ⟨j.toNat, by omega⟩
  have hi : i' < L.length := by omega
  exact rv_imp (v_ixL st (SqL.of (s' _ _ g)) (atI_nat (by rw [List.getElem?_map, List.getElem?_eq_getElem hi]; rfl))) fun v G2 s2 r => ⟨_, List.getElem_mem hi, r⟩
abbrev s__law_term : Stmt := top 22
theorem sc__law_term : FnScope ["_law_source_here", "_law_deeds", "_law_procedures", "_law_ways", "_law_depth", "_law_pick_here", "_law_first", "_law_second", "_law_way"] ["_law_source_here", "_law_deeds", "_law_procedures", "_law_ways", "_law_depth"] (defScope s__law_term) := ⟨rfl, rfl, rfl, by decide +kernel, rfl, by decide +kernel, by decide +kernel⟩
theorem ok_lterm_step {spT : Sp} {m kk : Nat} {f : Addr} {fd : FuncData} (Z : Bi mg) (c__law_pick : Callee P w K mg base "_law_pick" CX0 1 ["_law_source_here", "_law_many"] [] sp_pick) (c__law_term : Callee P w K mg base "_law_term" CX0 kk ["_law_source_here", "_law_deeds", "_law_procedures", "_law_ways", "_law_depth"] [] spT) (hT : m = 0 ∨ ∃ m', m = m' + 1 ∧ spT = spS (PTrm m')) (hkk : kk ≤ 2 + m)
    (F : Fun K "_law_term" "_law_term" s__law_term f fd) : FnOk P w K mg base CX0 (2 + m + 1) f fd ["_law_source_here", "_law_deeds", "_law_procedures", "_law_ways", "_law_depth"] (spS (PTrm m)) := by
  refine F.ok sc__law_term (fun vs H Q E h => ?_) (fun cdv A outer s H vs Q E hr h => ?_)
  · obtain ⟨_, _, _, _, _, _, _, ⟨_, _, _, _, _, _, rfl, _⟩, _⟩ := h
    rfl
  · obtain ⟨sa, cl, n, k, G, R, h0, ⟨p1, p2, p3, D, C, W, rfl, i1, i2, i3, rfl, rfl⟩, q⟩ := h
    have hr1 : Room (2 + m) (A.deeper (envOfC "_law_term" (defScope s__law_term) s.heap.objs.size f cdv)) := hr
    refine ⟨_, (pss_cons (ps_set (i := 5) sc__law_term.nd rfl (Or.inl rfl) (pe_ifExp (pt_cmpR op_gtA (pv 4) pe_int (nomark _)) (pe_callC c__law_pick (hr1.mono (by omega)) pass0 (pa_cons (pv 0) (pa_cons pe_int pa_nil))) (pe_callC c__law_pick (hr1.mono (by omega)) pass0 (pa_cons (pv 0) (pa_cons pe_int pa_nil)))))
  (pss_cons (ps_if (pt_cmpR (op_eqA K hr.units) (pv 5) pe_int (nomark _)) (pss_cons (ps_ret (pe_tup (pa_cons pe_str (pa_cons (pe_ix (ix_any K (hu_of hr)) (pv 1) (pe_callC c__law_pick (hr1.mono (by omega)) pass0 (pa_cons (pv 0) (pa_cons (pe_callB (call_lenA K) (by rfl) Z.z_len PySem.boot_len (pa_cons (pv 1) pa_nil)) pa_nil))) (fun _ _ => rfl)) pa_nil))))
  pss_nil) pss_nil)
  (pss_cons (ps_if (pt_cmpR (op_eqA K hr.units) (pv 5) pe_int (nomark _)) (pss_cons (ps_set (i := 8) sc__law_term.nd rfl (Or.inl rfl) (pe_ix (ix_any K (hu_of hr)) (pv 3) (pe_callC c__law_pick (hr1.mono (by omega)) pass0 (pa_cons (pv 0) (pa_cons (pe_callB (call_lenA K) (by rfl) Z.z_len PySem.boot_len (pa_cons (pv 3) pa_nil)) pa_nil))) (fun _ _ => rfl)))
  (pss_cons (ps_ret (pe_ifExp (pt_cmpR (op_eqA K hr.units) (pe_callC c__law_pick (hr1.mono (by omega)) pass0 (pa_cons (pv 0) (pa_cons pe_int pa_nil))) pe_int (nomark _)) (pe_tup (pa_cons pe_str (pa_cons (pv 8) pa_nil))) (pe_tup (pa_cons pe_str pa_nil))))
  pss_nil)) pss_nil)
  (pss_cons (ps_if (pt_cmpR (op_eqA K hr.units) (pv 5) pe_int (nomark _)) (pss_cons (ps_ret (pe_tup (pa_cons pe_str (pa_cons (pe_ix (ix_any K (hu_of hr)) (pv 2) (pe_callC c__law_pick (hr1.mono (by omega)) pass0 (pa_cons (pv 0) (pa_cons (pe_callB (call_lenA K) (by rfl) Z.z_len PySem.boot_len (pa_cons (pv 2) pa_nil)) pa_nil))) (fun _ _ => rfl)) pa_nil))))
  pss_nil) pss_nil)
  (pss_cons (ps_if (pt_cmpR (op_eqA K hr.units) (pv 5) pe_int (nomark _)) (pss_cons (ps_ret (pe_tup (pa_cons pe_str (pa_cons (pe_ix (ix_any K (hu_of hr)) (pv 1) (pe_callC c__law_pick (hr1.mono (by omega)) pass0 (pa_cons (pv 0) (pa_cons (pe_callB (call_lenA K) (by rfl) Z.z_len PySem.boot_len (pa_cons (pv 1) pa_nil)) pa_nil))) (fun _ _ => rfl)) pa_nil))))
  pss_nil) pss_nil)
  (pss_cons (ps_set (i := 6) sc__law_term.nd rfl (Or.inl rfl) (pe_callC c__law_term (hr1.mono (by omega)) pass0 (pa_cons (pv 0) (pa_cons (pv 1) (pa_cons (pv 2) (pa_cons (pv 3) (pa_cons (pe_op op_subA (pv 4) pe_int) pa_nil)))))))
  (pss_cons (ps_if (PW.pt (pw_or (pt_cmpR (op_eqA K hr.units) (pv 5) pe_int (nomark _)) (pw_or1 (pt_cmpR (op_eqA K hr.units) (pv 5) pe_int (nomark _))))) (pss_cons (ps_ret (pe_tup (pa_cons pe_str (pa_cons (pv 6) pa_nil))))
  pss_nil) pss_nil)
  (pss_cons (ps_if (pt_cmpR (op_eqA K hr.units) (pv 5) pe_int (nomark _)) (pss_cons (ps_ret (pe_tup (pa_cons pe_str (pa_cons (pe_ix (ix_any K (hu_of hr)) (pe_lst (pa_cons pe_int (pa_cons pe_int (pa_cons pe_int (pa_cons pe_int (pa_cons pe_int (pa_cons (pe_op op_addA (pe_op op_pow pe_int pe_int) pe_int) pa_nil))))))) (pe_callC c__law_pick (hr1.mono (by omega)) pass0 (pa_cons (pv 0) (pa_cons pe_int pa_nil))) (fun _ _ => rfl)) (pa_cons (pv 6) pa_nil)))))
  pss_nil) pss_nil)
  (pss_cons (ps_set (i := 7) sc__law_term.nd rfl (Or.inl rfl) (pe_callC c__law_term (hr1.mono (by omega)) pass0 (pa_cons (pv 0) (pa_cons (pv 1) (pa_cons (pv 2) (pa_cons (pv 3) (pa_cons (pe_op op_subA (pv 4) pe_int) pa_nil)))))))
  (pss_cons (ps_if (PW.pt (pw_or (pt_cmpR (op_eqA K hr.units) (pv 5) pe_int (nomark _)) (pw_or1 (pt_cmpR (op_eqA K hr.units) (pv 5) pe_int (nomark _))))) (pss_cons (ps_ret (pe_tup (pa_cons pe_str (pa_cons (pe_ix (ix_any K (hu_of hr)) (pv 3) (pe_callC c__law_pick (hr1.mono (by omega)) pass0 (pa_cons (pv 0) (pa_cons (pe_callB (call_lenA K) (by rfl) Z.z_len PySem.boot_len (pa_cons (pv 3) pa_nil)) pa_nil))) (fun _ _ => rfl)) (pa_cons (pv 6) (pa_cons (pv 7) pa_nil))))))
  pss_nil) pss_nil)
  (pss_cons (ps_if (pt_cmpR (op_eqA K hr.units) (pv 5) pe_int (nomark _)) (pss_cons (ps_ret (pe_tup (pa_cons pe_str (pa_cons (pv 6) (pa_cons (pv 7) pa_nil)))))
  pss_nil) pss_nil)
  (pss_cons (ps_ret (pe_tup (pa_cons (pe_ix (ix_any K (hu_of hr)) (pe_lst (pa_cons pe_str (pa_cons pe_str pa_nil))) (pe_op op_modA (pe_callTy call_intA (by rfl) Z.z_int (by decide +kernel) (pa_cons (pv 5) pa_nil)) pe_int) (fun _ _ => rfl)) (pa_cons (pv 6) (pa_cons (pv 7) pa_nil)))))
  pss_nil)))))))))))), ?_⟩
    have st := stabS sa cl
    have t5 := tkT_5 m
    show tSeq _ _ (Ends.mk _ _ _ _) [some _, some _, some _, some _, some _, none, none, none, none] _
    refine q_setI st h0 (P := fun r => 0 ≤ r ∧ r < 14 ∧ (m = 0 → r < 4)) (ev_if (ka := 1) (kb := 1) (c := decide (0 < m)) st ((et_testV (ev_opV (ev_var rfl) ev_c (v_gt st))).imp fun b e => by rw [e]; exact decide_eq_decide.mpr (by omega)) (fun hc => ev_impI (ev_pick (ea_consV (ev_var rfl) (ea_consV ev_c ea_nilV)) (by decide) (by decide)) fun j hj => ⟨hj.1, hj.2, fun z => absurd (of_decide_eq_true hc) (by omega)⟩) fun hc => ev_impI (ev_pick (ea_consV (ev_var rfl) (ea_consV ev_c ea_nilV)) (by decide) (by decide)) fun j hj => ⟨hj.1, by omega, fun z => hj.2⟩) fun w0 H1 hw k1 h1 => ?_
    have fin : ∀ {n' : Nat} {t : Tm} {v : V} {G' H' : Hp}, TmIn (· ∈ D) (· ∈ C) (· ∈ W) m t → n' ≤ n + tkT m → Fr (Src sa cl) G H G' H' → Src sa cl n' G' H' → IsTm t v G' → Q v H' := fun ti hn fr s r => q _ _ _ (Fr.stp fr (st.wk s hn)) ⟨_, ti, r⟩
    have f1 := (Fr.refl (S := Src sa cl) G H).kp k1
    have pz : ∀ {b : Bool} {z : Int} {x : Int}, b = decide (x = z) → b = false → x ≠ z := fun e1 e2 => of_decide_eq_false (e1.symm.trans e2)
    refine q_if st h1 (et_testV (ev_opV (ev_var rfl) ev_c (v_eqI st))) (fun H2 p2 k2 h2 => ?_) (fun H2 z0 k2 h2 => q_end ?_)
    · refine q_ret h2 (ev_tq (RA := RCons (IsV (.str "deed")) (RCons (IsS (· ∈ D)) RNil)) st (ea_cons ev_c (ea_cons (ev_nmP i1 rfl rfl) ea_nil)) rc2_len) fun v5 G5 H5 s5 r5 => ?_
      obtain ⟨a, xs, rfl, g, _, _, rfl, e1, _, _, rfl, ⟨s, hs, rfl⟩, e2⟩ := r5
      exact fin (t := .deed s) (by unfold TmIn; cases m <;> exact hs) (by omega) ((f1.kp k2).trans s5.fr) s5.s ⟨a, _, rfl, g, _, _, rfl, e1, _, _, rfl, rfl, e2⟩
    have f2 := f1.kp k2
    refine q_if st h2 (et_testV (ev_opV (ev_var rfl) ev_c (v_eqI st))) (fun H3 p3 k3 h3 => ?_) (fun H3 z1 k3 h3 => q_end ?_)
    · refine q_set h3 (ev_nmP i3 rfl rfl) fun v4 G4 H4 s4 r4 => ?_
      obtain ⟨s, hs, rfl⟩ := r4
      refine q_ret s4.s (ev_ifA (Rr := IsTt fun t => TmIn (· ∈ D) (· ∈ C) (· ∈ W) m t) (ka := 0) (kb := 0) st (et_any (Ra := IsI fun z => 0 ≤ z ∧ z < 2) (Rb := IsV (.int 0)) st (ev_pick (ea_consV (ev_var rfl) (ea_consV ev_c ea_nilV)) (by decide) (by decide)) ev_c fun u v G' s' hu hv => ?_) (ev_tt (t0 := .leave s) (ev_tq st (ea_cons ev_c (ea_cons (ev_var rfl) ea_nil)) rc2_len) (by unfold TmIn; cases m <;> exact hs)) (ev_tt (t0 := .skip) (ev_tq st (ea_cons ev_c ea_nil) rc1_len) (by unfold TmIn; cases m <;> trivial))) fun v5 G5 H5 s5 r5 => ?_
      · obtain ⟨z, _, rfl⟩ := hu
        obtain rfl := (show _ = _ from hv)
        exact ⟨_, v_eqI st⟩
      · obtain ⟨t, ht, r⟩ := r5
        exact fin ht (by omega) (((f2.kp k3).trans s4.fr).trans s5.fr) s5.s r
    have f3 := f2.kp k3
    refine q_if st h3 (et_testV (ev_opV (ev_var rfl) ev_c (v_eqI st))) (fun H4 p4 k4 h4 => ?_) (fun H4 z2 k4 h4 => q_end ?_)
    · refine q_ret h4 (ev_tq (RA := RCons (IsV (.str "call")) (RCons (IsS (· ∈ C)) RNil)) st (ea_cons ev_c (ea_cons (ev_nmP i2 rfl rfl) ea_nil)) rc2_len) fun v5 G5 H5 s5 r5 => ?_
      obtain ⟨a, xs, rfl, g, _, _, rfl, e1, _, _, rfl, ⟨s, hs, rfl⟩, e2⟩ := r5
      exact fin (t := .call s) (by unfold TmIn; cases m <;> exact hs) (by omega) ((f3.kp k4).trans s5.fr) s5.s ⟨a, _, rfl, g, _, _, rfl, e1, _, _, rfl, rfl, e2⟩
    have f4 := f3.kp k4
    refine q_if st h4 (et_testV (ev_opV (ev_var rfl) ev_c (v_eqI st))) (fun H5 p5 k5 h5 => ?_) (fun H5 z3 k5 h5 => q_end ?_)
    · refine q_ret h5 (ev_tq (RA := RCons (IsV (.str "deed")) (RCons (IsS (· ∈ D)) RNil)) st (ea_cons ev_c (ea_cons (ev_nmP i1 rfl rfl) ea_nil)) rc2_len) fun v5 G5 H6 s5 r5 => ?_
      obtain ⟨a, xs, rfl, g, _, _, rfl, e1, _, _, rfl, ⟨s, hs, rfl⟩, e2⟩ := r5
      exact fin (t := .deed s) (by unfold TmIn; cases m <;> exact hs) (by omega) ((f4.kp k5).trans s5.fr) s5.s ⟨a, _, rfl, g, _, _, rfl, e1, _, _, rfl, rfl, e2⟩
    have f5 := f4.kp k5
    have z0 := of_decide_eq_false z0.symm
    have z1 := of_decide_eq_false z1.symm
    have z2 := of_decide_eq_false z2.symm
    have z3 := of_decide_eq_false z3.symm
    rcases hT with hT | ⟨m', rfl, rfl⟩
    · have := hw.2.2 hT
      omega
    have em : (((m' + 1 : Nat) : Int) - 1) = ((m' : Nat) : Int) := by omega
    have ek : tkT (m' + 1) = 2 * tkT m' + 5 := rfl
    have sub : ∀ {n : Nat} {σ : L2.St} {G' : Hp}, Same G G' → σ[0]? = some (some (.ref sa)) → σ[1]? = some (some (.ref p1)) → σ[2]? = some (some (.ref p2)) → σ[3]? = some (some (.ref p3)) → σ[4]? = some (some (.int ((m' + 1 : Nat) : Int))) → Ev (Src sa cl) n (0 + (0 + (0 + (0 + ((0 + 0) + 0)))) + tkT m') (tCall (spS (PTrm m')) [] E0 (tCons (tVar 0) (tCons (tVar 1) (tCons (tVar 2) (tCons (tVar 3) (tCons (tOp rSubI (tVar 4) (tC (.int 1))) tNil)))))) σ G' (IsTt fun t => TmIn (· ∈ D) (· ∈ C) (· ∈ W) m' t) := fun {n σ G'} s0 e0 e1 e2 e3 e4 =>
      ev_callSV (kb := tkT m') (ea_consV (ev_var e0) (ea_consV (ev_var e1) (ea_consV (ev_var e2) (ea_consV (ev_var e3) (ea_consV (ev_eq (congrArg V.int em) (ev_opV (ev_var e4) ev_c (v_sub st))) ea_nilV))))) fun G2 s' => ⟨p1, p2, p3, D, C, W, rfl, i1.mono (s0.trans s'), i2.mono (s0.trans s'), i3.mono (s0.trans s'), rfl, rfl⟩
    refine q_set h5 (sub (Same.refl _) rfl rfl rfl rfl rfl) fun v6 G6 H6 s6 r6 => ?_
    obtain ⟨t1, ht1, r6⟩ := r6
    have f6 := f5.trans s6.fr
    refine q_if st s6.s (et_or st (et_testV (ev_opV (ev_var rfl) ev_c (v_eqI st))) fun _ => et_testV (ev_opV (ev_var rfl) ev_c (v_eqI st))) (fun H7 p7 k7 h7 => ?_) (fun H7 z7 k7 h7 => q_end ?_)
    · refine q_ret h7 (ev_tq (RA := RCons (IsV (.str "loop")) (RCons (IsTm t1) RNil)) st (ea_cons ev_c (ea_cons ((ev_var rfl).imp fun v G' s' e => by rw [show v = _ from e]; exact tm_mon t1 s' r6) ea_nil)) rc2_len) fun v5 G5 H8 s5 r5 => ?_
      exact fin (t := .loop t1) ht1 (by omega) ((f6.kp k7).trans s5.fr) s5.s r5
    have f7 := f6.kp k7
    have tm1 : ∀ {n : Nat} {σ : L2.St} {G' : Hp}, Same G6 G' → σ[6]? = some (some v6) → Ev (Src sa cl) n 0 (tVar 6) σ G' (IsTm t1) := fun s0 e => (ev_var e).imp fun v G2 s' e => by rw [show v = _ from e]; exact tm_mon t1 (s0.trans s') r6
    refine q_if st h7 (et_testV (ev_opV (ev_var rfl) ev_c (v_eqI st))) (fun H8 p8 k8 h8 => ?_) (fun H8 z8 k8 h8 => q_end ?_)
    · refine q_ret h8 (ev_tq (RA := RCons (IsV (.str "times")) (RCons (IsI fun z => z ∈ ([0, 1, 2, 3, 40, 1000003] : List Int)) (RCons (IsTm t1) RNil))) st (ea_cons ev_c (ea_cons (ev_intQ (ws := [0, 1, 2, 3, 40, 1000003]) st (ea_consV ev_c (ea_consV ev_c (ea_consV ev_c (ea_consV ev_c (ea_consV ev_c (ea_consV (ev_eq (congrArg V.int (by decide)) (ev_opV (ev_opV ev_c ev_c (v_pow st ⟨by decide, by decide, by decide⟩)) ev_c (v_add st))) ea_nilV)))))) (by decide) (ev_pick (ea_consV (ev_var rfl) (ea_consV ev_c ea_nilV)) (by decide) (by decide))) (ea_cons (tm1 (Same.refl _) rfl) ea_nil))) rc3_len) fun v5 G5 H9 s5 r5 => ?_
      obtain ⟨a, xs, rfl, g, _, _, rfl, e1, _, _, rfl, ⟨z, hz, rfl⟩, _, _, rfl, e3, e2⟩ := r5
      have hz : z = 0 ∨ z = 1 ∨ z = 2 ∨ z = 3 ∨ z = 40 ∨ z = 1000003 := by simpa using hz
      exact fin (t := .times z t1) ⟨by omega, ht1⟩ (by omega) ((f7.kp k8).trans s5.fr) s5.s ⟨a, _, rfl, g, _, _, rfl, e1, _, _, rfl, rfl, _, _, rfl, e3, e2⟩
    have f8 := f7.kp k8
    refine q_set h8 (sub s6.g rfl rfl rfl rfl rfl) fun v7 G7 H9 s7 r7 => ?_
    obtain ⟨t2, ht2, r7⟩ := r7
    have f9 := f8.trans s7.fr
    have s67 := s6.g.trans s7.g
    have tm2 : ∀ {n : Nat} {σ : L2.St} {G' : Hp}, Same G7 G' → σ[7]? = some (some v7) → Ev (Src sa cl) n 0 (tVar 7) σ G' (IsTm t2) := fun s0 e => (ev_var e).imp fun v G2 s' e => by rw [show v = _ from e]; exact tm_mon t2 (s0.trans s') r7
    refine q_if st s7.s (et_or st (et_testV (ev_opV (ev_var rfl) ev_c (v_eqI st))) fun _ => et_testV (ev_opV (ev_var rfl) ev_c (v_eqI st))) (fun HA pA kA hA => ?_) (fun HA zA kA hA => q_end ?_)
    · refine q_ret hA (ev_tq (RA := RCons (IsV (.str "catch")) (RCons (IsS (· ∈ W)) (RCons (IsTm t1) (RCons (IsTm t2) RNil)))) st (ea_cons ev_c (ea_cons (ev_nmP (i3.mono s67) rfl rfl) (ea_cons (tm1 s7.g rfl) (ea_cons (tm2 (Same.refl _) rfl) ea_nil)))) rc4_len) fun v5 G5 H9 s5 r5 => ?_
      obtain ⟨a, xs, rfl, g, _, _, rfl, e1, _, _, rfl, ⟨z, hz, rfl⟩, _, _, rfl, e3, _, _, rfl, e4, e2⟩ := r5
      exact fin (t := .ctch z t1 t2) ⟨hz, ht1, ht2⟩ (by omega) ((f9.kp kA).trans s5.fr) s5.s ⟨a, _, rfl, g, _, _, rfl, e1, _, _, rfl, rfl, _, _, rfl, e3, _, _, rfl, e4, e2⟩
    have fA := f9.kp kA
    refine q_if st hA (et_testV (ev_opV (ev_var rfl) ev_c (v_eqI st))) (fun HB pB kB hB => ?_) (fun HB zB kB hB => q_end ?_)
    · refine q_ret hB (ev_tq (RA := RCons (IsV (.str "clean")) (RCons (IsTm t1) (RCons (IsTm t2) RNil))) st (ea_cons ev_c (ea_cons (tm1 s7.g rfl) (ea_cons (tm2 (Same.refl _) rfl) ea_nil))) rc3_len) fun v5 G5 H9 s5 r5 => ?_
      exact fin (t := .clean t1 t2) ⟨ht1, ht2⟩ (by omega) ((fA.kp kB).trans s5.fr) s5.s r5
    have fB := fA.kp kB
    have m2 : 0 ≤ w0 % 2 ∧ w0 % 2 < 2 := by omega
    refine q_ret hB (ev_tq (RA := RCons (IsS (· ∈ (["then", "either"] : List Str))) (RCons (IsTm t1) (RCons (IsTm t2) RNil))) st (ea_cons (ev_wordP (ws := ["then", "either"]) st (ea_consV ev_c (ea_consV ev_c ea_nilV)) (by decide) (ev_IP (ev_opV (ev_cbV (ea_consV (ev_var rfl) ea_nilV) (c_int st)) ev_c (v_mod st (by decide))) m2)) (ea_cons (tm1 s7.g rfl) (ea_cons (tm2 (Same.refl _) rfl) ea_nil))) rc3_len) fun v5 G5 H9 s5 r5 => ?_
    obtain ⟨a, xs, rfl, g, _, _, rfl, ⟨z, hz, rfl⟩, _, _, rfl, e3, _, _, rfl, e4, e2⟩ := r5
    have hz : z = "then" ∨ z = "either" := by simpa using hz
    rcases hz with rfl | rfl
    · exact fin (t := .seq t1 t2) ⟨ht1, ht2⟩ (by omega) (fB.trans s5.fr) s5.s ⟨a, _, rfl, g, _, _, rfl, rfl, _, _, rfl, e3, _, _, rfl, e4, e2⟩
    · exact fin (t := .either t1 t2) ⟨ht1, ht2⟩ (by omega) (fB.trans s5.fr) s5.s ⟨a, _, rfl, g, _, _, rfl, rfl, _, _, rfl, e3, _, _, rfl, e4, e2⟩
theorem ok_lterm19 {f : Addr} {fd : FuncData} (Z : Bi mg) (c__law_pick : Callee P w K mg base "_law_pick" CX0 1 ["_law_source_here", "_law_many"] [] sp_pick) (F : Fun K "_law_term" "_law_term" s__law_term f fd) (hmg : mg "_law_term" = some (.ref f)) (hk : PySem.W.keepIn K (.ref f) = true) (hb : Binds K fd ["_law_source_here", "_law_deeds", "_law_procedures", "_law_ways", "_law_depth"] []) :
    ∀ m : Nat, FnOk P w K mg base CX0 (2 + m + 1) f fd ["_law_source_here", "_law_deeds", "_law_procedures", "_law_ways", "_law_depth"] (spS (PTrm m)) := by
  intro m
  induction m with
  | zero => exact ok_lterm_step (kk := 0) Z c__law_pick ⟨f, fd, [], hmg, hk, (⟨fun vs H Q E h => (by obtain ⟨_, _, _, _, _, _, _, h, _⟩ := h; exact h.elim), fun A outer s H args us vs Q E hr h0 hb hv h => (by obtain ⟨_, _, _, _, _, _, _, h, _⟩ := h; exact h.elim)⟩ : FnOk P w K mg base CX0 0 f fd ["_law_source_here", "_law_deeds", "_law_procedures", "_law_ways", "_law_depth"] (spS fun _ _ _ _ _ _ => False)), hb, .nil⟩ (.inl rfl) (by omega) F
  | succ m ih => exact ok_lterm_step Z c__law_pick ⟨f, fd, [], hmg, hk, ih, hb, .nil⟩ (.inr ⟨m, rfl, rfl⟩) (by omega) F
abbrev s__law_text : Stmt := top 23
theorem sc__law_text : FnScope ["_law_term_here", "_law_fields", "_law_field"] ["_law_term_here"] (defScope s__law_text) := ⟨rfl, rfl, rfl, by decide +kernel, rfl, by decide +kernel, by decide +kernel⟩
theorem ok_ltext_step {spT : Sp} {m kk : Nat} {f : Addr} {fd : FuncData} (Z : Bi mg) (c__law_text : Callee P w K mg base "_law_text" CX0 kk ["_law_term_here"] [] spT) (hT : m = 0 ∨ ∃ m', m = m' + 1 ∧ spT = spP (PTxt m')) (hkk : kk ≤ m) (hm : m ≤ 10)
    (F : Fun K "_law_text" "_law_text" s__law_text f fd) : FnOk P w K mg base CX0 (m + 1) f fd ["_law_term_here"] (spP (PTxt m)) := by
  refine F.ok sc__law_text (fun vs H Q E h => ?_) (fun cdv A outer s H vs Q E hr h => ?_)
  · obtain ⟨_, _, _, ⟨_, _, rfl, _⟩, _⟩ := h
    rfl
  · obtain ⟨G, R, hs, ⟨v, t, rfl, ht, ti, rfl⟩, q⟩ := h
    have hr1 : Room m (A.deeper (envOfC "_law_text" (defScope s__law_text) s.heap.objs.size f cdv)) := hr
    refine ⟨_, (pss_cons (ps_if (pt_cmpR (op_eqA K hr.units) (pv 0) (pe_tup (pa_cons pe_str pa_nil)) (nomark _)) (pss_cons (ps_ret pe_str)
  pss_nil) pss_nil)
  (pss_cons (ps_setLc (i := 1) (own := [("_law_field", 2)]) (g := (gName 2)) rfl sc__law_text.nd rfl rfl (sw_true rfl rfl rfl (by decide +kernel)) (pi_tupK K (pv 0)) (blkOk_by (by kernel_rfl)) (fun _ _ _ _ _ => (pg_name (i := 2) sc__law_text.nd rfl (Or.inl rfl))) (fun _ _ _ _ _ => pts_nil) (fun _ _ _ _ _ => (pe_ifExp (pt_val (pe_callB (call_isiTA K) (by rfl) Z.z_isinstance (by decide +kernel) (pa_cons (pv 2) (pa_cons (pe_tup (pa_cons (pe_bltn (v := .ty "str") (by rfl) Z.z_str (by decide +kernel) rfl) (pa_cons (pe_bltn (v := .ty "int") (by rfl) Z.z_int (by decide +kernel) rfl) pa_nil))) pa_nil)))) (pe_callTy call_str2 (by rfl) Z.z_str (by decide +kernel) (pa_cons (pv 2) pa_nil)) (pe_callC c__law_text (hr1.mono (by omega)) pass0 (pa_cons (pv 2) pa_nil)))))
  (pss_cons (ps_ret (pe_op op_addA (pe_op op_addA pe_str (pe_joinK K pe_str (pv 1))) pe_str))
  pss_nil))), ?_⟩
    have st := stab0 G H
    have h0 : SP0 G H 0 G H := Grow.refl hs
    show tSeq _ _ (Ends.mk _ _ _ _) [some _, none, none] _
    refine q_if st h0 (P := fun c => c = t.isSkip) ((et_testV (b := PyData.eqv t.dat (.tuple [.str "skip"])) (ev_op (Ra := IsTm t) (Rb := IsTm .skip) ((ev_var rfl).imp fun u G' s' e => by rw [show u = _ from e]; exact tm_mon t s' ht) (ev_tq st (ea_cons ev_c ea_nil) rc1_len) fun x y G' s' hx hy => v_eqD st (dp_tm t hx) (dp_tm .skip hy) (tm_shaped ti (by omega)) (tm_shaped (m := 0) (t := .skip) trivial (by decide)))).imp fun c h => by rw [h, eqv_skip]) (fun H1 p1 k1 h1 => ?_) (fun H1 p1 k1 h1 => q_end ?_)
    · exact q_retV st h1 ev_c fun H2 k2 h2 => q _ _ _ h2 (congrArg V.str (skip_txt p1.symm).symm)
    · have ns : t.isSkip = false := p1.symm
      have ok := fd_ok ti
      rw [isTm_fds] at ht
      obtain ⟨a, xs, rfl, g, rl⟩ := ht
      have lx := rl_len rl
      have l4 := fds_le t
      refine q_set h1 (ev_lcTx (xs := xs) (f := fun j => .str (t.fds.getD j (.s "")).txt) st ((ev_var rfl).imp fun u G' s' e => ⟨a, e, s' _ _ g⟩) (by omega) (fun _ => rfl) fun j x G' hx s' => ?_) fun v2 G2 H2 s2 r2 => ?_
      · have hj : j < t.fds.length := by
          have := (List.getElem?_eq_some_iff.mp hx).1
          omega
        obtain ⟨u, hu, hf⟩ := rl_get rl (List.getElem?_eq_getElem hj)
        rw [hu] at hx
        obtain rfl := Option.some.inj hx
        have okj := ok _ (List.getElem_mem hj)
        rw [List.getD_eq_getElem?_getD, List.getElem?_eq_getElem hj]
        show Ev (SP0 G H) _ 0 _ _ _ (IsV (.str (t.fds[j]).txt))
        generalize t.fds[j] = fj at hf okj
        have isi : ∀ {n : Nat} {σ : L2.St} {G2 : Hp}, Same G G2 → σ[2]? = some (some u) → EvT (SP0 G H) n 0 (tB (tCB (rIsiT K) (tCons (tVar 2) (tCons (tTup (tCons (tC (.ty "str")) (tCons (tC (.ty "int")) tNil))) tNil)))) σ G2 (fun c => c = (isiB (tyS fj.dat) "str" || isiB (tyS fj.dat) "int")) := fun s0 e => et_B (ev_cb (RA := RCons (IsV u) (RCons (IsNew _ (.tup [.ty "str", .ty "int"])) RNil)) (ea_cons (ev_var e) (ea_cons (ev_tupN st (ea_consV ev_c (ea_consV ev_c ea_nilV)) (by simp)) ea_nil)) fun vs G3 s3 e9 => by
          obtain ⟨_, _, rfl, a1, _, _, rfl, ⟨p, rfl, _, gp⟩, e8⟩ := e9
          obtain rfl := (show _ = _ from a1)
          obtain rfl := (show _ = [] from e8)
          exact c_isi2 st (by decide) (by decide) (dp_fd (Mon.mon (s0.trans s3) hf)) gp)
        cases okj with
        | s hl =>
          obtain rfl := (show _ = _ from hf)
          exact ev_if (ka := 0) (kb := 0) (c := true) st ((isi s' rfl).imp fun c h => h) (fun _ => ev_cbV (ea_consV (ev_var rfl) ea_nilV) (c_strS2 st)) fun z => by cases z
        | @n i hl =>
          obtain rfl := (show _ = _ from hf)
          refine ev_if (ka := 0) (kb := 0) (c := true) st ((isi s' rfl).imp fun c h => h) (fun _ => ev_cbV (ea_consV (ev_var rfl) ea_nilV) (c_strI2 st ?_)) fun z => by cases z
          exact log_lt60 hl.1 hl.2
        | @t m' a e ha =>
          have e1 : (isiB (tyS a.dat) "str" || isiB (tyS a.dat) "int") = false := by rw [tyS_t]; decide +kernel
          refine ev_if (ka := 0) (kb := 0) (c := false) st ((isi s' rfl).imp fun c h => by rw [h]; exact e1) (fun z => by cases z) fun _ => ?_
          rcases hT with hT | ⟨m2, e2, rfl⟩
          · omega
          obtain rfl : m' = m2 := by omega
          exact ev_callV st (ea_consV (ev_var rfl) ea_nilV) fun G3 s3 => ⟨u, a, rfl, tm_mon a (s'.trans s3) hf, ha, rfl⟩
      · obtain ⟨p2, rfl, _, g2⟩ := r2
        rw [lx, fd_txts] at g2
        have c1 : ("(" : Str).length = 1 ∧ (")" : Str).length = 1 := by decide +kernel
        have hsz : (1000000 : Nat) ≤ sizeLine := by decide
        have tl := txt_len ti
        have pm : 2 ^ m ≤ 2 ^ 10 := Nat.pow_le_pow_right (by decide) hm
        rw [txt_f ns] at tl
        unfold wrapS at tl
        rw [Str.length_append, Str.length_append] at tl
        refine q_retV st s2.s (ev_opV (ev_opV ev_c (ev_join st ev_c ((ev_var rfl).imp fun u G' s' e => ⟨p2, e, SqL.of (s' _ _ g2)⟩) (join_bd hm ok l4.1)) (v_adds st (by omega))) ev_c (v_adds st (by rw [Str.length_append]; omega))) fun H3 k3 h3 => q _ _ _ h3 ?_
        rw [txt_f ns]
        rfl
theorem ok_ltext19 {f : Addr} {fd : FuncData} (Z : Bi mg) (F : Fun K "_law_text" "_law_text" s__law_text f fd) (hmg : mg "_law_text" = some (.ref f)) (hk : PySem.W.keepIn K (.ref f) = true) (hb : Binds K fd ["_law_term_here"] []) : ∀ m : Nat, m ≤ 10 → FnOk P w K mg base CX0 (m + 1) f fd ["_law_term_here"] (spP (PTxt m)) := by
  intro m
  induction m with
  | zero => exact fun _ => ok_ltext_step (kk := 0) Z ⟨f, fd, [], hmg, hk, (⟨fun vs H Q E h => (by obtain ⟨_, _, _, h, _⟩ := h; exact h.elim), fun A outer s H args us vs Q E hr h0 hb hv h => (by obtain ⟨_, _, _, h, _⟩ := h; exact h.elim)⟩ : FnOk P w K mg base CX0 0 f fd ["_law_term_here"] (spP fun _ _ _ => False)), hb, .nil⟩ (.inl rfl) (by omega) (by decide) F
  | succ m ih => exact fun h => ok_ltext_step Z ⟨f, fd, [], hmg, hk, ih (by omega), hb, .nil⟩ (.inr ⟨m, rfl, rfl⟩) (Nat.le_refl _) h F
theorem not_f {b : Bool} (h : (!b) = false) : b = true := by cases b with | true => rfl | false => cases h
theorem in_cu (c : Nat) : inV (.str (⟨#[c]⟩ : Str)) [.str " ", .str "(", .str ")"] = cuC c := by
  have e : ([.str " ", .str "(", .str ")"] : List V) = ([" ", "(", ")"] : List Str).map V.str := rfl
  rw [e, inV_strs]
  unfold cuC
  refine decide_eq_decide.mpr ?_
  have h1 : (" " : Str) = (⟨#[32]⟩ : Str) ∧ ("(" : Str) = (⟨#[40]⟩ : Str) ∧ (")" : Str) = (⟨#[41]⟩ : Str) := by decide +kernel
  rw [h1.1, h1.2.1, h1.2.2]
  have h2 : ∀ a b : Nat, (⟨#[a]⟩ : Str) = (⟨#[b]⟩ : Str) ↔ a = b := fun a b => ⟨fun h => by injection h with h; simpa using h, fun h => by rw [h]⟩
  simp only [List.mem_cons, List.not_mem_nil, or_false, h2]
abbrev s_split_text : Stmt := top 12
theorem sc_split_text : FnScope ["text", "found", "word", "begin", "at", "sign"] ["text"] (defScope s_split_text) := ⟨rfl, rfl, rfl, by decide +kernel, rfl, by decide +kernel, by decide +kernel⟩
theorem ok_split {f : Addr} {fd : FuncData} (Z : Bi mg) (F : Fun K "split_text" "split_text" s_split_text f fd) : FnOk P w K mg base CX0 1 f fd ["text"] (spP PSpl) := by
  refine F.ok sc_split_text (fun vs H Q E h => ?_) (fun cdv A outer s H vs Q E hr h => ?_)
  · obtain ⟨_, _, _, ⟨_, _, rfl, _⟩, _⟩ := h
    rfl
  · obtain ⟨G, R, hs, ⟨z, F0, rfl, hl, sF, rfl⟩, q⟩ := h
    refine ⟨_, (pss_cons (ps_set (i := 1) sc_split_text.nd rfl (Or.inl rfl) (pe_lst pa_nil))
  (pss_cons (ps_asg (pe_tup (pa_cons pe_str (pa_cons pe_int pa_nil))) (pg_tup rfl (pgs_cons (pg_name (i := 2) sc_split_text.nd rfl (Or.inl rfl)) (pgs_cons (pg_name (i := 3) sc_split_text.nd rfl (Or.inl rfl)) pgs_nil))))
  (pss_cons (ps_for PassesOwn.never rfl (pi_enumS (by rfl) Z.z_enumerate (pa_cons (pe_op op_addA (pv 0) pe_str) pa_nil)) (pg_tup rfl (pgs_cons (pg_name (i := 4) sc_split_text.nd rfl (Or.inl rfl)) (pgs_cons (pg_name (i := 5) sc_split_text.nd rfl (Or.inl rfl)) pgs_nil))) (pss_cons (ps_if (pt_cmpR (op_ninA K (hu_of hr)) (pv 5) (pe_tup (pa_cons pe_str (pa_cons pe_str (pa_cons pe_str pa_nil)))) (by rfl)) (pss_cons (ps_if (pt_cmpR (op_eqA K hr.units) (pv 2) pe_str (nomark _)) (pss_cons (ps_set (i := 3) sc_split_text.nd rfl (Or.inl rfl) (pv 4))
  pss_nil) pss_nil)
  (pss_cons (ps_aug (i := 2) sc_split_text.nd rfl (Or.inl rfl) (pv 5) ip_addS)
  (pss_cons ps_continue
  pss_nil))) pss_nil)
  (pss_cons (ps_if (pt_cmpR (op_neA K hr.units) (pv 2) pe_str (nomark _)) (pss_cons (ps_expr (pe_bm PySem.F.plainAttrs_list PySem.F.slot_list_append PySem.F.type_list_append mt_append (pv 1) (pa_cons (pe_tup (pa_cons (pv 2) (pa_cons (pv 3) pa_nil))) pa_nil)))
  pss_nil) pss_nil)
  (pss_cons (ps_if (pt_cmpR (op_neA K hr.units) (pv 5) pe_str (nomark _)) (pss_cons (ps_expr (pe_bm PySem.F.plainAttrs_list PySem.F.slot_list_append PySem.F.type_list_append mt_append (pv 1) (pa_cons (pe_tup (pa_cons (pv 5) (pa_cons (pv 4) pa_nil))) pa_nil)))
  pss_nil) pss_nil)
  (pss_cons (ps_set (i := 2) sc_split_text.nd rfl (Or.inl rfl) pe_str)
  pss_nil)))))
  (pss_cons (ps_expr (pe_bm PySem.F.plainAttrs_list PySem.F.slot_list_append PySem.F.type_list_append mt_append (pv 1) (pa_cons (pe_tup (pa_cons pe_str (pa_cons (pe_callB (call_lenA K) (by rfl) Z.z_len PySem.boot_len (pa_cons (pv 0) pa_nil)) pa_nil))) pa_nil)))
  (pss_cons (ps_ret (pv 1))
  pss_nil))))), ?_⟩
    have st := stab0 G H
    have h0 : SP0 G H 0 G H := Grow.refl hs
    have hsz : (500000 : Nat) ≤ sizeLine := by decide
    have l1 : (" " : Str).length = 1 := by decide +kernel
    obtain ⟨L, hL⟩ : ∃ L, L = z.cps.toList ++ [32] := ⟨_, rfl⟩
    have lz : (z ++ (" " : Str)).cps.size = z.length + 1 := by
      have : (z ++ (" " : Str)).length = z.length + 1 := by rw [Str.length_append, l1]
      exact this
    have at_ : ∀ {l c : Nat}, (z ++ (" " : Str)).cps[l]? = some c → L.getD l 0 = c := fun {l c} h => by
      have e : (z ++ (" " : Str)).cps.toList = L := by
        rw [cps_app, hL]
        rfl
      have : L[l]? = some c := by
        rw [← e]
        simpa using h
      rw [List.getD_eq_getElem?_getD, this]
      rfl
    show tSeq _ _ (Ends.mk _ _ _ _) [some _, none, none, none, none, none] _
    refine q_newO (R := IsTk) st h0 fun D G1 H1 J1 s1 hD hO => ?_
    refine q_asgT2 st hO.s.s (ev_tupN (vs := [.str "", .int 0]) st (ea_consV ev_c (ea_consV ev_c ea_nilV)) (by simp)) fun G2 J2 s2 => ?_
    have hO2 := LcO.go st s1.s hD hO s2
    refine q_forE (z := z ++ (" " : Str)) st hO2.s.s (ea_consV (ev_opV (ev_var rfl) ev_c (v_adds st (by rw [l1]; omega))) ea_nilV) (fun l σ' J => ∃ G3 y4 y5, σ' = [some (.str z), some (.ref D), some (.str (tkAt L l).2.1), some (.int ((tkAt L l).2.2 : Nat)), y4, y5] ∧ LcO (SP0 G H) G1 H1 0 D IsTk (tkAt L l).1 G3 J) (fun H' k' h' => ⟨G2, none, none, rfl, LcO.go st s1.s hD hO2 (Stp.go0 k' h')⟩) (fun l c σ' J T hc hp hT => ?_) (fun σ' J hp => ?_)
    · obtain ⟨G3, y4, y5, rfl, hO3⟩ := hp
      have hO4 := LcO.go st s1.s hD hO3 (st.new (o := .tup [.int (l : Nat), .str ⟨#[c]⟩]) hO3.s.s hT)
      generalize upd G3 T (.tup [.int (l : Nat), .str ⟨#[c]⟩]) = G4 at hO4
      generalize upd J T (.tup [.int (l : Nat), .str ⟨#[c]⟩]) = J4 at hO4
      have hll : l < z.length + 1 := by
        have := (Array.getElem?_eq_some_iff.mp hc).1
        omega
      have ec := at_ hc
      have es : tkAt L (l + 1) = tkStep (tkAt L l) l c := by rw [← ec]; rfl
      obtain ⟨b1, b2, b3⟩ := tkAt_len L l
      generalize tkAt L l = S at es b1 b2 b3 hO4
      obtain ⟨fo, wd, be⟩ := S
      have b2 : wd.length ≤ l := b2
      have hO4 : LcO (SP0 G H) G1 H1 0 D IsTk fo G4 J4 := hO4
      have fin : ∀ {F' : List (Str × Nat)} {w' : Str} {b' : Nat} {y4 y5 : Option V} {G5 J5 : Hp}, tkAt L (l + 1) = (F', w', b') → LcO (SP0 G H) G1 H1 0 D IsTk F' G5 J5 → ∃ G3 z4 z5, [some (.str z), some (.ref D), some (.str w'), some (.int (b' : Nat)), y4, y5] = [some (.str z), some (.ref D), some (.str (tkAt L (l + 1)).2.1), some (.int ((tkAt L (l + 1)).2.2 : Nat)), z4, z5] ∧ LcO (SP0 G H) G1 H1 0 D IsTk (tkAt L (l + 1)).1 G3 J5 := fun e h => ⟨_, _, _, by rw [e], by rw [e]; exact h⟩
      have b1 : fo.length + (if wd = "" then 0 else 1) ≤ l := b1
      show tSeq _ _ (Ends.mk _ _ _ _) [some (.str z), some (.ref D), some (.str wd), some (.int (be : Nat)), some (.int (l : Nat)), some (.str ⟨#[c]⟩)] _
      refine q_if st hO4.s.s (P := fun b => b = !cuC c) ((et_testV (ev_op (Ra := IsV (.str ⟨#[c]⟩)) (Rb := IsNew G4 (.tup [.str " ", .str "(", .str ")"])) (ev_var rfl) (ev_tupN st (ea_consV ev_c (ea_consV ev_c (ea_consV ev_c ea_nilV))) (by simp)) fun x y G' s' hx hy => by
        obtain rfl := (show _ = _ from hx)
        obtain ⟨p, rfl, _, gp⟩ := hy
        exact v_inT (neg := true) st (SqT.of gp) rfl rfl)).imp fun b h => by rw [h]; exact congrArg (fun b => !b) (in_cu c)) (fun H5 p5 k5 h5 => ?_) (fun H5 p5 k5 h5 => q_end ?_)
      · have nc : cuC c = false := by cases z : cuC c with | false => rfl | true => rw [z] at p5; cases p5
        have hO5 := LcO.go st s1.s hD hO4 (Stp.go0 k5 h5)
        have e2 : tkStep (fo, wd, be) l c = (fo, wd ++ (⟨#[c]⟩ : Str), if wd = "" then l else be) := by
          unfold tkStep
          rw [nc]
          rfl
        rw [e2] at es
        refine q_if st h5 (et_testV (ev_opV (ev_var rfl) ev_c (v_eqS st))) (fun H6 p6 k6 h6 => ?_) (fun H6 p6 k6 h6 => q_end ?_)
        · have p6 := of_decide_eq_true p6.symm
          refine q_setV st h6 (ev_var rfl) fun H7 k7 h7 => q_end ?_
          refine q_augS st h7 rfl (ev_var rfl) (by show _ + 1 ≤ _; omega) fun H8 k8 h8 => ?_
          exact fin (by rw [es, if_pos p6]) (LcO.go st s1.s hD (LcO.go st s1.s hD (LcO.go st s1.s hD hO5 (Stp.go0 k6 h6)) (Stp.go0 k7 h7)) (Stp.go0 k8 h8))
        · have p6 := of_decide_eq_false p6.symm
          refine q_augS st h6 rfl (ev_var rfl) (by show _ + 1 ≤ _; omega) fun H8 k8 h8 => ?_
          exact fin (by rw [es, if_neg p6]) (LcO.go st s1.s hD (LcO.go st s1.s hD hO5 (Stp.go0 k6 h6)) (Stp.go0 k8 h8))
      · have yc : cuC c = true := by cases z : cuC c with | true => rfl | false => rw [z] at p5; cases p5
        have hO5 := LcO.go st s1.s hD hO4 (Stp.go0 k5 h5)
        have e2 : tkStep (fo, wd, be) l c = ((fo ++ (if wd = "" then [] else [(wd, be)])) ++ (if c = 32 then [] else [((⟨#[c]⟩ : Str), l)]), ("" : Str), be) := by
          unfold tkStep
          rw [yc]
          rfl
        rw [e2] at es
        have tup : ∀ {j1 j2 : Nat} {x : Str} {y : Nat} {σ : L2.St} {G' : Hp}, σ[j1]? = some (some (.str x)) → σ[j2]? = some (some (.int (y : Nat))) → EvA (SP0 G H) 0 0 (tCons (tTup (tCons (tVar j1) (tCons (tVar j2) tNil))) tNil) σ G' (RL IsTk [(x, y)]) := fun e1 e2 => ea_cons ((ev_tupN st (ea_consV (ev_var e1) (ea_consV (ev_var e2) ea_nilV)) (by simp)).imp fun v G2 s2 ⟨p, e, _, g⟩ => ⟨p, e, g⟩) ea_nil
        refine q_ifB st (fun σ' J => ∃ G6, σ' = [some (.str z), some (.ref D), some (.str wd), some (.int (be : Nat)), some (.int (l : Nat)), some (.str ⟨#[c]⟩)] ∧ LcO (SP0 G H) G1 H1 0 D IsTk (fo ++ (if wd = "" then [] else [(wd, be)])) G6 J) h5 (et_testV (ev_opV (ev_var rfl) ev_c (v_neS st))) (fun σ' J hj => ?_) (fun H6 hu p6 k6 h6 => ?_) (fun H6 hu p6 k6 h6 => ?_)
        · obtain ⟨G6, rfl, hO6⟩ := hj
          have lf : (fo ++ (if wd = "" then [] else [(wd, be)])).length ≤ l := by
            rw [List.length_append]
            split at b1 <;> rename_i hh
            · rw [if_pos hh]
              simpa using b1
            · rw [if_neg hh]
              simpa using b1
          refine q_ifB st (fun σ' J => ∃ G7, σ' = [some (.str z), some (.ref D), some (.str wd), some (.int (be : Nat)), some (.int (l : Nat)), some (.str ⟨#[c]⟩)] ∧ LcO (SP0 G H) G1 H1 0 D IsTk ((fo ++ (if wd = "" then [] else [(wd, be)])) ++ (if c = 32 then [] else [((⟨#[c]⟩ : Str), l)])) G7 J) hO6.s.s (et_testV (ev_opV (ev_var rfl) ev_c (v_neS st))) (fun σ' J hj => ?_) (fun H7 hu p7 k7 h7 => ?_) (fun H7 hu p7 k7 h7 => ?_)
          · obtain ⟨G7, rfl, hO7⟩ := hj
            exact q_setV st hO7.s.s ev_c fun H8 k8 h8 => q_end (fin es (LcO.go st s1.s hD hO7 (Stp.go0 k8 h8)))
          · have hO7 := LcO.go st s1.s hD hO6 (Stp.go0 k7 h7)
            have hc : ¬ c = 32 := fun e => by subst e; exact absurd p7 (by decide +kernel)
            refine q_appO (k := 0) st s1.s hD hO7 (by omega) rfl (tup (j1 := 5) (j2 := 4) rfl rfl) fun G8 J8 s8 hO8 => q_end (hu _ _ ⟨G8, rfl, ?_⟩)
            rw [if_neg hc]
            exact hO8
          · have hO7 := LcO.go st s1.s hD hO6 (Stp.go0 k7 h7)
            have hc : c = 32 := by
              have : (⟨#[c]⟩ : Str) = (⟨#[32]⟩ : Str) := by
                have e := of_decide_eq_true (not_f p7.symm)
                rw [e]
                decide +kernel
              injection this with h
              simpa using h
            refine q_end (hu _ _ ⟨G6, rfl, ?_⟩)
            rw [if_pos hc, List.append_nil]
            exact hO7
        · have hO6 := LcO.go st s1.s hD hO5 (Stp.go0 k6 h6)
          have hw : ¬ wd = "" := by
            intro e
            rw [e] at p6
            exact absurd p6 (by decide +kernel)
          refine q_appO (k := 0) st s1.s hD hO6 (by omega) rfl (tup (j1 := 2) (j2 := 3) rfl rfl) fun G8 J8 s8 hO8 => q_end (hu _ _ ⟨G8, rfl, ?_⟩)
          rw [if_neg hw]
          exact hO8
        · have hO6 := LcO.go st s1.s hD hO5 (Stp.go0 k6 h6)
          have hw : wd = "" := of_decide_eq_true (not_f p6.symm)
          refine q_end (hu _ _ ⟨G4, rfl, ?_⟩)
          rw [if_pos hw, List.append_nil]
          exact hO6
    · obtain ⟨G3, y4, y5, rfl, hO3⟩ := hp
      rw [lz] at hO3 ⊢
      have b1 := (tkAt_len L (z.length + 1)).1
      refine q_appO (x := (("" : Str), z.length)) (k := 0) st s1.s hD hO3 (by omega) rfl (ea_cons ((ev_tupN (vs := [.str "", .int (z.length : Nat)]) st (ea_consV ev_c (ea_consV (ev_cbV (ea_consV (ev_var rfl) ea_nilV) (c_lenS st (by omega))) ea_nilV)) (by simp)).imp fun v G2 s2 ⟨p, e, _, g⟩ => ⟨p, e, g⟩) ea_nil) fun G8 J8 s8 hO8 => ?_
      obtain ⟨G9, s9, s89, p9, xs, ep, f9, g9, r9⟩ := LcO.pub st s1.s (Nat.le_refl 0) hD hO8
      obtain rfl := V.ref.inj ep
      refine q_retV st s9.s (ev_var rfl) fun HA kA hA => q _ G9 HA hA ⟨D, xs, rfl, sF.free (s1.g.free f9), g9, ?_⟩
      unfold toksP
      rw [← hL]
      exact r9
abbrev s_is_name : Stmt := top 10
theorem sc_is_name : FnScope ["token", "sign"] ["token"] (defScope s_is_name) := ⟨rfl, rfl, rfl, by decide +kernel, rfl, by decide +kernel, by decide +kernel⟩
theorem ok_is_name {tS tF : Tok} {a_FORMS a_OTHER_WORDS : Addr} {f : Addr} {fd : FuncData} (Z : Bi mg) (hFo : FormsAt K w a_FORMS) (hOt : ∀ H, SqT K H a_OTHER_WORDS (otherK.map V.str)) (g_FORMS : mg "FORMS" = some (.ref a_FORMS)) (g_OTHER_WORDS : mg "OTHER_WORDS" = some (.ref a_OTHER_WORDS)) (g_SMALL : mg "SMALL" = some (.str smallL tS)) (g_FIGURES : mg "FIGURES" = some (.str figsL tF)) (F : Fun K "is_name" "is_name" s_is_name f fd) : FnOk P w K mg base CX0 1 f fd ["token"] (spP PNmB) := by
  refine F.ok sc_is_name (fun vs H Q E h => ?_) (fun cdv A outer s H vs Q E hr h => ?_)
  · obtain ⟨_, _, _, ⟨_, rfl, _⟩, _⟩ := h
    rfl
  · obtain ⟨G, R, hs, ⟨z, rfl, hl, rfl⟩, q⟩ := h
    refine ⟨_, (pss_cons (ps_if (PW.pt (pw_or (pt_cmpR (op_eqA K hr.units) (pv 0) pe_str (nomark _)) (pw_or (pt_cmpR op_gtA (pe_callB (call_lenA K) (by rfl) Z.z_len PySem.boot_len (pa_cons (pv 0) pa_nil)) pe_int (nomark _)) (pw_or (pt_cmpR (op_in_kdK hFo) (pv 0) (pe_glob (v := .ref a_FORMS) rfl g_FORMS rfl) (by rfl)) (pw_or (pt_cmpR (op_inA K (hu_of hr)) (pv 0) (pe_glob (v := .ref a_OTHER_WORDS) rfl g_OTHER_WORDS rfl) (by rfl)) (pw_or1 (pt_cmpR op_in_str (pe_ix (ix_any K (hu_of hr)) (pv 0) pe_int (fun _ _ => rfl)) (pe_glob (v := .str "0123456789") rfl g_FIGURES ⟨_, rfl⟩) (by rfl)))))))) (pss_cons (ps_ret pe_bl)
  pss_nil) pss_nil)
  (pss_cons (ps_ret (pe_callB (call_allA K) (by rfl) Z.z_all (by decide +kernel) (pa_cons (pe_lc (own := [("sign", 1)]) (g := (gName 1)) rfl sc_is_name.nd (pi_str (pv 0)) (blkOk_by (by kernel_rfl)) (fun _ _ _ _ _ => (pg_name (i := 1) sc_is_name.nd rfl (Or.inl rfl))) (fun _ _ _ _ _ => pts_nil) (fun _ _ _ _ _ => (pe_or (pe_cmpR op_in_str (pv 1) (pe_glob (v := .str "abcdefghijklmnopqrstuvwxyz") rfl g_SMALL ⟨_, rfl⟩) (by rfl)) (pe_one (pe_cmpR op_in_str (pv 1) (pe_glob (v := .str "0123456789") rfl g_FIGURES ⟨_, rfl⟩) (by rfl)))))) pa_nil)))
  pss_nil)), ?_⟩
    have st := stab0 G H
    have h0 : SP0 G H 0 G H := Grow.refl hs
    have hsz : (500000 : Nat) ≤ sizeLine := by decide
    show tSeq _ _ (Ends.mk _ _ _ _) [some _, none] _
    refine q_if st h0 (P := fun c => c = (decide (z = "") || (decide (12 < z.length) || (decide (z ∈ formK) || (decide (z ∈ otherK) || fgC (c0 z)))))) (et_or st (et_testV (ev_opV (ev_var rfl) ev_c (v_eqS st))) fun hne => et_or st ((et_testV (ev_opV (ev_cbV (ea_consV (ev_var rfl) ea_nilV) (c_lenS st (by omega))) ev_c (v_gt st))).imp fun c h => by rw [h]; exact decide_eq_decide.mpr (by omega)) fun _ => et_or st (et_testV (ev_opV (ev_var rfl) ev_c (v_inKD st hFo))) fun _ => et_or st ((et_testV (ev_opV (ev_var rfl) ev_c (v_inT (neg := false) st (hOt G) rfl rfl))).imp fun c h => by rw [h, inV_strs]; rfl) fun _ => (et_testV (ev_opV (ev_opV (ev_var rfl) ev_c (v_ixS st (by omega) (at0 (of_decide_eq_false hne)))) ev_c (v_inS st))).imp fun c h => by rw [h, StrLaws.found_one]; exact figs_mem (c0 z)) (fun H1 p1 k1 h1 => ?_) (fun H1 p1 k1 h1 => q_end ?_)
    · refine q_retV st h1 ev_c fun H2 k2 h2 => q _ _ _ h2 (congrArg V.bl ?_)
      unfold nameB
      rw [← p1]
      rfl
    · have eN : nameB z = z.cps.toList.all fun c => smC c || fgC c := by
        unfold nameB
        rw [← p1]
        rfl
      refine q_retV st h1 (x := .bl (nameB z)) (ev_cb (ea_cons (ev_lcS (f := fun c => .bl (smC c || fgC c)) st (ev_var rfl) (by omega) (fun _ => rfl) fun c G' hc s' => ev_orV st (ev_eq (congrArg V.bl (by rw [StrLaws.found_one]; exact (small_mem c))) (ev_opV (ev_var rfl) ev_c (v_inS (z := smallL) st))) fun _ => ev_eq (congrArg V.bl (by rw [StrLaws.found_one]; exact (figs_mem c))) (ev_opV (ev_var rfl) ev_c (v_inS (z := figsL) st))) ea_nil) fun vs G' s' e => ?_) fun H2 k2 h2 => q _ _ _ h2 rfl
      obtain ⟨_, _, rfl, ⟨p, rfl, _, g⟩, e2⟩ := e
      obtain rfl := (show _ = [] from e2)
      rw [eN]
      have : (z.cps.toList.all fun c => smC c || fgC c) = ((z.cps.toList.map fun c => smC c || fgC c).all id) := by rw [List.all_map]; rfl
      rw [this]
      exact c_all st (SqL.of (by rw [g, List.map_map]; rfl))
abbrev s_is_count : Stmt := top 11
theorem sc_is_count : FnScope ["token", "sign"] ["token"] (defScope s_is_count) := ⟨rfl, rfl, rfl, by decide +kernel, rfl, by decide +kernel, by decide +kernel⟩
theorem ok_is_count {tF tM : Tok} {f : Addr} {fd : FuncData} (Z : Bi mg) (g_FIGURES : mg "FIGURES" = some (.str figsL tF)) (g_MOST_FIGURES : mg "MOST_FIGURES" = some (.int 60 tM)) (F : Fun K "is_count" "is_count" s_is_count f fd) : FnOk P w K mg base CX0 1 f fd ["token"] (spP PCtB) := by
  refine F.ok sc_is_count (fun vs H Q E h => ?_) (fun cdv A outer s H vs Q E hr h => ?_)
  · obtain ⟨_, _, _, ⟨_, rfl, _⟩, _⟩ := h
    rfl
  · obtain ⟨G, R, hs, ⟨z, rfl, hl, rfl⟩, q⟩ := h
    refine ⟨_, (pss_cons (ps_if (PW.pt (pw_or (pt_cmpR (op_eqA K hr.units) (pv 0) pe_str (nomark _)) (pw_or (pt_cmpR op_gtA (pe_callB (call_lenA K) (by rfl) Z.z_len PySem.boot_len (pa_cons (pv 0) pa_nil)) (pe_glob (v := .int 60) rfl g_MOST_FIGURES ⟨_, rfl⟩) (nomark _)) (pw_or1 (PW.pt (pw_and (pt_cmpR (op_eqA K hr.units) (pe_ix (ix_any K (hu_of hr)) (pv 0) pe_int (fun _ _ => rfl)) pe_str (nomark _)) (pw_and1 (pt_cmpR (op_neA K hr.units) (pv 0) pe_str (nomark _))))))))) (pss_cons (ps_ret pe_bl)
  pss_nil) pss_nil)
  (pss_cons (ps_ret (pe_callB (call_allA K) (by rfl) Z.z_all (by decide +kernel) (pa_cons (pe_lc (own := [("sign", 1)]) (g := (gName 1)) rfl sc_is_count.nd (pi_str (pv 0)) (blkOk_by (by kernel_rfl)) (fun _ _ _ _ _ => (pg_name (i := 1) sc_is_count.nd rfl (Or.inl rfl))) (fun _ _ _ _ _ => pts_nil) (fun _ _ _ _ _ => (pe_cmpR op_in_str (pv 1) (pe_glob (v := .str "0123456789") rfl g_FIGURES ⟨_, rfl⟩) (by rfl)))) pa_nil)))
  pss_nil)), ?_⟩
    have st := stab0 G H
    have h0 : SP0 G H 0 G H := Grow.refl hs
    have hsz : (500000 : Nat) ≤ sizeLine := by decide
    have h2 : ∀ a b : Nat, (⟨#[a]⟩ : Str) = (⟨#[b]⟩ : Str) ↔ a = b := fun a b => ⟨fun h => by injection h with h; simpa using h, fun h => by rw [h]⟩
    have z0 : ("0" : Str) = (⟨#[48]⟩ : Str) := by decide +kernel
    show tSeq _ _ (Ends.mk _ _ _ _) [some _, none] _
    refine q_if st h0 (P := fun c => c = (decide (z = "") || (decide (60 < z.length) || (decide (c0 z = 48) && !decide (z = "0"))))) (et_or st (et_testV (ev_opV (ev_var rfl) ev_c (v_eqS st))) fun hne => et_or st ((et_testV (ev_opV (ev_cbV (ea_consV (ev_var rfl) ea_nilV) (c_lenS st (by omega))) ev_c (v_gt st))).imp fun c h => by rw [h]; exact decide_eq_decide.mpr (by omega)) fun _ => et_and st ((et_testV (ev_opV (ev_opV (ev_var rfl) ev_c (v_ixS st (by omega) (at0 (of_decide_eq_false hne)))) ev_c (v_eqS st))).imp fun c h => by rw [h, z0]; exact decide_eq_decide.mpr (h2 _ _)) fun _ => et_testV (ev_opV (ev_var rfl) ev_c (v_neS st))) (fun H1 p1 k1 h1 => ?_) (fun H1 p1 k1 h1 => q_end ?_)
    · refine q_retV st h1 ev_c fun H2 k2 h2 => q _ _ _ h2 (congrArg V.bl ?_)
      unfold countB
      rw [← p1]
      rfl
    · have eN : countB z = z.cps.toList.all fgC := by
        unfold countB
        rw [← p1]
        rfl
      refine q_retV st h1 (x := .bl (countB z)) (ev_cb (ea_cons (ev_lcS (f := fun c => .bl (fgC c)) st (ev_var rfl) (by omega) (fun _ => rfl) fun c G' hc s' => ev_eq (congrArg V.bl (by rw [StrLaws.found_one]; exact (figs_mem c))) (ev_opV (ev_var rfl) ev_c (v_inS (z := figsL) st))) ea_nil) fun vs G' s' e => ?_) fun H2 k2 h2 => q _ _ _ h2 rfl
      obtain ⟨_, _, rfl, ⟨p, rfl, _, g⟩, e2⟩ := e
      obtain rfl := (show _ = [] from e2)
      rw [eN]
      have : (z.cps.toList.all fgC) = ((z.cps.toList.map fgC).all id) := by rw [List.all_map]; rfl
      rw [this]
      exact c_all st (SqL.of (by rw [g, List.map_map]; rfl))
abbrev s_Pile_wish : Stmt := inClass (top 13) 1
theorem sc_Pile_wish : FnScope ["self", "wishes", "at"] ["self", "wishes"] (defScope s_Pile_wish) := ⟨rfl, rfl, rfl, by decide +kernel, rfl, by decide +kernel, by decide +kernel⟩
theorem ok_pl_wish {C : Addr} {f : Addr} {fd : FuncData} (Z : Bi mg) (hP : PilC K C) (F : Fun K "wish" "Pile.wish" s_Pile_wish f fd) : FnOk P w K mg base CX0 1 f fd ["self", "wishes"] (sp_wish C) := by
  refine F.ok sc_Pile_wish (fun vs H Q E h => ?_) (fun cdv A outer s H vs Q E hr h => ?_)
  · obtain ⟨_, _, _, _, _, _, _, _, _, _, _, _, rfl, _⟩ := h
    rfl
  · obtain ⟨x, W, U, G0, H0, G, ws, va, oc, p, lp, l, rfl, pl, gp, dl, pW, pU, l10, lw, q⟩ := h
    refine ⟨_, (pss_cons (ps_for PassesOwn.never rfl (pi_range1 (by rfl) Z.z_range (pa_cons (pe_callB (call_lenA K) (by rfl) Z.z_len PySem.boot_len (pa_cons (pv 1) pa_nil)) pa_nil)) (pg_name (i := 2) sc_Pile_wish.nd rfl (Or.inl rfl)) (pss_cons (ps_expr (pe_bm PySem.F.plainAttrs_list PySem.F.slot_list_append PySem.F.type_list_append mt_append (pe_fldK K (pv 0)) (pa_cons (pe_ix (ix_any K (hu_of hr)) (pv 1) (pe_op op_subA (pe_op op_subA (pe_callB (call_lenA K) (by rfl) Z.z_len PySem.boot_len (pa_cons (pv 1) pa_nil)) pe_int) (pv 2)) (fun _ _ => rfl)) pa_nil)))
  pss_nil))
  pss_nil), ?_⟩
    have st := stab0 G0 H0
    have h0 : SP0 G0 H0 0 G H := pl.g
    have ll := dts_len dl
    rw [List.length_map] at ll
    show tSeq _ _ (Ends.mk _ _ _ _) [some _, some _, none] _
    refine q_forI1 (m := ((l.length : Nat) : Int)) h0 (ea_consV (ev_eq (congrArg V.int (by rw [ll])) (ev_cbV (ea_consV (ev_var rfl) ea_nilV) (c_lenL st (SqL.of gp)))) ea_nilV) (by omega) (by omega) (fun j σ' J => ∃ G' y, σ' = [some (.ref x), some (.ref p), y] ∧ PlIn C x W U G0 H0 G' J (l.drop (l.length - j) ++ ws) va oc ∧ OnlyX x W U G G') (fun G' H' s' => ⟨G', none, rfl, ?_, fun b o _ _ _ e => s'.g _ _ e⟩) (fun j σ' J hj hp => ?_) (fun σ' J hp => ?_)
    · rw [Nat.sub_zero, List.drop_length]
      exact ⟨pl.hs, pl.x0, pl.w0, pl.v0, pl.p.mono s'.g, s'.s⟩
    · obtain ⟨G1, y, rfl, pl1, ox⟩ := hp
      have hj : j < l.length := by omega
      have px : p ≠ x := fun z => by
        obtain ⟨⟨dx, fs, gx, _⟩, _⟩ := pl.p
        rw [z, gx] at gp
        cases gp
      have gp1 := ox p _ px pW pU gp
      have dl1 := dts_monT (OnlyX.t pl.p ox) _ dl
      have hi : l.length - 1 - j < l.length := by omega
      have el : (l.map Wi.dat)[l.length - 1 - j]? = some (l[l.length - 1 - j]).dat := by rw [List.getElem?_map, List.getElem?_eq_getElem hi]; rfl
      obtain ⟨u, hu, du⟩ := dts_get dl1 el
      obtain ⟨⟨dx, fs, gx, fw, fr, fo, fm, f10⟩, ⟨lw', gw, iw⟩, _, _⟩ := id pl1.p
      have lw2 := dts_len iw
      rw [List.length_map, List.length_reverse, List.length_append, List.length_drop] at lw2
      have ed : l.drop (l.length - (j + 1)) = l[l.length - 1 - j] :: l.drop (l.length - j) := by
        rw [List.drop_eq_getElem_cons (show l.length - (j + 1) < l.length by omega)]
        have e1 : l.length - (j + 1) = l.length - 1 - j := by omega
        have e2 : l.length - (j + 1) + 1 = l.length - j := by omega
        rw [e2]
        congr 1
        simp only [e1]
      refine q_appP (R := IsV u) pl.hs pl.w0 (show SP0 G0 H0 0 G1 J from pl1.g) gw (by omega) (ev_fld st (ev_var rfl) gx hP.c (hP.n _ (by decide)) fw) (fun G' s' => ev_opV (ev_var rfl) (ev_eq (congrArg V.int (show ((l.length : Nat) : Int) - 1 - (j : Nat) = ((l.length - 1 - j : Nat) : Int) by omega)) (ev_opV (ev_opV (ev_eq (congrArg V.int (by rw [ll])) (ev_cbV (ea_consV (ev_var rfl) ea_nilV) (c_lenL st (SqL.of (s' _ _ gp1))))) ev_c (v_sub st)) (ev_var rfl) (v_sub st))) (v_ixL st (SqL.of (s' _ _ gp1)) (atI_nat hu))) fun v G' H' r s' h' => q_end ⟨_, _, rfl, ⟨pl.hs, pl.x0, pl.w0, pl.v0, ?_, h'⟩, fun b o h1 h2 h3 e => by rw [upd_ne h2]; exact s' _ _ (ox b o h1 h2 h3 e)⟩
      obtain rfl := (show _ = _ from r)
      rw [ed]
      exact (pl1.p.mono s').push (s' _ _ gw) (Mon.mon s' du)
    · obtain ⟨G1, y, rfl, pl1, ox⟩ := hp
      rw [Int.toNat_natCast, Nat.sub_self, List.drop_zero] at pl1
      exact q_end (q G1 J pl1 ox)
abbrev s_Pile_settle : Stmt := inClass (top 13) 2
theorem sc_Pile_settle : FnScope ["self", "start", "whole", "word", "count"] ["self"] (defScope s_Pile_settle) := ⟨rfl, rfl, rfl, by decide +kernel, rfl, by decide +kernel, by decide +kernel⟩
theorem ok_pl_settle {C : Addr} {f : Addr} {fd : FuncData} (Z : Bi mg) (hP : PilC K C) (F : Fun K "settle" "Pile.settle" s_Pile_settle f fd) : FnOk P w K mg base CX0 1 f fd ["self"] (sp_settle C) := by
  refine F.ok sc_Pile_settle (fun vs H Q E h => ?_) (fun cdv A outer s H vs Q E hr h => ?_)
  · obtain ⟨_, _, _, _, _, _, _, _, _, rfl, _⟩ := h
    rfl
  · obtain ⟨x, W, U, G0, H0, G, ws, va, oc, rfl, pl, wf, lw, q⟩ := h
    refine ⟨_, (pss_cons (ps_while PassesOwn.never (PW.pt (pw_and (pt_cmpR op_gtA (pe_callB (call_lenA K) (by rfl) Z.z_len PySem.boot_len (pa_cons (pe_fldK K (pv 0)) pa_nil)) pe_int (nomark _)) (pw_and1 (pt_cmpR (op_eqA K hr.units) (pe_ix (ix_any K (hu_of hr)) (pe_ix (ix_any K (hu_of hr)) (pe_fldK K (pv 0)) (pe_un un_neg pe_int) (fun _ _ => rfl)) pe_int (fun _ _ => rfl)) pe_str (nomark _))))) (pss_cons (ps_asg (pe_slice (sl_tupAK K) (pe_bm0 PySem.F.plainAttrs_list PySem.F.slot_list_pop PySem.F.type_list_pop mt_pop (pe_fldK K (pv 0))) (po_some pe_int) po_none) (pg_tup rfl (pgs_cons (pg_name (i := 3) sc_Pile_settle.nd rfl (Or.inl rfl)) (pgs_cons (pg_name (i := 4) sc_Pile_settle.nd rfl (Or.inl rfl)) pgs_nil))))
  (pss_cons (ps_set (i := 1) sc_Pile_settle.nd rfl (Or.inl rfl) (pe_op op_subA (pe_callB (call_lenA K) (by rfl) Z.z_len PySem.boot_len (pa_cons (pe_fldK K (pv 0)) pa_nil)) (pv 4)))
  (pss_cons (ps_set (i := 2) sc_Pile_settle.nd rfl (Or.inl rfl) (pe_callTy (call_tupleA K) (by rfl) Z.z_tuple (by decide +kernel) (pa_cons (pe_slice (sl_listK K) (pe_fldK K (pv 0)) (po_some (pv 1)) po_none) pa_nil)))
  (pss_cons (ps_fld (pv 0) (pe_slice (sl_listK K) (pe_fldK K (pv 0)) po_none (po_some (pv 1))) rfl)
  (pss_cons (ps_expr (pe_bm PySem.F.plainAttrs_list PySem.F.slot_list_append PySem.F.type_list_append mt_append (pe_fldK K (pv 0)) (pa_cons (pe_ifExp (pt_cmpR (op_eqA K hr.units) (pv 3) pe_str (nomark _)) (pv 2) (pe_op (op_catX K) (pe_tup (pa_cons (pv 3) pa_nil)) (pv 2))) pa_nil)))
  pss_nil))))))
  pss_nil), ?_⟩
    have st := stab0 G0 H0
    show tSeq _ _ (Ends.mk _ _ _ _) [some _, none, none, none, none] _
    refine q_while (S := SP0 G0 H0) (m0 := ws.length) (fun m τ J => ∃ G1 U1 ws1 vs1 y1 y2 y3 y4, m = ws1.length ∧ τ = [some (.ref x), y1, y2, y3, y4] ∧ PlIn C x W U1 G0 H0 G1 J ws1 vs1 oc ∧ OnlyX x W U G G1 ∧ (U1 = U ∨ G U1 = none) ∧ settle ws1 vs1 = settle ws va ∧ wfS ws1 vs1.length ∧ ws1.length + vs1.length ≤ 90000) ⟨G, U, ws, va, none, none, none, none, rfl, rfl, pl, fun b o _ _ _ e => e, .inl rfl, rfl, wf, lw⟩ fun m τ J hW => ?_
    obtain ⟨G1, U1, ws1, vs1, y1, y2, y3, y4, rfl, rfl, pl1, ox, hU, es, wf1, lw1⟩ := hW
    obtain ⟨⟨dx, fs, gx, fw, fr, fo, fm, f10⟩, ⟨lw', gw, iw⟩, ⟨lv', gv, iv⟩, nWU⟩ := id pl1.p
    have self_ : ∀ {i : Nat} {σ : L2.St} {G' : Hp}, Same G1 G' → σ[0]? = some (some (.ref x)) → Ev (SP0 G0 H0) i 0 (tFld K (tVar 0) "wishes") σ G' (IsV (.ref W)) := fun s' e => ev_fld st (ev_var e) (s' _ _ gx) hP.c (hP.n _ (by decide)) fw
    have lws := dts_len iw
    rw [List.length_map, List.length_reverse] at lws
    refine ⟨0, G1, 0, fun b => b = isBld ws1, pl1.g, (et_and (ka := 0) (kb := 0) (a := decide (0 < ws1.length)) (b := isBld ws1) st ((et_testV (ev_opV (ev_cbV (ea_consV (self_ (Same.refl _) rfl) ea_nilV) (c_lenL st (SqL.of gw))) ev_c (v_gt st))).imp fun b h => by rw [h, lws]; exact decide_eq_decide.mpr Int.natCast_pos) fun hne => ?_).imp fun b h => ?_, fun G2 J2 s2 hp => ?_, fun G2 J2 s2 hp => ?_⟩
    · have hne := of_decide_eq_true hne
      cases ws1 with
      | nil => exact absurd hne (Nat.lt_irrefl 0)
      | cons w r =>
        rw [List.reverse_cons, List.map_append] at iw
        obtain ⟨ys, v, rfl, i1, i2⟩ := dts_snoc iw
        obtain ⟨a, rest, av, ag, ae⟩ : ∃ a rest, v = .ref a ∧ (∃ s0, G1 a = some (.tup (.str s0 :: rest)) ∧ decide (s0 = "build") = isBld (w :: r)) ∧ True := by
          have kb : ∀ s ∈ (["term", "name", "count", "form", "close", "open", "procedure", "procedures", "word"] : List Str), decide (s = "build") = false := by decide +kernel
          cases w <;> (obtain ⟨a, xs, e, g, v0, w0, e0, h0, _⟩ := i2; obtain rfl := (show v0 = _ from h0); subst e0; exact ⟨a, w0, e, ⟨_, g, by first | exact kb _ (by simp) | exact decide_eq_true rfl⟩, trivial⟩)
        obtain ⟨s0, ga, eb⟩ := ag
        subst av
        have last : ∀ {i : Nat} {σ : L2.St}, σ[0]? = some (some (.ref x)) → Ev (SP0 G0 H0) i 0 (tOp (rIxA K) (tFld K (tVar 0) "wishes") (tUn (rU fun i => .int (-i)) (tC (.int 1)))) σ G1 (IsV (.ref a)) := fun e => ev_opV (self_ (Same.refl _) e) (ev_unV ev_c (u_neg st)) (v_ixL st (SqL.of gw) (by
          have hx : ixN (ys ++ [V.ref a]).length (-1) = some ys.length := by
            unfold ixN
            rw [List.length_append]
            simp
            omega
          unfold atI
          rw [hx]
          simp))
        exact (et_testV (ev_opV (ev_opV (last rfl) ev_c (v_ixT st (SqT.of ga) (atI_nat (j := 0) rfl))) ev_c (v_eqS st))).imp fun b h => by rw [h]; exact eb
    · rw [h]
      cases ws1 with
      | nil => rfl
      | cons w r => simp
    · obtain ⟨wd, k, r, rfl⟩ : ∃ wd k r, ws1 = .bld wd k :: r := by
        cases ws1 with
        | nil => cases hp
        | cons w r => cases w with
          | bld a k => exact ⟨a, k, r, rfl⟩
          | _ => cases hp
      obtain ⟨hk, wf2⟩ := wf1
      rw [List.reverse_cons, List.map_append] at iw
      obtain ⟨ys, v, rfl, i1, i2⟩ := dts_snoc iw
      obtain ⟨a, xs3, rfl, ga, v0, w0, rfl, e0, v1, w1, rfl, e1, v2, w2, rfl, e2, e3⟩ := i2
      obtain rfl := (show v0 = _ from e0)
      obtain rfl := (show v1 = _ from e1)
      obtain rfl := (show v2 = _ from e2)
      obtain rfl := (show w2 = [] from e3)
      have lvl := dts_len iv
      rw [List.length_reverse] at lvl
      have nxW : x ≠ W := fun z => by rw [z, gw] at gx; cases gx
      refine q_popS2 (xs := ys) pl.hs pl.w0 s2.s (s2.g _ _ gw) (s2.g _ _ ga) (self_ s2.g rfl) fun G3 J3 o3 g3 h3 => ?_
      show tSeq _ _ (Ends.mk _ _ _ _) [some (.ref x), y1, y2, some (.str wd), some (.int (k : Nat))] _
      have gx3 := o3 _ _ nxW (s2.g _ _ gx)
      have gv3 := o3 _ _ (Ne.symm nWU) (s2.g _ _ gv)
      have vals : ∀ {i : Nat} {σ : L2.St} {G' : Hp}, Same G3 G' → σ[0]? = some (some (.ref x)) → Ev (SP0 G0 H0) i 0 (tFld K (tVar 0) "read_values") σ G' (IsV (.ref U1)) := fun s' e => ev_fld st (ev_var e) (s' _ _ gx3) hP.c (hP.n _ (by decide)) fr
      refine q_setV st h3 (x := .int ((vs1.length - k : Nat) : Int)) (ev_eq (congrArg V.int (show ((lv'.length : Nat) : Int) - (k : Nat) = _ by rw [lvl]; omega)) (ev_opV (ev_cbV (ea_consV (vals (Same.refl _) rfl) ea_nilV) (c_lenL st (SqL.of gv3))) (ev_var rfl) (v_sub st))) fun J4 k4 h4 => ?_
      refine q_set h4 (ev_tupN2 st (ev_slLN (xs := lv') st (vals (Same.refl _) rfl) (SqL.of gv3) (eo_some (ev_var rfl)) eo_none)) fun v5 G5 J5 s5 r5 => ?_
      obtain ⟨p5, rfl, g5⟩ := r5
      rw [cutV_from (by rw [lvl]; omega)] at g5
      refine q_fldP (R := IsNew G5 (.lst (lv'.take (vs1.length - k)))) pl.hs pl.x0 hP.c (hP.n _ (by decide)) s5.s (s5.g _ _ gx3) (by omega) ((ev_slLN (xs := lv') st (vals s5.g rfl) (SqL.of (s5.g _ _ gv3)) eo_none (eo_some (ev_var rfl))).imp fun v G' s' h => by rw [cutV_to (by rw [lvl]; omega)] at h; exact h) (fun G' s' => ev_var rfl) fun v6 G6 J6 r6 s6 h6 => ?_
      obtain ⟨U2, rfl, f2, gU2⟩ := r6
      have U20 : H0 U2 = none := by
        have g6 : Grow G0 H0 _ J6 := h6
        have ux : U2 ≠ x := fun z => by
          have := s6 _ _ (s5.g _ _ gx3)
          rw [z, this] at gU2
          cases gU2
        rcases g6.n U2 (.lst (lv'.take (vs1.length - k))) (by rw [upd_ne ux]; exact gU2) with z | z
        · have : G3 U2 = some _ := (show Grow G0 H0 G3 J4 from h4).g _ _ z
          rw [s5.g _ _ this] at f2
          cases f2
        · exact z
      have pn : ∀ (vs1' : List PyData), vs1'.reverse.drop (vs1'.length - k) = (vs1'.take (vs1'.length - (vs1'.length - k))).reverse := fun l => by rw [List.drop_reverse]
      have dk := dts_take (vs1.length - k) iv
      have ek : vs1.length - (vs1.length - k) = k := by omega
      rw [List.drop_reverse, List.take_reverse, ek] at dk
      have t3 : SameT G1 G3 := fun b ys e => o3 b _ (fun z => by rw [z, gw] at e; cases e) (s2.g _ _ e)
      have t5 : SameT G1 G5 := fun b ys e => s5.g _ _ (t3 b ys e)
      generalize hG7 : upd G6 x (.ins C dx (putF "read_values" (.ref U2) fs)) = G7 at h6
      have t7 : SameT G6 G7 := by
        rw [← hG7]
        exact sameT_updO (s6 _ _ (s5.g _ _ gx3)) fun ys e => by cases e
      have ux : U2 ≠ x := fun z => by
        have := s6 _ _ (s5.g _ _ gx3)
        rw [z, this] at gU2
        cases gU2
      have gU7 : G7 U2 = some (.lst (lv'.take (vs1.length - k))) := by rw [← hG7, upd_ne ux]; exact gU2
      have gx7 : G7 x = some (.ins C dx (putF "read_values" (.ref U2) fs)) := by rw [← hG7]; exact upd_same
      have g57 : G7 p5 = some (.tup (lv'.drop (vs1.length - k))) := t7 _ _ (s6 _ _ g5)
      have d7 : IsDts (vs1.take k).reverse (lv'.drop (vs1.length - k)) G7 := dts_monT t7 _ (dts_monT (SameT.of s6) _ (dts_monT t5 _ dk.2))
      have lk := dts_len d7
      rw [List.length_reverse, List.length_take] at lk
      refine q_appP (kb := 0) (R := IsDt (mkB wd (vs1.take k).reverse)) pl.hs U20 (show SP0 G0 H0 0 G7 J6 from h6) gU7 (by rw [List.length_take]; omega) (ev_fld st (ev_var rfl) gx7 hP.c (hP.n _ (by decide)) (by rw [lookup_putF, if_pos rfl])) (fun G' s' => ?_) fun v G' H' rv s' h8 => q_end ?_
      · unfold mkB
        by_cases hw : wd = ""
        · rw [if_pos hw]
          refine ev_if (ka := 0) (kb := 0) (c := true) st ((et_testV (ev_opV (ev_var rfl) ev_c (v_eqS st))).imp fun c h => by rw [h]; exact decide_eq_true hw) (fun _ => (ev_var (x := .ref p5) rfl).imp fun v G2 s2 e => ⟨p5, _, e, s2 _ _ (s' _ _ g57), dts_monT (SameT.of (s'.trans s2)) _ d7⟩) fun z => by cases z
        · rw [if_neg hw]
          refine ev_if (ka := 0) (kb := 0) (c := false) st ((et_testV (ev_opV (ev_var rfl) ev_c (v_eqS st))).imp fun c h => by rw [h]; exact decide_eq_false hw) (fun z => by cases z) fun _ => ?_
          refine (ev_op (Ra := IsNew G' (.tup [.str wd])) (Rb := IsV (.ref p5)) (R := IsTp (.str wd :: lv'.drop (vs1.length - k))) (ev_tupN st (ea_consV (ev_var rfl) ea_nilV) (by simp)) (ev_var rfl) fun y z G2 s2 hy hz => ?_).imp fun v G2 s2 h => ?_
          · obtain ⟨p, rfl, _, gp⟩ := hy
            obtain rfl := (show _ = _ from hz)
            exact v_catTq st gp (s2 _ _ (s' _ _ g57)) (by rw [lk]; show 1 + _ ≤ _; omega)
          · obtain ⟨p, e, gp⟩ := h
            exact ⟨p, _, e, gp, _, _, rfl, rfl, dts_monT (SameT.of (s'.trans s2)) _ d7⟩
      · have gx8 := s' _ _ gx7
        have gU8 := s' _ _ gU7
        have UW : W ≠ U2 := fun z => by
          have hW3 : G3 W = some (.lst ys) := g3
          rw [z] at hW3
          rw [s5.g _ _ hW3] at f2
          cases f2
        have t8 : SameT G' (upd G' U2 (.lst (lv'.take (vs1.length - k) ++ [v]))) := sameT_updO gU8 fun ys e => by cases e
        have t18 : SameT G1 (upd G' U2 (.lst (lv'.take (vs1.length - k) ++ [v]))) := fun b zs e => t8 _ _ (s' _ _ (t7 _ _ (s6 _ _ (t5 _ _ e))))
        have only : ∀ b o, b ≠ x → b ≠ W → b ≠ U2 → G1 b = some o → (upd G' U2 (.lst (lv'.take (vs1.length - k) ++ [v]))) b = some o := fun b o h1 h2 h3 e => by
          rw [upd_ne h3]
          refine s' _ _ ?_
          rw [← hG7, upd_ne h1]
          exact s6 _ _ (s5.g _ _ (o3 _ _ h2 (s2.g _ _ e)))
        have ln : ((mkB wd (vs1.take k).reverse :: vs1.drop k).length) = vs1.length - k + 1 := by rw [List.length_cons, List.length_drop]
        refine ⟨r.length, by rw [List.length_cons]; omega, _, U2, r, mkB wd (vs1.take k).reverse :: vs1.drop k, _, _, _, _, rfl, rfl, ⟨pl.hs, pl.x0, pl.w0, U20, ⟨⟨dx, putF "read_values" (.ref U2) fs, by rw [upd_ne (Ne.symm ux)]; exact gx8, ?_, ?_, ?_, fun m hm => ?_, ?_⟩, ⟨ys, ?_, dts_monT t18 _ i1⟩, ⟨_, upd_same, ?_⟩, UW⟩, h8⟩, fun b o h1 h2 h3 e => ?_, ?_, es, by rw [ln]; exact wf2, by rw [List.length_cons] at lw1; rw [ln]; omega⟩
        · rw [lookup_putF, if_neg (by decide)]
          exact fw
        · rw [lookup_putF, if_pos rfl]
        · rw [lookup_putF, if_neg (by decide)]
          exact fo
        · rw [lookup_putF, if_neg (by revert m; decide)]
          exact fm m hm
        · rw [putF_same fr]
          exact f10
        · rw [upd_ne UW]
          exact s' _ _ (by rw [← hG7, upd_ne (Ne.symm nxW)]; exact s6 _ _ (s5.g _ _ g3))
        · rw [List.reverse_cons]
          exact dts_app (dts_monT t18 _ dk.1) (dts_one (dt_monT t8 _ rv))
        · have e1 := ox b o h1 h2 h3 e
          refine only b o h1 h2 (fun z => ?_) e1
          rw [← z, s5.g _ _ (o3 _ _ h2 (s2.g _ _ e1))] at f2
          cases f2
        · by_cases hu : U2 = U
          · exact .inl hu
          · refine .inr ?_
            cases z : G U2 with
            | none => rfl
            | some o =>
              have e1 := ox U2 o ux (Ne.symm UW) hu z
              rw [s5.g _ _ (o3 _ _ (Ne.symm UW) (s2.g _ _ e1))] at f2
              cases f2
    · rw [settle_no hp.symm] at es
      refine q_end (q G2 J2 U1 ?_ (fun b o h1 h2 h3 e => s2.g _ _ (ox b o h1 h2 h3 e)) hU)
      rw [← es]
      exact ⟨pl.hs, pl.x0, pl.w0, pl1.v0, pl1.p.mono s2.g, s2.s⟩
abbrev s_Pile_meets_bracket : Stmt := inClass (top 13) 4
theorem sc_Pile_meets_bracket : FnScope ["self", "word", "token"] ["self", "word", "token"] (defScope s_Pile_meets_bracket) := ⟨rfl, rfl, rfl, by decide +kernel, rfl, by decide +kernel, by decide +kernel⟩
theorem ok_pl_mb {C : Addr} {f : Addr} {fd : FuncData} (Z : Bi mg) (hP : PilC K C) (c_pl_wish : Method P w K mg base C "wish" CX0 1 ["self", "wishes"] [] (sp_wish C)) (F : Fun K "meets_bracket" "Pile.meets_bracket" s_Pile_meets_bracket f fd) : FnOk P w K mg base CX0 2 f fd ["self", "word", "token"] (sp_mb C) := by
  refine F.ok sc_Pile_meets_bracket (fun vs H Q E h => ?_) (fun cdv A outer s H vs Q E hr h => ?_)
  · obtain ⟨_, _, _, _, _, _, _, _, _, _, _, rfl, _⟩ := h
    rfl
  · obtain ⟨x, W, U, G0, H0, G, ws, va, oc, wi, o, rfl, pl, lw, q1, q2⟩ := h
    refine ⟨_, (pss_cons (ps_if (PW.pt (pw_and (pt_cmpR (op_eqA K hr.units) (pv 1) pe_str (nomark _)) (pw_and1 (pt_cmpR (op_eqA K hr.units) (pv 2) pe_str (nomark _))))) (pss_cons (ps_expr (pe_methC c_pl_wish (hr.mono (by decide)) pass0 (pv 0) (pa_cons (pe_lst (pa_cons (pe_tup (pa_cons pe_str pa_nil)) pa_nil)) pa_nil)))
  (pss_cons (ps_ret pe_bl)
  pss_nil)) pss_nil)
  (pss_cons (ps_if (PW.pt (pw_and (pt_cmpR (op_inA K (hu_of hr)) (pv 1) (pe_tup (pa_cons pe_str (pa_cons pe_str pa_nil))) (by rfl)) (pw_and1 (pt_cmpR (op_eqA K hr.units) (pv 2) pe_str (nomark _))))) (pss_cons (ps_expr (pe_methC c_pl_wish (hr.mono (by decide)) pass0 (pv 0) (pa_cons (pe_lst (pa_cons (pe_tup (pa_cons pe_str (pa_cons pe_str pa_nil))) (pa_cons (pe_tup (pa_cons pe_str pa_nil)) (pa_cons (pe_tup (pa_cons pe_str pa_nil)) (pa_cons (pe_tup (pa_cons pe_str pa_nil)) (pa_cons (pe_tup (pa_cons pe_str (pa_cons pe_str (pa_cons pe_int pa_nil)))) (pa_cons (pe_tup (pa_cons pe_str pa_nil)) pa_nil))))))) pa_nil)))
  (pss_cons (ps_ret pe_bl)
  pss_nil)) pss_nil)
  (pss_cons (ps_ret (pe_or (pe_and (pe_cmpR (op_eqA K hr.units) (pv 1) pe_str (nomark _)) (pe_one (pe_cmpR (op_eqA K hr.units) (pv 2) pe_str (nomark _)))) (pe_one (pe_and (pe_cmpR (op_inA K (hu_of hr)) (pv 1) (pe_tup (pa_cons pe_str (pa_cons pe_str pa_nil))) (by rfl)) (pe_one (pe_cmpR (op_eqA K hr.units) (pv 2) pe_str (nomark _)))))))
  pss_nil))), ?_⟩
    have st := stab0 G0 H0
    obtain ⟨⟨dx, fs, gx, fw, fr, fo, fm, f10⟩, ⟨lw', gw, iw⟩, ⟨lv', gv, iv⟩, nWU⟩ := id pl.p
    have wsh : ∀ {l : List Wi} {t : TA} {n : Nat} {u : TS} {nx bk ct : L2.St → Hp → Prop} {rt : VK} {σ : L2.St} {J : Hp} {G1 : Hp}, Same G G1 → SP0 G0 H0 n G1 J → σ[0]? = some (some (.ref x)) → l.length ≤ 10 → EvA (SP0 G0 H0) n 0 t σ G1 (IsDts (l.map Wi.dat)) → (∀ G' H', PlIn C x W U G0 H0 G' H' (l ++ ws) va oc → OnlyX x W U G G' → u (Ends.mk nx rt bk ct) σ H') → tSeq (tDrop (tMeth C "wish" (sp_wish C) [] E0 (tVar 0) (tCons (tLst t) tNil))) u (Ends.mk nx rt bk ct) σ J := fun {l t n u nx bk ct rt σ J G1} s0 h1 e0 hl et k => by
      refine q_dropM (ka := 0) (kb := 0) (RA := RCons (IsNX G1 (IsDts (l.map Wi.dat))) RNil) st h1 (s0 _ _ gx) (fm _ (by decide)) (ev_var e0) (ea_cons (ev_lstXN st et fun vs G' h => by rw [dts_len h, List.length_map]; omega) ea_nil) fun vs G' H' s' e => ?_
      obtain ⟨_, _, rfl, ⟨p, xs, rfl, fp, gp, dp⟩, e2⟩ := e
      obtain rfl := (show _ = [] from e2)
      have s1 := s0.trans s'.g
      refine ⟨x, W, U, G0, H0, G', ws, va, oc, p, xs, l, rfl, ⟨pl.hs, pl.x0, pl.w0, pl.v0, pl.p.mono s1, s'.s⟩, gp, dp, fun z => ?_, fun z => ?_, hl, lw, fun G2 H2 p2 ox => k G2 H2 p2 fun b o h1 h2 h3 e => ox b o h1 h2 h3 (s1 _ _ e)⟩
      · rw [z, s0 _ _ gw] at fp
        cases fp
      · rw [z, s0 _ _ gv] at fp
        cases fp
    have done : ∀ {b : Bool} {n : Nat} {J : Hp}, SP0 G0 H0 n G J → (b = (mbW wi o).isSome) → (mbW wi o = some [] ∨ mbW wi o = none) → Q (.bl b) J := fun {b n J} hJ hb hm => by
      have p0 : PlIn C x W U G0 H0 G J ws va oc := ⟨pl.hs, pl.x0, pl.w0, pl.v0, pl.p, hJ⟩
      rcases hm with hm | hm
      · rw [hm] at hb
        subst hb
        exact q1 [] hm G J p0 fun b o _ _ _ e => e
      · rw [hm] at hb
        subst hb
        exact q2 hm G J p0 fun b o _ _ _ e => e
    have inT : ∀ {z a b : Str} {n : Nat} {σ : L2.St} {G1 : Hp}, σ[1]? = some (some (.str z)) → Ev (SP0 G0 H0) n 0 (tOp (rInA K false) (tVar 1) (tTup (tCons (tC (.str a)) (tCons (tC (.str b)) tNil)))) σ G1 (IsV (.bl (inV (.str z) [.str a, .str b]))) := fun {z a b n σ G1} e => by
      refine ev_op (ka := 0) (kb := 0) (Ra := IsV (.str z)) (Rb := IsNew G1 (.tup [.str a, .str b])) (ev_var e) (ev_tupN st (ea_consV ev_c (ea_consV ev_c ea_nilV)) (by simp)) fun y t G2 s2 hy ht => ?_
      obtain rfl := (show _ = _ from hy)
      obtain ⟨p, rfl, _, gp⟩ := ht
      exact v_inT (neg := false) st (SqT.of gp) rfl rfl
    have dc : ∀ {te : TE} {t : TA} {d : PyData} {ds : List PyData} {n : Nat} {σ : L2.St} {G1 : Hp}, Ev (SP0 G0 H0) n 0 te σ G1 (IsDt d) → EvA (SP0 G0 H0) n 0 t σ G1 (IsDts ds) → EvA (SP0 G0 H0) n 0 (tCons te t) σ G1 (IsDts (d :: ds)) := fun h1 h2 => ea_cons (ka := 0) (kb := 0) h1 h2
    have dn : ∀ {n : Nat} {σ : L2.St} {G1 : Hp}, EvA (SP0 G0 H0) n 0 tNil σ G1 (IsDts []) := fun {n σ G1} => ea_nil
    have dS : ∀ {z : Str} {n : Nat} {σ : L2.St} {G1 : Hp}, Ev (SP0 G0 H0) n 0 (tC (.str z)) σ G1 (IsDt (.str z)) := fun {z n σ G1} => ev_c
    have dI : ∀ {z : Int} {n : Nat} {σ : L2.St} {G1 : Hp}, Ev (SP0 G0 H0) n 0 (tC (.int z)) σ G1 (IsDt (.int z)) := fun {z n σ G1} => ev_c
    have dT : ∀ {t : TA} {ds : List PyData} {n : Nat} {σ : L2.St} {G1 : Hp}, EvA (SP0 G0 H0) n 0 t σ G1 (IsDts ds) → ds.length ≤ 100000 → Ev (SP0 G0 H0) n 0 (tTup t) σ G1 (IsDt (.tuple ds)) := fun h hl => ev_tq st h fun vs G' e => by rw [dts_len e]; exact hl
    have kw : ∀ z : Str, z = "word" ∨ z = "build" → ∀ o, (decide (z = "term") && decide (parS o = "(")) = false ∧ (inV (.str z) [.str "procedure", .str "procedures"] && decide (parS o = "(")) = false ∧ ((decide (z = "open") && decide (parS o = "(")) || (inV (.str z) [.str "close", .str "procedures"] && decide (parS o = ")"))) = false := by
      intro z hz
      rcases hz with rfl | rfl <;> decide +kernel
    have c1 : (decide (Wi.word wi = "term") && decide (parS o = "(")) = true → wi = .term ∧ o = true := by
      cases wi with
      | wd a => exact fun z => absurd (z.symm.trans (kw "word" (.inl rfl) o).1) (by simp)
      | bld a k => exact fun z => absurd (z.symm.trans (kw "build" (.inr rfl) o).1) (by simp)
      | _ => cases o <;> first | exact fun _ => ⟨rfl, rfl⟩ | exact fun z => absurd z (by decide +kernel)
    have c2 : (inV (.str (Wi.word wi)) [.str "procedure", .str "procedures"] && decide (parS o = "(")) = true → (wi = .prc ∨ wi = .prcs) ∧ o = true := by
      cases wi with
      | wd a => exact fun z => absurd (z.symm.trans (kw "word" (.inl rfl) o).2.1) (by simp)
      | bld a k => exact fun z => absurd (z.symm.trans (kw "build" (.inr rfl) o).2.1) (by simp)
      | _ => cases o <;> first | exact fun _ => ⟨.inl rfl, rfl⟩ | exact fun _ => ⟨.inr rfl, rfl⟩ | exact fun z => absurd z (by decide +kernel)
    have c3 : (decide (Wi.word wi = "term") && decide (parS o = "(")) = false → (inV (.str (Wi.word wi)) [.str "procedure", .str "procedures"] && decide (parS o = "(")) = false → ((decide (Wi.word wi = "open") && decide (parS o = "(")) || (inV (.str (Wi.word wi)) [.str "close", .str "procedures"] && decide (parS o = ")"))) = (mbW wi o).isSome ∧ (mbW wi o = some [] ∨ mbW wi o = none) := by
      cases wi with
      | wd a => exact fun _ _ => ⟨(kw "word" (.inl rfl) o).2.2.trans (by cases o <;> rfl), .inr (by cases o <;> rfl)⟩
      | bld a k => exact fun _ _ => ⟨(kw "build" (.inr rfl) o).2.2.trans (by cases o <;> rfl), .inr (by cases o <;> rfl)⟩
      | _ => cases o <;> first | exact fun _ _ => ⟨by decide +kernel, .inl rfl⟩ | exact fun _ _ => ⟨by decide +kernel, .inr rfl⟩ | exact fun z => absurd z (by decide +kernel) | exact fun _ z => absurd z (by decide +kernel)
    show tSeq _ _ (Ends.mk _ _ _ _) [some _, some _, some _] _
    refine q_if (n := 0) st (show SP0 G0 H0 0 G H from pl.g) (et_and (ka := 0) (kb := 0) st (et_testV (ev_opV (ev_var rfl) ev_c (v_eqS st))) fun _ => et_testV (ev_opV (ev_var rfl) ev_c (v_eqS st))) (fun H1 p1 k1 h1 => ?_) (fun H1 p1 k1 h1 => q_end ?_)
    · obtain ⟨rfl, rfl⟩ := c1 p1.symm
      refine wsh (l := [.form]) (Same.refl _) h1 rfl (by decide) (dc (dT (dc dS dn) (by decide)) dn) fun G' H' pl2 ox => ?_
      exact q_retV (n := 0) st (show SP0 G0 H0 0 G' H' from pl2.g) ev_c fun H2 k2 h2 => q1 [.form] rfl G' H2 ⟨pl2.hs, pl2.x0, pl2.w0, pl2.v0, pl2.p, h2⟩ ox
    · refine q_if st h1 (et_and (ka := 0) (kb := 0) st (et_testV (inT rfl)) fun _ => et_testV (ev_opV (ev_var rfl) ev_c (v_eqS st))) (fun H2 p2 k2 h2 => ?_) (fun H2 p2 k2 h2 => q_end ?_)
      · obtain ⟨hw, rfl⟩ := c2 p2.symm
        have hm : mbW wi true = some [.wd "to", .name, .term, .close, .bld "" 2, .prcs] := by
          rcases hw with rfl | rfl <;> rfl
        refine wsh (l := [.wd "to", .name, .term, .close, .bld "" 2, .prcs]) (Same.refl _) h2 rfl (by decide) (dc (dT (dc dS (dc dS dn)) (by decide)) (dc (dT (dc dS dn) (by decide)) (dc (dT (dc dS dn) (by decide)) (dc (dT (dc dS dn) (by decide)) (dc (dT (dc dS (dc dS (dc dI dn))) (by decide)) (dc (dT (dc dS dn) (by decide)) dn)))))) fun G' H' pl2 ox => ?_
        exact q_retV (n := 0) st (show SP0 G0 H0 0 G' H' from pl2.g) ev_c fun H3 k3 h3 => q1 _ hm G' H3 ⟨pl2.hs, pl2.x0, pl2.w0, pl2.v0, pl2.p, h3⟩ ox
      · obtain ⟨hb, hm⟩ := c3 p1.symm p2.symm
        exact q_retV st h2 (ev_orV (ka := 0) (kb := 0) st (ev_andV (ka := 0) (kb := 0) st (ev_opV (ev_var rfl) ev_c (v_eqS st)) fun _ => ev_opV (ev_var rfl) ev_c (v_eqS st)) fun _ => ev_andV (ka := 0) (kb := 0) st (inT rfl) fun _ => ev_opV (ev_var rfl) ev_c (v_eqS st)) fun H3 k3 h3 => done h3 hb hm
abbrev s_Pile_meets : Stmt := inClass (top 13) 3
theorem sc_Pile_meets : FnScope ["self", "token", "wish", "fields", "word"] ["self", "token"] (defScope s_Pile_meets) := ⟨rfl, rfl, rfl, by decide +kernel, rfl, by decide +kernel, by decide +kernel⟩
theorem ok_pl_meets {C : Addr} {f : Addr} {fd : FuncData} {a_FORMS : Addr} {tM : Tok} (Z : Bi mg) (hP : PilC K C) (hFo : FormsAt K w a_FORMS) (hFt : FormsTp K a_FORMS) (g_FORMS : mg "FORMS" = some (.ref a_FORMS)) (g_MOST_OPEN : mg "MOST_OPEN" = some (.int 40 tM)) (c_pl_settle : Method P w K mg base C "settle" CX0 1 ["self"] [] (sp_settle C)) (c_pl_wish : Method P w K mg base C "wish" CX0 1 ["self", "wishes"] [] (sp_wish C)) (c_pl_mb : Method P w K mg base C "meets_bracket" CX0 2 ["self", "word", "token"] [] (sp_mb C)) (c_is_name : Callee P w K mg base "is_name" CX0 1 ["token"] [] (spP PNmB)) (c_is_count : Callee P w K mg base "is_count" CX0 1 ["token"] [] (spP PCtB)) (F : Fun K "meets" "Pile.meets" s_Pile_meets f fd) : FnOk P w K mg base CX0 3 f fd ["self", "token"] (sp_meets C) := by
  refine F.ok sc_Pile_meets (fun vs H Q E h => ?_) (fun cdv A outer s H vs Q E hr h => ?_)
  · obtain ⟨_, _, _, _, _, _, _, _, _, _, rfl, _⟩ := h
    rfl
  · obtain ⟨x, W, U, G0, H0, G, ws, va, oc, tok, rfl, pl, wf, lw, ht, hok, hwd, q1, q2⟩ := h
    refine ⟨_, (pss_cons (ps_expr (pe_methC0 c_pl_settle (hr.mono (by decide)) pass0 (pv 0)))
  (pss_cons (ps_if (PW.pt (pw_or (pt_cmpR (op_eqA K hr.units) (pe_callB (call_lenA K) (by rfl) Z.z_len PySem.boot_len (pa_cons (pe_fldK K (pv 0)) pa_nil)) pe_int (nomark _)) (pw_or (pt_cmpR (op_eqA K hr.units) (pv 1) pe_str (nomark _)) (pw_or1 (PW.pt (pw_and (pt_cmpR (op_eqA K hr.units) (pv 1) pe_str (nomark _)) (pw_and1 (pt_cmpR (op_eqA K hr.units) (pe_fldK K (pv 0)) (pe_glob (v := .int 40) rfl g_MOST_OPEN ⟨_, rfl⟩) (nomark _))))))))) (pss_cons (ps_ret pe_bl)
  pss_nil) pss_nil)
  (pss_cons (ps_set (i := 2) sc_Pile_meets.nd rfl (Or.inl rfl) (pe_bm0 PySem.F.plainAttrs_list PySem.F.slot_list_pop PySem.F.type_list_pop mt_pop (pe_fldK K (pv 0))))
  (pss_cons (ps_if (PW.pt (pw_or (pt_cmpR (op_eqA K hr.units) (pv 1) pe_str (nomark _)) (pw_or1 (pt_cmpR (op_eqA K hr.units) (pv 1) pe_str (nomark _))))) (pss_cons (ps_fldaug (pv 0) (pe_ifExp (pt_cmpR (op_eqA K hr.units) (pv 1) pe_str (nomark _)) pe_int (pe_un un_neg pe_int)) in_add)
  (pss_cons (ps_ret (pe_methC c_pl_mb (hr.mono (by decide)) pass0 (pv 0) (pa_cons (pe_ix (ix_any K (hu_of hr)) (pv 2) pe_int (fun _ _ => rfl)) (pa_cons (pv 1) pa_nil))))
  pss_nil)) pss_nil)
  (pss_cons (ps_if (PW.pt (pw_and (pt_cmpR (op_eqA K hr.units) (pe_ix (ix_any K (hu_of hr)) (pv 2) pe_int (fun _ _ => rfl)) pe_str (nomark _)) (pw_and1 (pt_cmpR (op_eqA K hr.units) (pv 1) pe_str (nomark _))))) (pss_cons (ps_expr (pe_bm PySem.F.plainAttrs_list PySem.F.slot_list_append PySem.F.type_list_append mt_append (pe_fldK K (pv 0)) (pa_cons (pe_tup (pa_cons pe_str pa_nil)) pa_nil)))
  pss_nil) (pss_cons (ps_if (PW.pt (pw_and (pt_cmpR (op_eqA K hr.units) (pe_ix (ix_any K (hu_of hr)) (pv 2) pe_int (fun _ _ => rfl)) pe_str (nomark _)) (pw_and1 (pt_val (pe_callC c_is_name (hr.mono (by decide)) pass0 (pa_cons (pv 1) pa_nil)))))) (pss_cons (ps_expr (pe_bm PySem.F.plainAttrs_list PySem.F.slot_list_append PySem.F.type_list_append mt_append (pe_fldK K (pv 0)) (pa_cons (pv 1) pa_nil)))
  pss_nil) (pss_cons (ps_if (PW.pt (pw_and (pt_cmpR (op_eqA K hr.units) (pe_ix (ix_any K (hu_of hr)) (pv 2) pe_int (fun _ _ => rfl)) pe_str (nomark _)) (pw_and1 (pt_val (pe_callC c_is_count (hr.mono (by decide)) pass0 (pa_cons (pv 1) pa_nil)))))) (pss_cons (ps_expr (pe_bm PySem.F.plainAttrs_list PySem.F.slot_list_append PySem.F.type_list_append mt_append (pe_fldK K (pv 0)) (pa_cons (pe_callTy call_intSt (by rfl) Z.z_int (by decide +kernel) (pa_cons (pv 1) pa_nil)) pa_nil)))
  pss_nil) (pss_cons (ps_if (PW.pt (pw_and (pt_cmpR (op_eqA K hr.units) (pe_ix (ix_any K (hu_of hr)) (pv 2) pe_int (fun _ _ => rfl)) pe_str (nomark _)) (pw_and1 (pt_cmpR (op_in_kdK hFo) (pv 1) (pe_glob (v := .ref a_FORMS) rfl g_FORMS rfl) (by rfl))))) (pss_cons (ps_setLc (i := 3) (own := [("word", 4)]) (g := (gName 4)) rfl sc_Pile_meets.nd rfl rfl (sw_true rfl rfl rfl (by decide +kernel)) (pi_tupK K (pe_ix (ix_kdK K w) (pe_glob (v := .ref a_FORMS) rfl g_FORMS rfl) (pv 1) (fun _ _ => rfl))) (blkOk_by (by kernel_rfl)) (fun _ _ _ _ _ => (pg_name (i := 4) sc_Pile_meets.nd rfl (Or.inl rfl))) (fun _ _ _ _ _ => pts_nil) (fun _ _ _ _ _ => (pe_tup (pa_cons (pv 4) pa_nil))))
  (pss_cons (ps_expr (pe_methC c_pl_wish (hr.mono (by decide)) pass0 (pv 0) (pa_cons (pe_op op_addA (pv 3) (pe_lst (pa_cons (pe_tup (pa_cons pe_str pa_nil)) (pa_cons (pe_tup (pa_cons pe_str (pa_cons (pv 1) (pa_cons (pe_callB (call_lenA K) (by rfl) Z.z_len PySem.boot_len (pa_cons (pv 3) pa_nil)) pa_nil)))) pa_nil)))) pa_nil)))
  pss_nil)) (pss_cons (ps_ret (pe_cmpR (op_eqA K hr.units) (pv 2) (pe_tup (pa_cons pe_str (pa_cons (pv 1) pa_nil))) (nomark _)))
  pss_nil))
  pss_nil))
  pss_nil))
  pss_nil))
  (pss_cons (ps_ret pe_bl)
  pss_nil)))))), ?_⟩
    have st := stab0 G0 H0
    obtain ⟨⟨dx, fs, gx, fw, fr, fo, fm, f10⟩, ⟨lw', gw, iw⟩, ⟨lv', gv, iv⟩, nWU⟩ := id pl.p
    obtain ⟨wf1, lw1, nb⟩ := wf_settle wf
    have hwd1 : ∀ s, Wi.wd s ∈ (settle ws va).1 → PyData.strOk s = true := fun s h => hwd s (mem_settle h)
    show tSeq _ _ (Ends.mk _ _ _ _) [some _, some _, none, none, none] _
    refine q_dropM (ka := 0) (kb := 0) (n := 0) (RA := RNil) st (show SP0 G0 H0 0 G H from pl.g) gx (fm _ (by decide)) (ev_var rfl) ea_nil fun vs GA HA sA eA => ?_
    obtain rfl := (show _ = [] from eA)
    refine ⟨x, W, U, G0, H0, GA, ws, va, oc, rfl, ⟨pl.hs, pl.x0, pl.w0, pl.v0, pl.p.mono sA.g, sA.s⟩, wf, by omega, fun G1 H1 U1 p1 ox hU => ?_⟩
    generalize (settle ws va).1 = ws1 at *
    generalize (settle ws va).2 = vs1 at *
    obtain ⟨⟨dx1, fs1, gx1, fw1, fr1, fo1, fm1, f11⟩, ⟨lw2, gw1, iw1⟩, ⟨lv2, gv1, iv1⟩, nWU1⟩ := id p1.p
    have lws := dts_len iw1
    rw [List.length_map, List.length_reverse] at lws
    have ox1 : OnlyX x W U G G1 := fun b o h1 h2 h3 e => ox b o h1 h2 h3 (sA.g _ _ e)
    have hU1 : U1 = U ∨ G U1 = none := by
      rcases hU with z | z
      · exact .inl z
      · refine .inr ?_
        cases e : G U1 with
        | none => rfl
        | some o =>
          rw [sA.g _ _ e] at z
          cases z
    have wsh : ∀ {n : Nat} {σ : L2.St} {G' : Hp}, Same G1 G' → σ[0]? = some (some (.ref x)) → Ev (SP0 G0 H0) n 0 (tFld K (tVar 0) "wishes") σ G' (IsV (.ref W)) := fun s' e => ev_fld st (ev_var e) (s' _ _ gx1) hP.c (hP.n _ (by decide)) fw1
    show tSeq _ _ (Ends.mk _ _ _ _) [some (.ref x), some (.str tok), none, none, none] _
    refine q_if (n := 0) st (show SP0 G0 H0 0 G1 H1 from p1.g) (et_or (ka := 0) (kb := 0) (a := decide (ws1.length = 0)) (b := decide (tok = "") || (decide (tok = "(") && decide (oc = 40))) st ((et_testV (ev_opV (ev_cbV (ea_consV (wsh (Same.refl _) rfl) ea_nilV) (c_lenL st (SqL.of gw1))) ev_c (v_eqI st))).imp fun c h => by rw [h, lws]; exact decide_eq_decide.mpr (by omega)) fun _ => et_or (ka := 0) (kb := 0) st (et_testV (ev_opV (ev_var rfl) ev_c (v_eqS st))) fun _ => et_and (ka := 0) (kb := 0) st (et_testV (ev_opV (ev_var rfl) ev_c (v_eqS st))) fun _ => et_testV (ev_opV (ev_fld st (ev_var rfl) gx1 hP.c (hP.n _ (by decide)) fo1) ev_c (v_eqI st))) (fun H2 p2 k2 h2 => ?_) (fun H2 p2 k2 h2 => q_end ?_)
    · refine q_retV st h2 ev_c fun H3 k3 h3 => q2 ?_ G1 H3 h3 ox1
      cases ws1 with
      | nil => rfl
      | cons w r =>
        rw [stepC_cons]
        by_cases t0 : tok = ""
        · rw [if_pos t0]
        · by_cases t1 : tok = "("
          · rw [if_neg t0, if_pos t1]
            by_cases t2 : oc = 40
            · rw [if_pos t2]
            · simp [t0, t2] at p2
          · simp [t0, t1] at p2
    · have hn : ws1 ≠ [] := fun z => by rw [z] at p2; simp at p2
      obtain ⟨w1, r, rfl⟩ : ∃ w r, ws1 = w :: r := by
        cases ws1 with
        | nil => exact absurd rfl hn
        | cons w r => exact ⟨w, r, rfl⟩
      have t0 : ¬ tok = "" := fun z => by simp [z] at p2
      have t1 : tok = "(" → ¬ oc = 40 := fun y z => by simp [y, z] at p2
      rw [List.reverse_cons, List.map_append] at iw1
      obtain ⟨ys, v, rfl, i1, i2⟩ := dts_snoc iw1
      refine q_popP pl.hs pl.w0 h2 gw1 (wsh (Same.refl _) rfl) fun G3 J3 s3 h3 => ?_
      show tSeq _ _ (Ends.mk _ _ _ _) [some (.ref x), some (.str tok), some v, none, none] _
      have gx3 : (upd G3 W (.lst ys)) x = some (.ins C dx1 fs1) := by
        rw [upd_ne (fun z => by rw [z, gw1] at gx1; cases gx1)]
        exact s3 _ _ gx1
      have xW : x ≠ W := fun z => by rw [z, gw1] at gx1; cases gx1
      have t13 : SameT G1 (upd G3 W (.lst ys)) := fun b zs e => sameT_updO (s3 _ _ gw1) (fun ys e => by cases e) b zs (s3 _ _ e)
      have d3 := dt_monT t13 _ (show IsDt w1.dat v G1 from i2)
      have i3 := dts_monT t13 _ i1
      obtain ⟨a, xs, rfl, ga⟩ := dat_word d3
      generalize hGA : upd G3 W (.lst ys) = G4 at *
      have o4 : OnlyX x W U G G4 := fun b o h1 h2 h3 e => by
        rw [← hGA, upd_ne h2]
        exact s3 _ _ (ox1 b o h1 h2 h3 e)
      have gW4 : G4 W = some (.lst ys) := by rw [← hGA]; exact upd_same
      have gv4 : G4 U1 = some (.lst lv2) := by
        rw [← hGA, upd_ne (Ne.symm nWU1)]
        exact s3 _ _ gv1
      have iv4 := dts_monT t13 _ iv1
      refine q_if st h3 (et_or (ka := 0) (kb := 0) st (et_testV (ev_opV (ev_var rfl) ev_c (v_eqS st))) fun _ => et_testV (ev_opV (ev_var rfl) ev_c (v_eqS st))) (fun H4 p4 k4 h4 => ?_) (fun H4 p4 k4 h4 => q_end ?_)
      · obtain ⟨o, ho⟩ : ∃ o, tok = parS o := by
          by_cases z : tok = "("
          · exact ⟨true, z⟩
          · by_cases z2 : tok = ")"
            · exact ⟨false, z2⟩
            · simp [z, z2] at p4
        have hst : stepC (w1 :: r) vs1 oc tok = (mbW w1 o).map fun l => (l ++ r, vs1, oc + if o then 1 else -1) := by
          rw [stepC_cons, if_neg t0]
          cases o with
          | true =>
            rw [if_pos (show tok = "(" from ho), if_neg (t1 ho)]
            exact opB_mb
          | false =>
            rw [ho, if_neg (show ¬ parS false = "(" by decide +kernel), if_pos (show parS false = ")" from rfl)]
            exact clB_mb
        refine q_augV (kb := 0) (b := if o then 1 else -1) pl.hs pl.x0 hP.c (hP.n _ (by decide)) h4 gx3 fo1 (by omega) (ev_var rfl) ?_ fun G5 J5 s5 h5 => ?_
        · cases o with
          | true => exact ev_if (ka := 0) (kb := 0) (c := true) st ((et_testV (ev_opV (ev_var rfl) ev_c (v_eqS st))).imp fun c h => by rw [h]; exact decide_eq_true ho) (fun _ => ev_c) fun z => by cases z
          | false => exact ev_if (ka := 0) (kb := 0) (c := false) st ((et_testV (ev_opV (ev_var rfl) ev_c (v_eqS st))).imp fun c h => by rw [h]; exact decide_eq_false (by rw [ho]; decide +kernel)) (fun z => by cases z) fun _ => ev_unV ev_c (u_neg st)
        · have ax : a ≠ x := fun z => by
            rw [z, gx3] at ga
            cases ga
          generalize hb : (if o then (1 : Int) else -1) = bb at *
          have t5 : SameT G4 (upd G5 x (.ins C dx1 (putF "open_count" (.int (oc + bb)) fs1))) := fun b zs e => sameT_updO (s5 _ _ gx3) (fun ys e => by cases e) b zs (s5 _ _ e)
          have i5 := dts_monT t5 _ i3
          have iv5 := dts_monT t5 _ iv4
          have ga5 := t5 _ _ ga
          have Wx : W ≠ x := Ne.symm xW
          have Ux : U1 ≠ x := fun z => by rw [z, gx1] at gv1; cases gv1
          refine q_retM (ka := 0) (kb := 0) (RA := IsVs [.str w1.word, .str tok]) st h5 upd_same (by rw [lookup_putF, if_neg (by decide)]; exact fm1 _ (by decide)) (ev_var rfl) (ea_consV (ev_opV (ev_var rfl) ev_c (v_ixT st (SqT.of ga5) (atI_nat (j := 0) rfl))) (ea_consV (ev_var rfl) ea_nilV)) fun vs G6 J6 s6 e6 => ?_
          obtain rfl := (show _ = _ from e6)
          have o6 : OnlyX x W U G G6 := fun b o h1 h2 h3 e => s6.g _ _ (by rw [upd_ne h1]; exact s5 _ _ (o4 b o h1 h2 h3 e))
          have p6 : PilG C x W U1 r vs1 (oc + bb) G6 := PilG.mono ⟨⟨dx1, _, upd_same, by rw [lookup_putF, if_neg (by decide)]; exact fw1, by rw [lookup_putF, if_neg (by decide)]; exact fr1, by rw [lookup_putF, if_pos rfl], fun m hm => by rw [lookup_putF, if_neg (by revert m; decide)]; exact fm1 m hm, by rw [putF_same fo1]; exact f11⟩, ⟨ys, by rw [upd_ne Wx]; exact s5 _ _ gW4, i5⟩, ⟨lv2, by rw [upd_ne Ux]; exact s5 _ _ gv4, iv5⟩, nWU1⟩ s6.g
          have oxx : ∀ {G7 : Hp}, OnlyX x W U1 G6 G7 → OnlyX x W U G G7 := fun {G7} h b o h1 h2 h3 e => h b o h1 h2 (fun z => by
            rcases hU1 with y | y
            · exact h3 (z.trans y)
            · rw [z, y] at e
              cases e) (o6 b o h1 h2 h3 e)
          rw [List.length_cons] at lw1
          refine ⟨x, W, U1, G0, H0, G6, r, vs1, oc + bb, w1, o, by rw [ho]; rfl, ⟨pl.hs, pl.x0, pl.w0, p1.v0, p6, s6.s⟩, by omega, fun l hl G7 J7 p7 ox7 => ?_, fun hn G7 J7 p7 ox7 => ?_⟩
          · exact q1 (l ++ r, vs1, oc + bb) (by rw [hst, hl]; rfl) G7 J7 U1 p7 (oxx ox7) hU1
          · exact q2 (by rw [hst, hn]; rfl) G7 J7 p7.g (oxx ox7)
      · have n1 : ¬ tok = "(" := fun z => by simp [z] at p4
        have n2 : ¬ tok = ")" := fun z => by simp [z] at p4
        have hst : stepC (w1 :: r) vs1 oc tok = tkB w1 r vs1 oc tok := by rw [stepC_cons, if_neg t0, if_neg n1, if_neg n2]
        have wd0 : ∀ {n : Nat} {σ : L2.St} {G' : Hp}, Same G4 G' → σ[2]? = some (some (.ref a)) → Ev (SP0 G0 H0) n 0 (tOp (rIxA K) (tVar 2) (tC (.int 0))) σ G' (IsV (.str w1.word)) := fun s' e => ev_opV (ev_var e) ev_c (v_ixT st (SqT.of (s' _ _ ga)) (atI_nat (j := 0) rfl))
        have Wx : W ≠ x := Ne.symm xW
        have Ux : U1 ≠ x := fun z => by rw [z, gx1] at gv1; cases gv1
        have lvl := dts_len iv4
        rw [List.length_reverse] at lvl
        rw [List.length_cons] at lw1
        have app : ∀ {te : TE} {d : PyData} {n : Nat} {J : Hp} {u : TS} {nx bk ct : L2.St → Hp → Prop} {rt : VK} {σ : L2.St}, SP0 G0 H0 n G4 J → σ[0]? = some (some (.ref x)) → (∀ n G', Same G4 G' → Ev (SP0 G0 H0) n 0 te σ G' (IsDt d)) → (∀ G' H', PlIn C x W U1 G0 H0 G' H' r (d :: vs1) oc → OnlyX x W U G G' → u (Ends.mk nx rt bk ct) σ H') → tSeq (tDrop (tBM K "list" rAppend (tFld K (tVar 0) "read_values") (tCons te tNil))) u (Ends.mk nx rt bk ct) σ J := fun {te d n J u nx bk ct rt σ} hJ e0 he k => by
          refine q_appP (ka := 0) (kb := 0) (R := IsDt d) pl.hs p1.v0 hJ gv4 (by omega) (ev_fld st (ev_var e0) gx3 hP.c (hP.n _ (by decide)) fr1) (fun G' s' => he _ G' s') fun v G5 J5 rv s5 h5 => ?_
          have t5 : SameT G4 (upd G5 U1 (.lst (lv2 ++ [v]))) := fun b zs e => sameT_updO (s5 _ _ gv4) (fun ys e => by cases e) b zs (s5 _ _ e)
          have t55 : SameT G5 (upd G5 U1 (.lst (lv2 ++ [v]))) := sameT_updO (s5 _ _ gv4) fun ys e => by cases e
          refine k _ J5 ⟨pl.hs, pl.x0, pl.w0, p1.v0, ⟨⟨dx1, fs1, by rw [upd_ne (Ne.symm Ux)]; exact s5 _ _ gx3, fw1, fr1, fo1, fm1, f11⟩, ⟨ys, by rw [upd_ne nWU1]; exact s5 _ _ gW4, dts_monT t5 _ i3⟩, ⟨_, upd_same, ?_⟩, nWU1⟩, h5⟩ fun b o h1 h2 h3 e => ?_
          · rw [List.reverse_cons]
            exact dts_app (dts_monT t5 _ iv4) (dts_one (dt_monT t55 _ rv))
          · have bU : b ≠ U1 := fun z => by
              rcases hU1 with y | y
              · exact h3 (z.trans y)
              · rw [z, y] at e
                cases e
            rw [upd_ne bU]
            exact s5 _ _ (o4 b o h1 h2 h3 e)
        have fin : ∀ {n : Nat} {J : Hp} {d : PyData} {G5 : Hp}, stepC (w1 :: r) vs1 oc tok = some (r, d :: vs1, oc) → PlIn C x W U1 G0 H0 G5 J r (d :: vs1) oc → OnlyX x W U G G5 → Q (.bl true) J := fun {n J d G5} h p o => q1 _ h G5 J U1 p o hU1
        refine q_if st h4 (et_and (ka := 0) (kb := 0) st (et_testV (ev_opV (wd0 (Same.refl _) rfl) ev_c (v_eqS st))) fun _ => et_testV (ev_opV (ev_var rfl) ev_c (v_eqS st))) (fun H5 p5 k5 h5 => ?_) (fun H5 p5 k5 h5 => ?_)
        · obtain ⟨e1, e2⟩ := Bool.and_eq_true_iff.mp p5.symm
          obtain rfl := word_term (of_decide_eq_true e1)
          have e2 := of_decide_eq_true e2
          refine app (d := .tuple [.str "skip"]) h5 rfl (fun n G' s' => ev_tq st (ea_cons (ka := 0) (kb := 0) (R := IsDt (.str "skip")) (RA := IsDts []) ev_c ea_nil) fun vs G' e => by rw [dts_len (as := [.str "skip"]) e]; simp) fun G6 J6 p6 o6 => q_end ?_
          refine q_retV (n := 0) st (show SP0 G0 H0 0 G6 J6 from p6.g) ev_c fun H7 k7 h7 => fin (n := 0) (by rw [hst]; simp [tkB, e2]) ⟨p6.hs, p6.x0, p6.w0, p6.v0, p6.p, h7⟩ o6
        · refine q_if st h5 (et_and (ka := 0) (kb := 0) st (et_testV (ev_opV (wd0 (Same.refl _) rfl) ev_c (v_eqS st))) fun _ => et_B (ev_callV (R := IsV (.bl (nameB tok))) st (ea_consV (ev_var rfl) ea_nilV) fun G' s' => ⟨tok, rfl, ht, rfl⟩)) (fun H6 p6 k6 h6 => ?_) (fun H6 p6 k6 h6 => ?_)
          · obtain ⟨e1, e2⟩ := Bool.and_eq_true_iff.mp p6.symm
            obtain rfl := word_name (of_decide_eq_true e1)
            refine app (d := .str tok) h6 rfl (fun n G' s' => ev_var rfl) fun G7 J7 p7 o7 => q_end (q_end ?_)
            refine q_retV (n := 0) st (show SP0 G0 H0 0 G7 J7 from p7.g) ev_c fun H8 k8 h8 => fin (n := 0) (by rw [hst]; simp [tkB, e2]) ⟨p7.hs, p7.x0, p7.w0, p7.v0, p7.p, h8⟩ o7
          · refine q_if st h6 (et_and (ka := 0) (kb := 0) st (et_testV (ev_opV (wd0 (Same.refl _) rfl) ev_c (v_eqS st))) fun _ => et_B (ev_callV (R := IsV (.bl (countB tok))) st (ea_consV (ev_var rfl) ea_nilV) fun G' s' => ⟨tok, rfl, ht, rfl⟩)) (fun H7 p7 k7 h7 => ?_) (fun H7 p7 k7 h7 => ?_)
            · obtain ⟨e1, e2⟩ := Bool.and_eq_true_iff.mp p7.symm
              obtain rfl := word_count (of_decide_eq_true e1)
              refine app (d := .int (cval tok)) h7 rfl (fun n G' s' => ev_cbV (ea_consV (ev_var rfl) ea_nilV) (c_intS st e2)) fun G8 J8 p8 o8 => q_end (q_end (q_end ?_))
              refine q_retV (n := 0) st (show SP0 G0 H0 0 G8 J8 from p8.g) ev_c fun H9 k9 h9 => fin (n := 0) (by rw [hst]; simp [tkB, e2]) ⟨p8.hs, p8.x0, p8.w0, p8.v0, p8.p, h9⟩ o8
            · have hI := h7
              refine q_if st hI (et_and (ka := 0) (kb := 0) st (et_testV (ev_opV (wd0 (Same.refl _) rfl) ev_c (v_eqS st))) fun _ => et_testV (ev_opV (ev_var rfl) ev_c (v_inKD st hFo))) (fun H8 p8 k8 h8 => ?_) (fun H8 p8 k8 h8 => ?_)
              · obtain ⟨e1, e2⟩ := Bool.and_eq_true_iff.mp p8.symm
                obtain rfl := word_form (of_decide_eq_true e1)
                have e2 := of_decide_eq_true e2
                obtain ⟨u, hu, hut⟩ := hFt.t tok e2
                have fl := fields_len tok
                refine q_set h8 (ev_lcTR (c1 := 0) (xs := (fieldsW tok).map fun w => V.str w.word) st (IsDj ((fieldsW tok).map Wi.dat)) ((ev_opV ev_c (ev_var rfl) (v_ixKD st hFo hu)).imp fun v G' s' e => ⟨u, e, hut G'⟩) (by rw [List.length_map]; omega) (fun j y G' hy s' => ?_) fun _ => rfl) fun v9 G9 H9 s9 r9 => ?_
                · rw [List.getElem?_map] at hy
                  cases hj : (fieldsW tok)[j]? with
                  | none => rw [hj] at hy; cases hy
                  | some fw =>
                    rw [hj] at hy
                    obtain rfl := Option.some.inj hy
                    have ed := fields_dat (List.mem_of_getElem? hj)
                    refine Ev.imp (R := IsDt (.tuple [.str fw.word])) (ev_tq st (ea_cons (ka := 0) (kb := 0) (R := IsDt (.str fw.word)) (RA := IsDts []) (ev_var rfl) ea_nil) fun vs G' e => by rw [dts_len (as := [.str fw.word]) e]; simp) fun v G2 s2 e => ⟨fw.dat, by rw [List.getElem?_map, hj]; rfl, by rw [ed]; exact e⟩
                · obtain ⟨p9, y9, rfl, f9, g9, l9, d9⟩ := r9
                  show tSeq _ _ (Ends.mk _ _ _ _) [some (.ref x), some (.str tok), some (.ref a), some (.ref p9), none] _
                  rw [List.length_map] at l9
                  have d9 : IsDts ((fieldsW tok).map Wi.dat) y9 G9 := dts_of (by rw [l9, List.length_map]) d9
                  have pw : PilG C x W U1 r vs1 oc G9 := PilG.mono ⟨⟨dx1, fs1, gx3, fw1, fr1, fo1, fm1, f11⟩, ⟨ys, gW4, i3⟩, ⟨lv2, gv4, iv4⟩, nWU1⟩ s9.g
                  refine q_dropM (ka := 0) (kb := 0) (RA := RCons (IsNX G9 (IsDts ((fieldsW tok ++ [Wi.close, Wi.bld tok (fieldsW tok).length]).map Wi.dat))) RNil) st s9.s (s9.g _ _ gx3) (fm1 _ (by decide)) (ev_var rfl) (ea_cons (ka := 0) (kb := 0) ?_ ea_nil) fun vs G' H' s' e => ?_
                  · refine ev_op (ka := 0) (kb := 0) (Ra := IsV (.ref p9)) (Rb := IsNX G9 (IsDts [Wi.close.dat, (Wi.bld tok (fieldsW tok).length).dat])) (ev_var rfl) (ev_lstXN st (ea_cons (ka := 0) (kb := 0) (R := IsDt Wi.close.dat) (RA := IsDts [(Wi.bld tok (fieldsW tok).length).dat]) (ev_tq st (ea_cons (ka := 0) (kb := 0) (R := IsDt (.str "close")) (RA := IsDts []) ev_c ea_nil) fun vs G' e => by rw [dts_len (as := [.str "close"]) e]; simp) (ea_cons (ka := 0) (kb := 0) (R := IsDt (Wi.bld tok (fieldsW tok).length).dat) (RA := IsDts []) (ev_tq st (ea_cons (ka := 0) (kb := 0) (R := IsDt (.str "build")) (RA := IsDts [.str tok, .int ((fieldsW tok).length : Nat)]) ev_c (ea_cons (ka := 0) (kb := 0) (R := IsDt (.str tok)) (RA := IsDts [.int ((fieldsW tok).length : Nat)]) (ev_var rfl) (ea_cons (ka := 0) (kb := 0) (R := IsDt (.int ((fieldsW tok).length : Nat))) (RA := IsDts []) (ev_eq (congrArg V.int (by rw [l9])) (ev_cbV (ea_consV (ev_var rfl) ea_nilV) (c_lenL st (SqL.of g9)))) ea_nil))) fun vs G' e => by rw [dts_len (as := [.str "build", .str tok, .int ((fieldsW tok).length : Nat)]) e]; simp) ea_nil)) fun vs G' e => by rw [dts_len (as := [Wi.close.dat, (Wi.bld tok (fieldsW tok).length).dat]) e]; simp) fun y z G2 s2 hy hz => ?_
                    obtain rfl := (show _ = _ from hy)
                    obtain ⟨pz, xz, rfl, fz, gz, dz⟩ := hz
                    have lz := dts_len dz
                    refine rv_imp (v_cat st (s2 _ _ g9) gz (by rw [lz, l9]; show _ + 2 ≤ _; omega)) fun v G3 s3 h3 => ?_
                    obtain ⟨q3, rfl, f3, g3⟩ := h3
                    refine ⟨q3, _, rfl, s2.free f3, g3, ?_⟩
                    rw [List.map_append]
                    exact dts_app (Mons.mon (s2.trans s3) d9) (Mons.mon s3 dz)
                  · obtain ⟨_, _, rfl, ⟨p, xs9, rfl, fp, gp, dp⟩, e2'⟩ := e
                    obtain rfl := (show _ = [] from e2')
                    refine ⟨x, W, U1, G0, H0, G', r, vs1, oc, p, xs9, _, rfl, ⟨pl.hs, pl.x0, pl.w0, p1.v0, pw.mono s'.g, s'.s⟩, gp, dp, fun z => ?_, fun z => ?_, by simp; omega, by omega, fun G2 H2 p2 ox => q_end (q_end (q_end (q_end ?_)))⟩
                    · obtain ⟨_, ⟨lw, g, _⟩, _, _⟩ := pw
                      rw [z, g] at fp
                      cases fp
                    · obtain ⟨_, _, ⟨lv, g, _⟩, _⟩ := pw
                      rw [z, g] at fp
                      cases fp
                    · refine q_retV (n := 0) st (show SP0 G0 H0 0 G2 H2 from p2.g) ev_c fun H3 k3 h3 => q1 (fieldsW tok ++ (.close :: .bld tok (fieldsW tok).length :: r), vs1, oc) (by rw [hst]; simp [tkB, e2]) G2 H3 U1 ?_ (fun b o h1 h2 h3 e => ?_) hU1
                      · have e : (fieldsW tok ++ [Wi.close, .bld tok (fieldsW tok).length]) ++ r = fieldsW tok ++ (.close :: .bld tok (fieldsW tok).length :: r) := by rw [List.append_assoc]; rfl
                        rw [e] at p2
                        exact ⟨p2.hs, p2.x0, p2.w0, p2.v0, p2.p, h3⟩
                      · exact ox b o h1 h2 (fun z => by
                          rcases hU1 with y | y
                          · exact h3 (z.trans y)
                          · rw [z, y] at e
                            cases e) (s'.g _ _ (s9.g _ _ (o4 b o h1 h2 h3 e)))
              · have hsh1 : SeqAt.shaped w1.dat = true := wd_shaped (fun s k z => nb s k r (by rw [z])) fun s z => hwd1 s (by rw [z]; exact List.mem_cons_self ..)
                refine q_retV st h8 (x := .bl (PyData.eqv w1.dat (.tuple [.str "word", .str tok]))) (ev_op (ka := 0) (kb := 0) (Ra := IsV (.ref a)) (Rb := IsDt (.tuple [.str "word", .str tok])) (ev_var rfl) (ev_tq st (ea_cons (ka := 0) (kb := 0) (R := IsDt (.str "word")) (RA := IsDts [.str tok]) ev_c (ea_cons (ka := 0) (kb := 0) (R := IsDt (.str tok)) (RA := IsDts []) (ev_var rfl) ea_nil)) fun vs G' e => by rw [dts_len (as := [.str "word", .str tok]) e]; simp) fun y z G2 s2 hy hz => ?_) fun H9 k9 h9 => ?_
                · obtain rfl := (show _ = _ from hy)
                  exact v_eqD st (dt_dp w1.dat (dt_monT (SameT.of s2) _ d3)) (dt_dp (.tuple [.str "word", .str tok]) hz) hsh1 (wd_shaped (w := .wd tok) (fun s k z => by cases z) fun s z => by cases z; exact hok)
                · have n5 : w1 = .term → ¬ tok = "skip" := fun y z => by
                    rw [y, z] at p5
                    exact absurd p5 (by decide +kernel)
                  have n6 : w1 = .name → ¬ nameB tok = true := fun y z => by
                    rw [y, z] at p6
                    exact absurd p6 (by decide +kernel)
                  have n7 : w1 = .count → ¬ countB tok = true := fun y z => by
                    rw [y, z] at p7
                    exact absurd p7 (by decide +kernel)
                  have n8 : w1 = .form → ¬ tok ∈ formK := fun y z => by
                    rw [y, decide_eq_true z] at p8
                    exact absurd p8 (by decide +kernel)
                  have p0 : PlIn C x W U1 G0 H0 G4 H9 r vs1 oc := ⟨pl.hs, pl.x0, pl.w0, p1.v0, ⟨⟨dx1, fs1, gx3, fw1, fr1, fo1, fm1, f11⟩, ⟨ys, gW4, i3⟩, ⟨lv2, gv4, iv4⟩, nWU1⟩, h9⟩
                  rw [eqv_word]
                  have no : tkB w1 r vs1 oc tok = none → Q (.bl false) H9 := fun z => q2 (hst.trans z) G4 H9 h9 o4
                  cases w1 with
                  | wd z =>
                    by_cases e : z = tok
                    · show Q (.bl (decide (z = tok))) H9; rw [decide_eq_true e]
                      exact q1 (r, vs1, oc) (by rw [hst]; simp [tkB, e]) G4 H9 U1 p0 o4 hU1
                    · show Q (.bl (decide (z = tok))) H9; rw [decide_eq_false e]
                      exact no (if_neg fun y => e y.symm)
                  | term => exact no (if_neg (n5 rfl))
                  | name => exact no (if_neg (n6 rfl))
                  | count => exact no (if_neg (n7 rfl))
                  | form => exact no (if_neg (n8 rfl))
                  | _ => exact no rfl
abbrev s_Pile___init__ : Stmt := inClass (top 13) 0
theorem sc_Pile___init__ : FnScope ["self", "wishes", "at"] ["self", "wishes"] (defScope s_Pile___init__) := ⟨rfl, rfl, rfl, by decide +kernel, rfl, by decide +kernel, by decide +kernel⟩
theorem ok_pl_init {C : Addr} {f : Addr} {fd : FuncData} (Z : Bi mg) (hP : PilC K C) (F : Fun K "__init__" "Pile.__init__" s_Pile___init__ f fd) : FnOk P w K mg base CX0 1 f fd ["self", "wishes"] (spI (PPil C)) := by
  refine F.ok sc_Pile___init__ (fun vs H Q E h => ?_) (fun cdv A outer s H vs Q E hr h => ?_)
  · obtain ⟨x, C', dx, fs, rest, G, R, rfl, _, _, _, ⟨_, _, _, _, _, rfl, _⟩, _⟩ := h
    rfl
  · obtain ⟨x, C', dx, fs, rest, G, R, rfl, hx, hG, gx, ⟨F0, p, lp, l, rfl, rfl, rfl, sF, gp, dl, l10, rfl⟩, q⟩ := h
    refine ⟨_, (pss_cons (ps_fld (pv 0) (pe_lc (own := [("at", 2)]) (g := (gName 2)) rfl sc_Pile___init__.nd (pi_range1 (by rfl) Z.z_range (pa_cons (pe_callB (call_lenA K) (by rfl) Z.z_len PySem.boot_len (pa_cons (pv 1) pa_nil)) pa_nil)) (blkOk_by (by kernel_rfl)) (fun _ _ _ _ _ => (pg_name (i := 2) sc_Pile___init__.nd rfl (Or.inl rfl))) (fun _ _ _ _ _ => pts_nil) (fun _ _ _ _ _ => (pe_ix (ix_any K (hu_of hr)) (pv 1) (pe_op op_subA (pe_op op_subA (pe_callB (call_lenA K) (by rfl) Z.z_len PySem.boot_len (pa_cons (pv 1) pa_nil)) pe_int) (pv 2)) (fun _ _ => rfl)))) rfl)
  (pss_cons (ps_fld (pv 0) (pe_lst pa_nil) rfl)
  (pss_cons (ps_fld (pv 0) pe_int rfl)
  pss_nil))), ?_⟩
    have h0 := own_start (o := .ins C' dx []) hG gx hx 0
    have st0 := stabO G H x (.ins C' dx [])
    have ll := dts_len dl
    rw [List.length_map] at ll
    show tSeq _ _ (Ends.mk _ _ _ _) [some _, some _, none] _
    refine q_fldO h0 (ev_lcR (c1 := 0) (m := ((l.length : Nat) : Int)) st0 (IsDj (l.reverse.map Wi.dat)) (ea_consV (ev_eq (congrArg V.int (by rw [ll])) (ev_cbV (ea_consV (ev_var rfl) ea_nilV) (c_lenL st0 (SqL.of gp)))) ea_nilV) (by omega) (by omega) (fun j G' hj s' => ?_) fun _ => rfl) rfl hP.c (hP.n _ (by decide)) (by decide) fun v G1 H1 s1 h1 r1 => ?_
    · have hj : j < l.length := by omega
      have hi : l.length - 1 - j < l.length := by omega
      have el : (l.map Wi.dat)[l.length - 1 - j]? = some (l[l.length - 1 - j]).dat := by rw [List.getElem?_map, List.getElem?_eq_getElem hi]; rfl
      obtain ⟨u, hu, du⟩ := dts_get (Mons.mon s' dl) el
      refine (ev_opV (ev_var rfl) (ev_eq (congrArg V.int (show ((l.length : Nat) : Int) - 1 - (j : Nat) = ((l.length - 1 - j : Nat) : Int) by omega)) (ev_opV (ev_opV (ev_eq (congrArg V.int (by rw [ll])) (ev_cbV (ea_consV (ev_var rfl) ea_nilV) (c_lenL st0 (SqL.of (s' _ _ gp))))) ev_c (v_sub st0)) (ev_var rfl) (v_sub st0))) (v_ixL st0 (SqL.of (s' _ _ gp)) (atI_nat hu))).imp fun v G2 s2 e => ?_
      obtain rfl := (show _ = _ from e)
      exact ⟨_, by rw [List.getElem?_map, List.getElem?_reverse hj, List.getElem?_eq_getElem hi]; rfl, Mon.mon s2 du⟩
    · obtain ⟨W, lw, rfl, fW, gW, lW, dW⟩ := r1
      rw [Int.toNat_natCast] at lW
      have dW : IsDts (l.reverse.map Wi.dat) lw G1 := dts_of (by rw [lW, List.length_map, List.length_reverse]) dW
      refine q_fldO h1 (ev_lstN (stabO G H x _) ea_nilV (by simp)) rfl hP.c (hP.n _ (by decide)) (Nat.lt_of_le_of_lt (putF_len _ _ _) (by decide)) fun v G2 H2 s2 h2 r2 => ?_
      obtain ⟨U, rfl, fU, gU⟩ := r2
      refine q_fldV h2 ev_c rfl hP.c (hP.n _ (by decide)) (Nat.lt_of_le_of_lt (putF_len _ _ _) (Nat.lt_of_le_of_lt (Nat.succ_le_succ (putF_len _ _ _)) (by decide))) fun H3 h3 => q_end (q _ _ _ (own_n h3) ⟨sF.trans (s1.trans s2), W, U, lw, rfl, sF.free fW, sF.free (s1.free fU), fun z => ?_, s2 _ _ gW, Mons.mon s2 dW, gU⟩)
      rw [z, fU] at gW
      cases gW
abbrev s_read_all : Stmt := top 14
theorem sc_read_all : FnScope ["text", "wishes", "pile", "token", "at"] ["text", "wishes"] (defScope s_read_all) := ⟨rfl, rfl, rfl, by decide +kernel, rfl, by decide +kernel, by decide +kernel⟩
theorem ok_read_all {C CB fB : Addr} {f : Addr} {fd : FuncData} (Z : Bi mg) (hP : PilC K C) (x_BadText : ExI P K mg CB fB "at" "ValueError" "ValueError.__new__" "ValueError.__init__") (m_BadText : mg "BadText" = some (.ref CB)) (c_Pile : Maker P w K mg base "Pile" C CX0 1 ["self", "wishes"] [] (spI (PPil C))) (c_split_text : Callee P w K mg base "split_text" CX0 1 ["text"] [] (spP PSpl)) (c_pl_settle : Method P w K mg base C "settle" CX0 1 ["self"] [] (sp_settle C)) (c_pl_meets : Method P w K mg base C "meets" CX0 3 ["self", "token"] [] (sp_meets C)) (F : Fun K "read_all" "read_all" s_read_all f fd) : FnOk P w K mg base (L2.CX P w) 4 f fd ["text", "wishes"] (sp_rall CB) := by
  refine F.okX sc_read_all (fun vs H Q E h => ?_) (fun cdv A outer s H vs Q E hr h => ?_)
  · obtain ⟨_, _, _, _, _, rfl, _⟩ := h
    rfl
  · obtain ⟨G, tx, p, lp, l, rfl, hs, gp, dl, l10, wf0, wd0, tl, tk, tok, q1, q2⟩ := h
    refine ⟨_, (pss_cons (ps_set (i := 2) sc_read_all.nd rfl (Or.inl rfl) (pe_makeC c_Pile (hr.mono (by decide)) pass0 (pa_cons (pv 1) pa_nil)))
  (pss_cons (ps_for (passes_of rfl) rfl (pi_listK K (pe_callC c_split_text (hr.mono (by decide)) pass0 (pa_cons (pv 0) pa_nil))) (pg_tup rfl (pgs_cons (pg_name (i := 3) sc_read_all.nd rfl (Or.inl rfl)) (pgs_cons (pg_name (i := 4) sc_read_all.nd rfl (Or.inl rfl)) pgs_nil))) (pss_cons (ps_if (pt_cmpR (op_eqA K hr.units) (pv 3) pe_str (nomark _)) (pss_cons (ps_expr (pe_methC0 c_pl_settle (hr.mono (by decide)) pass0 (pv 2)))
  (pss_cons (ps_if (pt_cmpR (op_eqA K hr.units) (pe_callB (call_lenA K) (by rfl) Z.z_len PySem.boot_len (pa_cons (pe_fldK K (pv 2)) pa_nil)) pe_int (nomark _)) (pss_cons (ps_ret (pe_fldK K (pv 2)))
  pss_nil) pss_nil)
  pss_nil)) pss_nil)
  (pss_cons (ps_if (pt_not (pt_val (pe_methC c_pl_meets (hr.mono (by decide)) pass0 (pv 2) (pa_cons (pv 3) pa_nil)))) (pss_cons (ps_raiseX rfl ebV x_BadText m_BadText hr (takes_of rfl rfl rfl rfl) (pa_cons (pv 4) pa_nil))
  pss_nil) pss_nil)
  pss_nil)))
  (pss_cons (ps_ret (pe_fldK K (pv 2)))
  pss_nil))), ?_⟩
    have st := stab0 G H
    have h0 : SP0 G H 0 G H := Grow.refl hs
    show tSeq _ _ (Ends.mk _ _ _ _) [some _, some _, none, none, none] _
    refine q_set h0 (ev_make (R := RPil G l) st (ea_consV (ev_var rfl) ea_nilV) fun vs G' s' e => by
      obtain rfl := (show vs = _ from e)
      exact ⟨G, p, lp, l, rfl, rfl, rfl, s', s' _ _ gp, Mons.mon s' dl, l10, rfl⟩) fun v G1 H1 s1 r1 => ?_
    obtain ⟨x, W, U, rfl, p0⟩ := pile_new hs s1 r1
    show tSeq _ _ (Ends.mk _ _ _ _) [some (.str tx), some (.ref p), some (.ref x), none, none] _
    refine q_forLI st (show SP0 G H 0 G1 H1 from p0.g) (ev_callV (R := IsNX G1 (RL IsTk (toksP tx))) st (ea_consV (ev_var rfl) ea_nilV) fun G' s' => ⟨tx, G1, rfl, tl, s', rfl⟩) fun v G2 H2 s2 r2 => ?_
    obtain ⟨pT, xT, rfl, fT, gT, rT⟩ := r2
    have lT := rl_len rT
    have pG2 : PilG C x W U l [] 0 G2 := p0.p.mono s2.g
    have nT : pT ≠ x ∧ pT ≠ W ∧ pT ≠ U := by
      obtain ⟨⟨dx, fs, gx, _⟩, ⟨lw, gw, _⟩, ⟨lv, gv, _⟩, _⟩ := p0.p
      refine ⟨fun z => ?_, fun z => ?_, fun z => ?_⟩
      · rw [z, gx] at fT
        cases fT
      · rw [z, gw] at fT
        cases fT
      · rw [z, gv] at fT
        cases fT
    refine ⟨pT, xT, fun j τ J => ∃ G' U' ws vs oc y3 y4, τ = [some (.str tx), some (.ref p), some (.ref x), y3, y4] ∧ PlIn C x W U' G H G' J ws vs oc ∧ OnlyX x W U G2 G' ∧ (U' = U ∨ G2 U' = none) ∧ wfS ws vs.length ∧ ws.length + vs.length ≤ 10 + 5 * j ∧ (∀ s, Wi.wd s ∈ ws → PyData.strOk s = true) ∧ readM ((toksP tx).drop j) (ws, vs, oc) = readM (toksP tx) (l, [], 0), rfl, gT, ?_, ?_, ?_, ?_⟩
    · exact ⟨G2, U, l, [], 0, none, none, rfl, ⟨p0.hs, p0.x0, p0.w0, p0.v0, pG2, s2.s⟩, fun b o _ _ _ e => e, .inl rfl, wf0, by simp; omega, wd0, by rw [List.drop_zero]⟩
    · rintro j τ J hj ⟨G', U', ws, vs, oc, y3, y4, _, pl, ox, _⟩
      exact (show Grow G H G' J from pl.g).s pT _ (ox pT _ nT.1 nT.2.1 nT.2.2 gT)
    · rintro j y τ J hy ⟨G', U', ws, vs, oc, y3, y4, rfl, pl, ox, hU, wf, ll, wd, er⟩
      have hj : j < (toksP tx).length := by
        have := (List.getElem?_eq_some_iff.mp hy).1
        omega
      obtain ⟨u, hu, a, rfl, ga⟩ := rl_get rT (List.getElem?_eq_getElem hj)
      rw [hu] at hy
      obtain rfl := Option.some.inj hy
      obtain ⟨tl1, to1⟩ := tok _ (List.getElem_mem hj)
      rw [List.drop_eq_getElem_cons hj, readM_cons] at er
      generalize (toksP tx)[j] = tk0 at *
      obtain ⟨tok0, at0⟩ := tk0
      have ga' : G' a = some (.tup [.str tok0, .int (at0 : Nat)]) := OnlyX.t pG2 ox _ _ ga
      refine ⟨a, _, rfl, SqT.of ((show Grow G H G' J from pl.g).s _ _ ga'), rfl, _, _, rfl, _, _, rfl, rfl, ?_⟩
      show tSeq _ _ (Ends.mk _ _ _ _) [some (.str tx), some (.ref p), some (.ref x), some (.str tok0), some (.int (at0 : Nat))] _
      have ret : ∀ {U1 : Addr} {GB HB : Hp} {ws1 : List Wi} {vs1 : List PyData}, PlIn C x W U1 G H GB HB ws1 vs1 oc → readM (toksP tx) (l, [], 0) = .inr vs1 → Q (.ref U1) HB := fun {U1 GB HB ws1 vs1} p1 e => by
        obtain ⟨_, _, ⟨lv, gv, iv⟩, _⟩ := p1.p
        exact q1 vs1 e _ GB HB p1.g ⟨U1, lv, rfl, hs.free p1.v0, gv, iv⟩
      have trx : ∀ {U1 : Addr} {GA GB : Hp}, OnlyX x W U G2 GA → (U1 = U ∨ G2 U1 = none) → OnlyX x W U1 GA GB → OnlyX x W U G2 GB := fun {U1 GA GB} h1 h2 h3 b o e1 e2 e3 e => h3 b o e1 e2 (fun z => by
        rcases h2 with y | y
        · exact e3 (z.trans y)
        · rw [z, y] at e
          cases e) (h1 b o e1 e2 e3 e)
      have tru : ∀ {U1 U2 : Addr} {GA : Hp}, OnlyX x W U G2 GA → (U1 = U ∨ G2 U1 = none) → (U2 = U1 ∨ GA U2 = none) → U2 ≠ x ∧ U2 ≠ W → (U2 = U ∨ G2 U2 = none) := fun {U1 U2 GA} h1 h2 h3 hn => by
        rcases h3 with z | z
        · rw [z]
          exact h2
        · by_cases hu : U2 = U
          · exact .inl hu
          · refine .inr ?_
            cases e : G2 U2 with
            | none => rfl
            | some o =>
              rw [h1 _ _ hn.1 hn.2 hu e] at z
              cases z
      have nUx : ∀ {U1 : Addr} {GB : Hp} {ws1 : List Wi} {vs1 : List PyData} {oc1 : Int}, PilG C x W U1 ws1 vs1 oc1 GB → U1 ≠ x ∧ U1 ≠ W := fun {U1 GB ws1 vs1 oc1} h => by
        obtain ⟨⟨dx, fs, gx, _⟩, _, ⟨lv, gv, _⟩, n⟩ := h
        exact ⟨fun z => by (rw [z, gx] at gv; cases gv), n.symm⟩
      refine q_ifB (n := 0) (k := 0) st (fun σ' HB => ∃ GB U1 ws1 vs1, σ' = [some (.str tx), some (.ref p), some (.ref x), some (.str tok0), some (.int (at0 : Nat))] ∧ PlIn C x W U1 G H GB HB ws1 vs1 oc ∧ OnlyX x W U G2 GB ∧ (U1 = U ∨ G2 U1 = none) ∧ wfS ws1 vs1.length ∧ ws1.length + vs1.length ≤ 10 + 5 * j ∧ (∀ s, Wi.wd s ∈ ws1 → PyData.strOk s = true) ∧ settle ws1 vs1 = settle ws vs ∧ ¬ (tok0 = "" ∧ (settle ws vs).1 = [])) (show SP0 G H 0 G' J from pl.g) (et_testV (ev_opV (ev_var rfl) ev_c (v_eqS st))) (fun σ' HB hJ => ?_) (fun H3 hu p3 k3 h3 => ?_) (fun H3 hu p3 k3 h3 => q_end (hu _ _ ⟨G', U', ws, vs, rfl, ⟨pl.hs, pl.x0, pl.w0, pl.v0, pl.p, h3⟩, ox, hU, wf, ll, wd, rfl, fun z => by rw [z.1] at p3; exact absurd p3 (by decide +kernel)⟩))
      · obtain ⟨GB, U1, ws1, vs1, rfl, p1, ox1, hU1, wf1, ll1, wd1, es, nn⟩ := hJ
        obtain ⟨⟨dx1, fs1, gx1, _, _, _, fm1, _⟩, _⟩ := id p1.p
        rw [if_neg nn] at er
        refine q_ifNM (n := 0) (ka := 0) (kb := 0) (RA := IsVs [.str tok0]) st (show SP0 G H 0 GB HB from p1.g) gx1 (fm1 _ (by decide)) (ev_var rfl) (ea_consV (ev_var rfl) ea_nilV) fun vs' GA HA sA eA => ?_
        obtain rfl := (show vs' = _ from eA)
        have oxA : OnlyX x W U G2 GA := fun b o e1 e2 e3 e => sA.g _ _ (ox1 b o e1 e2 e3 e)
        obtain ⟨wfS1, lws1, _⟩ := wf_settle wf1
        refine ⟨x, W, U1, G, H, GA, ws1, vs1, oc, tok0, rfl, ⟨p1.hs, p1.x0, p1.w0, p1.v0, p1.p.mono sA.g, sA.s⟩, wf1, by omega, by omega, to1, wd1, fun s' e GC HC U2 p2 ox2 hU2 => ⟨true, rfl, ?_⟩, fun e GC HC gr ox2 => ⟨false, rfl, ?_⟩⟩
        · refine iteF ?_
          obtain ⟨wf2, ll2⟩ := wf_step wfS1 e
          have ll2 : s'.1.length + s'.2.1.length ≤ _ := ll2
          refine q_end ⟨GC, U2, s'.1, s'.2.1, s'.2.2, _, _, rfl, p2, trx oxA hU1 ox2, tru oxA hU1 hU2 (nUx p2.p), wf2, by omega, wd_step (fun s hs => wd1 s (mem_settle hs)) e, ?_⟩
          rw [es] at e
          rw [e] at er
          exact er
        · refine iteT ?_
          rw [es] at e
          rw [e] at er
          exact q_raiseX (n := 0) (k := 0) (S := SP0 G H) (G := GC) gr (ea_consV (ev_var rfl) ea_nilV) fun GD HD d sD hd => q2 at0 er.symm d GD HD sD.s hd
      · have t0 : tok0 = "" := of_decide_eq_true p3.symm
        obtain ⟨⟨dx1, fs1, gx1, _, _, _, fm1, _⟩, _⟩ := id pl.p
        refine q_dropM (n := 0) (ka := 0) (kb := 0) (RA := RNil) st h3 gx1 (fm1 _ (by decide)) (ev_var rfl) ea_nil fun vs' GA HA sA eA => ?_
        obtain rfl := (show vs' = [] from eA)
        have oxA : OnlyX x W U G2 GA := fun b o e1 e2 e3 e => sA.g _ _ (ox b o e1 e2 e3 e)
        obtain ⟨wfS1, lws1, nb⟩ := wf_settle wf
        refine ⟨x, W, U', G, H, GA, ws, vs, oc, rfl, ⟨pl.hs, pl.x0, pl.w0, pl.v0, pl.p.mono sA.g, sA.s⟩, wf, by omega, fun GB HB U1 p1 ox1 hU1 => ?_⟩
        obtain ⟨⟨dx2, fs2, gx2, fw2, fr2, _, fm2, _⟩, ⟨lw2, gw2, iw2⟩, _⟩ := id p1.p
        have lws := dts_len iw2
        rw [List.length_map, List.length_reverse] at lws
        have idem : settle (settle ws vs).1 (settle ws vs).2 = settle ws vs := by
          cases e : (settle ws vs).1 with
          | nil => show ([], (settle ws vs).2) = _; rw [← e]
          | cons w r => rw [settle_top fun s k z => nb s k r (by rw [e, z]), ← e]
        refine q_if (n := 0) (k := 0) st (show SP0 G H 0 GB HB from p1.g) (et_testV (ev_opV (ev_cbV (ea_consV (ev_fld st (ev_var rfl) gx2 hP.c (hP.n _ (by decide)) fw2) ea_nilV) (c_lenL st (SqL.of gw2))) ev_c (v_eqI st))) (fun H4 p4 k4 h4 => ?_) (fun H4 p4 k4 h4 => q_end ?_)
        · have e0 : (settle ws vs).1 = [] := by
            have := of_decide_eq_true p4.symm
            exact List.eq_nil_of_length_eq_zero (by omega)
          rw [if_pos ⟨t0, e0⟩] at er
          exact q_retV st h4 (ev_fld st (ev_var rfl) gx2 hP.c (hP.n _ (by decide)) fr2) fun H5 k5 h5 => ret (ws1 := (settle ws vs).1) ⟨p1.hs, p1.x0, p1.w0, p1.v0, p1.p, h5⟩ er.symm
        · refine hu _ _ ⟨GB, U1, _, _, rfl, ⟨p1.hs, p1.x0, p1.w0, p1.v0, p1.p, h4⟩, trx oxA hU ox1, tru oxA hU hU1 (nUx p1.p), wfS1, by omega, fun s hs => wd s (mem_settle hs), idem, fun z => ?_⟩
          rw [z.2] at lws
          rw [lws] at p4
          exact absurd p4 (by decide)
    · rintro τ J ⟨G', U', ws, vs, oc, y3, y4, rfl, pl, ox, hU, wf, ll, wd, er⟩
      rw [lT, List.drop_length] at er
      obtain ⟨⟨dx1, fs1, gx1, _, fr1, _, fm1, _⟩, _, ⟨lv, gv, iv⟩, _⟩ := id pl.p
      exact q_retV (n := 0) st (show SP0 G H 0 G' J from pl.g) (ev_fld st (ev_var rfl) gx1 hP.c (hP.n _ (by decide)) fr1) fun H5 k5 h5 => q1 vs er.symm _ G' H5 h5 ⟨U', lv, rfl, hs.free pl.v0, gv, iv⟩
abbrev s_read_term : Stmt := top 15
theorem sc_read_term : FnScope ["text"] ["text"] (defScope s_read_term) := ⟨rfl, rfl, rfl, by decide +kernel, rfl, by decide +kernel, by decide +kernel⟩
theorem ok_read_term {CB : Addr} {f : Addr} {fd : FuncData} (Z : Bi mg) (c_read_all : Callee P w K mg base "read_all" (L2.CX P w) 4 ["text", "wishes"] [] (sp_rall CB)) (F : Fun K "read_term" "read_term" s_read_term f fd) : FnOk P w K mg base (L2.CX P w) 5 f fd ["text"] (sp_rtrm CB) := by
  refine F.okX sc_read_term (fun vs H Q E h => ?_) (fun cdv A outer s H vs Q E hr h => ?_)
  · obtain ⟨_, _, rfl, _⟩ := h
    rfl
  · obtain ⟨G, tx, rfl, hs, tl, tk, tok, q1, q2⟩ := h
    refine ⟨_, (pss_cons (ps_ret (pe_ix (ix_any K (hu_of hr)) (pe_callC c_read_all (hr.mono (by decide)) (passE (takes_of rfl rfl rfl rfl)) (pa_cons (pv 0) (pa_cons (pe_lst (pa_cons (pe_tup (pa_cons pe_str pa_nil)) pa_nil)) pa_nil))) pe_int (fun _ _ => rfl)))
  pss_nil), ?_⟩
    have st := stab0 G H
    have h0 : SP0 G H 0 G H := Grow.refl hs
    show tSeq _ _ (Ends.mk _ _ _ _) [some _] _
    have ea : EvA (SP0 G H) 0 0 (tCons (tVar 0) (tCons (tLst (tCons (tTup (tCons (tC (.str "term")) tNil)) tNil)) tNil)) [some (.str tx)] G (RCons (IsV (.str tx)) (RCons (IsNX G (IsDts ([Wi.term].map Wi.dat))) RNil)) := ea_cons (ka := 0) (kb := 0) (ev_var rfl) (ea_cons (ka := 0) (kb := 0) (ev_lstXN st (ea_cons (ka := 0) (kb := 0) (R := IsDt Wi.term.dat) (RA := IsDts []) (ev_tq st (ea_cons (ka := 0) (kb := 0) (R := IsDt (.str "term")) (RA := IsDts []) ev_c ea_nil) fun vs G' e => by rw [dts_len (as := [.str "term"]) e]; simp) ea_nil) fun vs G' e => by rw [dts_len (as := [Wi.term.dat]) e]; simp) ea_nil)
    show (tCons (tVar 0) (tCons (tLst _) tNil)) [some (.str tx)] H (fun vs H1 => sp_rall CB (vs ++ []) H1 (fun x H2 => (tC (V.int 0)) [some (.str tx)] H2 fun y H3 => rIxA K x y H3 Q) E)
    refine ea G H (Same.refl _) h0 _ fun vs G1 H1 s1 e => ?_
    obtain ⟨_, _, rfl, e1, _, _, rfl, ⟨p, xs, rfl, _, gp, dp⟩, e2⟩ := e
    obtain rfl := (show _ = _ from e1)
    obtain rfl := (show _ = [] from e2)
    have g1 : Grow G H G1 H1 := s1.s
    refine ⟨G1, tx, p, xs, [.term], rfl, g1.s, gp, dp, by simp, trivial, fun s hs => by simp at hs, tl, tk, tok, fun ds e v G2 H2 g2 hv => ?_, fun a e d G2 H2 g2 hd => ?_⟩
    · obtain ⟨d, r, er, k⟩ := q1 ds e
      obtain ⟨p2, x2, rfl, _, g, dd⟩ := hv
      rw [er] at dd
      obtain ⟨v2, w2, rfl, d1, d2⟩ := dd
      refine (show RV (SP0 G H) (rIxA K) (.ref p2) (.int 0) G2 (IsV v2) from v_ixL st (SqL.of g) (atI_nat (j := 0) rfl)) 0 G2 H2 (Same.refl _) (g1.trans g2) Q fun v G3 H3 s3 e3 => ?_
      obtain rfl := (show v = _ from e3)
      exact k _ G3 H3 s3.s (Mon.mon s3.g d1)
    · exact q2 a e d G2 H2 (g1.trans g2) hd
abbrev s_read_procedures : Stmt := top 16
theorem sc_read_procedures : FnScope ["text"] ["text"] (defScope s_read_procedures) := ⟨rfl, rfl, rfl, by decide +kernel, rfl, by decide +kernel, by decide +kernel⟩
theorem ok_read_procedures {CB : Addr} {f : Addr} {fd : FuncData} (Z : Bi mg) (c_read_all : Callee P w K mg base "read_all" (L2.CX P w) 4 ["text", "wishes"] [] (sp_rall CB)) (F : Fun K "read_procedures" "read_procedures" s_read_procedures f fd) : FnOk P w K mg base (L2.CX P w) 5 f fd ["text"] (sp_rprc CB) := by
  refine F.okX sc_read_procedures (fun vs H Q E h => ?_) (fun cdv A outer s H vs Q E hr h => ?_)
  · obtain ⟨_, _, rfl, _⟩ := h
    rfl
  · obtain ⟨G, tx, rfl, hs, tl, tk, tok, q1, q2⟩ := h
    refine ⟨_, (pss_cons (ps_ret (pe_callC c_read_all (hr.mono (by decide)) (passE (takes_of rfl rfl rfl rfl)) (pa_cons (pv 0) (pa_cons (pe_lst (pa_cons (pe_tup (pa_cons pe_str pa_nil)) (pa_cons (pe_tup (pa_cons pe_str (pa_cons pe_str pa_nil))) (pa_cons (pe_tup (pa_cons pe_str pa_nil)) pa_nil)))) pa_nil))))
  pss_nil), ?_⟩
    have st := stab0 G H
    have h0 : SP0 G H 0 G H := Grow.refl hs
    have dc : ∀ {te : TE} {t : TA} {d : PyData} {ds : List PyData} {n : Nat} {σ : L2.St} {G1 : Hp}, Ev (SP0 G H) n 0 te σ G1 (IsDt d) → EvA (SP0 G H) n 0 t σ G1 (IsDts ds) → EvA (SP0 G H) n 0 (tCons te t) σ G1 (IsDts (d :: ds)) := fun h1 h2 => ea_cons (ka := 0) (kb := 0) h1 h2
    have dn : ∀ {n : Nat} {σ : L2.St} {G1 : Hp}, EvA (SP0 G H) n 0 tNil σ G1 (IsDts []) := fun {n σ G1} => ea_nil
    have dS : ∀ {z : Str} {n : Nat} {σ : L2.St} {G1 : Hp}, Ev (SP0 G H) n 0 (tC (.str z)) σ G1 (IsDt (.str z)) := fun {z n σ G1} => ev_c
    have dT : ∀ {t : TA} {ds : List PyData} {n : Nat} {σ : L2.St} {G1 : Hp}, EvA (SP0 G H) n 0 t σ G1 (IsDts ds) → ds.length ≤ 100000 → Ev (SP0 G H) n 0 (tTup t) σ G1 (IsDt (.tuple ds)) := fun h hl => ev_tq st h fun vs G' e => by rw [dts_len e]; exact hl
    show tSeq _ _ (Ends.mk _ _ _ _) [some _] _
    have ea : EvA (SP0 G H) 0 0 (tCons (tVar 0) (tCons (tLst (tCons (tTup (tCons (tC (.str "open")) tNil)) (tCons (tTup (tCons (tC (.str "word")) (tCons (tC (.str "program")) tNil))) (tCons (tTup (tCons (tC (.str "procedure")) tNil)) tNil)))) tNil)) [some (.str tx)] G (RCons (IsV (.str tx)) (RCons (IsNX G (IsDts ([Wi.opn, .wd "program", .prc].map Wi.dat))) RNil)) := ea_cons (ka := 0) (kb := 0) (ev_var rfl) (ea_cons (ka := 0) (kb := 0) (ev_lstXN st (dc (dT (dc dS dn) (by decide)) (dc (dT (dc dS (dc dS dn)) (by decide)) (dc (dT (dc dS dn) (by decide)) dn))) fun vs G' e => by rw [dts_len e]; simp) ea_nil)
    show (tCons (tVar 0) (tCons (tLst _) tNil)) [some (.str tx)] H (fun vs H1 => sp_rall CB (vs ++ []) H1 Q E)
    refine ea G H (Same.refl _) h0 _ fun vs G1 H1 s1 e => ?_
    obtain ⟨_, _, rfl, e1, _, _, rfl, ⟨p, xs, rfl, _, gp, dp⟩, e2⟩ := e
    obtain rfl := (show _ = _ from e1)
    obtain rfl := (show _ = [] from e2)
    have g1 : Grow G H G1 H1 := s1.s
    have kp : PyData.strOk "program" = true := by decide +kernel
    refine ⟨G1, tx, p, xs, [.opn, .wd "program", .prc], rfl, g1.s, gp, dp, by simp, rfl, fun s hs => by (simp at hs; rw [hs]; exact kp), tl, tk, tok, fun ds e v G2 H2 g2 hv => ?_, fun a e d G2 H2 g2 hd => ?_⟩
    · obtain ⟨p2, x2, rfl, f2, g, dd⟩ := hv
      exact q1 ds e _ G2 H2 (g1.trans g2) ⟨p2, x2, rfl, g1.g.free f2, g, dd⟩
    · exact q2 a e d G2 H2 (g1.trans g2) hd
theorem cu_mem (c : Nat) : decide (c ∈ (" ()" : Str).cps.toList) = cuC c := by
  have e : (" ()" : Str).cps.toList = [32, 40, 41] := by decide +kernel
  rw [e]
  unfold cuC
  simp
abbrev s__law_tokens : Stmt := top 24
theorem sc__law_tokens : FnScope ["_law_text_here", "_law_found", "_law_start", "_law_at"] ["_law_text_here"] (defScope s__law_tokens) := ⟨rfl, rfl, rfl, by decide +kernel, rfl, by decide +kernel, by decide +kernel⟩
theorem ok_ltoks20 {f : Addr} {fd : FuncData} (Z : Bi mg) (F : Fun K "_law_tokens" "_law_tokens" s__law_tokens f fd) : FnOk P w K mg base CX0 1 f fd ["_law_text_here"] (spP PLtk) := by
  refine F.ok sc__law_tokens (fun vs H Q E h => ?_) (fun cdv A outer s H vs Q E hr h => ?_)
  · obtain ⟨_, _, _, ⟨_, _, rfl, _⟩, _⟩ := h
    rfl
  · obtain ⟨G, R, hs, ⟨z, F0, rfl, hl, sF, rfl⟩, q⟩ := h
    refine ⟨_, (pss_cons (ps_set (i := 1) sc__law_tokens.nd rfl (Or.inl rfl) (pe_lst pa_nil))
  (pss_cons (ps_set (i := 2) sc__law_tokens.nd rfl (Or.inl rfl) pe_int)
  (pss_cons (ps_for PassesOwn.never rfl (pi_range1 (by rfl) Z.z_range (pa_cons (pe_callB (call_lenA K) (by rfl) Z.z_len PySem.boot_len (pa_cons (pv 0) pa_nil)) pa_nil)) (pg_name (i := 3) sc__law_tokens.nd rfl (Or.inl rfl)) (pss_cons (ps_if (pt_cmpR op_in_str (pe_ix (ix_any K (hu_of hr)) (pv 0) (pv 3) (fun _ _ => rfl)) pe_str (by rfl)) (pss_cons (ps_if (pt_cmpR op_ltA (pv 2) (pv 3) (nomark _)) (pss_cons (ps_expr (pe_bm PySem.F.plainAttrs_list PySem.F.slot_list_append PySem.F.type_list_append mt_append (pv 1) (pa_cons (pe_lst (pa_cons (pe_slice sl_str (pv 0) (po_some (pv 2)) (po_some (pv 3))) (pa_cons (pv 2) pa_nil))) pa_nil)))
  pss_nil) pss_nil)
  (pss_cons (ps_if (pt_cmpR (op_neA K hr.units) (pe_ix (ix_any K (hu_of hr)) (pv 0) (pv 3) (fun _ _ => rfl)) pe_str (nomark _)) (pss_cons (ps_expr (pe_bm PySem.F.plainAttrs_list PySem.F.slot_list_append PySem.F.type_list_append mt_append (pv 1) (pa_cons (pe_lst (pa_cons (pe_ix (ix_any K (hu_of hr)) (pv 0) (pv 3) (fun _ _ => rfl)) (pa_cons (pv 3) pa_nil))) pa_nil)))
  pss_nil) pss_nil)
  (pss_cons (ps_set (i := 2) sc__law_tokens.nd rfl (Or.inl rfl) (pe_op op_addA (pv 3) pe_int))
  pss_nil))) pss_nil)
  pss_nil))
  (pss_cons (ps_if (pt_cmpR op_ltA (pv 2) (pe_callB (call_lenA K) (by rfl) Z.z_len PySem.boot_len (pa_cons (pv 0) pa_nil)) (nomark _)) (pss_cons (ps_expr (pe_bm PySem.F.plainAttrs_list PySem.F.slot_list_append PySem.F.type_list_append mt_append (pv 1) (pa_cons (pe_lst (pa_cons (pe_slice sl_str (pv 0) (po_some (pv 2)) po_none) (pa_cons (pv 2) pa_nil))) pa_nil)))
  pss_nil) pss_nil)
  (pss_cons (ps_ret (pe_op op_addA (pv 1) (pe_lst (pa_cons (pe_lst (pa_cons pe_str (pa_cons (pe_callB (call_lenA K) (by rfl) Z.z_len PySem.boot_len (pa_cons (pv 0) pa_nil)) pa_nil))) pa_nil))))
  pss_nil))))), ?_⟩
    have st := stab0 G H
    have h0 : SP0 G H 0 G H := Grow.refl hs
    have hsz : (500000 : Nat) ≤ sizeLine := by decide
    obtain ⟨L, hL⟩ : ∃ L, L = z.cps.toList ++ [32] := ⟨_, rfl⟩
    have ll : z.cps.toList.length = z.length := rfl
    have one : ∀ a b : Nat, decide ((⟨#[a]⟩ : Str) = (⟨#[b]⟩ : Str)) = decide (a = b) := fun a b => decide_eq_decide.mpr ⟨fun h => by injection h with h; simpa using h, fun h => by rw [h]⟩
    have e32 : (" " : Str) = (⟨#[32]⟩ : Str) := by decide +kernel
    have rowE : ∀ {a : Str} {b : Nat} {ta tb : TE} {n : Nat} {σ : L2.St} {G' : Hp}, Ev (SP0 G H) n 0 ta σ G' (IsV (.str a)) → Ev (SP0 G H) n 0 tb σ G' (IsV (.int (b : Nat))) → EvA (SP0 G H) n 0 (tCons (tLst (tCons ta (tCons tb tNil))) tNil) σ G' (RL IsRwk [(a, b)]) := fun {a b ta tb n σ G'} h1 h2 => ea_cons (ka := 0) (kb := 0) ((ev_lstN st (ea_consV (ka := 0) (kb := 0) h1 (ea_consV (ka := 0) (kb := 0) h2 ea_nilV)) (by simp)).imp fun v G2 s2 ⟨p, e, _, g⟩ => ⟨p, e, g⟩) ea_nil
    show tSeq _ _ (Ends.mk _ _ _ _) [some _, none, none, none] _
    refine q_newO (R := IsRwk) st h0 fun D G1 H1 J1 s1 hD hO => ?_
    refine q_setV st hO.s.s ev_c fun J2 k2 h2 => ?_
    show tSeq _ _ (Ends.mk _ _ _ _) [some (.str z), some (.ref D), some (.int 0), none] _
    have hO2 := LcO.go st s1.s hD hO (Stp.go0 k2 h2)
    have sl_ : ∀ {a b : Nat} {n : Nat} {σ : L2.St} {G' : Hp} {w : Str}, a ≤ b → b ≤ z.length → w.cps.toList = (z.cps.toList.take b).drop a → σ[0]? = some (some (.str z)) → σ[2]? = some (some (.int (a : Nat))) → σ[3]? = some (some (.int (b : Nat))) → Ev (SP0 G H) n 0 (tSl rSlS (tVar 0) (tPart (tVar 2)) (tPart (tVar 3))) σ G' (IsV (.str w)) := fun {a b n σ G' w} h1 h2 hw e0 e2 e3 => ev_eq (congrArg V.str (str_inj (by rw [hw, cut_mid h1 h2]))) (ev_slS (S := SP0 G H) (ka := 0) (kb := 0) (kc := 0) (ev_var e0) (by omega) (eo_some (ev_var e2)) (eo_some (ev_var e3)))
    refine q_forI1 (m := ((z.length : Nat) : Int)) hO2.s.s (ea_consV (ev_cbV (ea_consV (ev_var rfl) ea_nilV) (c_lenS st (by omega))) ea_nilV) (by omega) (by omega) (fun j σ' J => ∃ G3 y start, σ' = [some (.str z), some (.ref D), some (.int (start : Nat)), y] ∧ LcO (SP0 G H) G1 H1 0 D IsRwk (tkAt L j).1 G3 J ∧ LtI z j start) (fun G' H' s' => ?_) (fun j σ' J hj hp => ?_) (fun σ' J hp => ?_)
    · rw [hL]
      exact ⟨G', none, 0, rfl, LcO.go st s1.s hD hO2 s', ⟨Nat.le_refl _, rfl, fun h => absurd h (Nat.lt_irrefl _)⟩⟩
    · obtain ⟨G3, y, start, rfl, hO3, hI⟩ := hp
      have hj : j < z.length := by omega
      have hc : z.cps.toList[j]? = some z.cps.toList[j] := List.getElem?_eq_getElem hj
      generalize z.cps.toList[j] = c at hc
      have b1 := (tkAt_len L j).1
      have b1 : (tkAt L j).1.length ≤ j := by omega
      have ch : ∀ {n : Nat} {σ : L2.St} {G' : Hp}, σ[0]? = some (some (.str z)) → σ[3]? = some (some (.int (j : Nat))) → Ev (SP0 G H) n 0 (tOp (rIxA K) (tVar 0) (tVar 3)) σ G' (IsV (.str ⟨#[c]⟩)) := fun e1 e3 => ev_opV (ev_var e1) (ev_var e3) (v_ixS st (by omega) (atI_natG hc))
      show tSeq _ _ (Ends.mk _ _ _ _) [some (.str z), some (.ref D), some (.int (start : Nat)), some (.int (j : Nat))] _
      refine q_if st hO3.s.s (P := fun b => b = cuC c) ((et_testV (ev_opV (ch rfl rfl) ev_c (v_inS st))).imp fun b h => by rw [h, StrLaws.found_one, cu_mem]) (fun H4 p4 k4 h4 => ?_) (fun H4 p4 k4 h4 => q_end (q_end ?_))
      · have hcu : cuC c = true := p4.symm
        have hO4 := LcO.go st s1.s hD hO3 (Stp.go0 k4 h4)
        have eS := hI.e (Nat.le_of_lt hj)
        rw [← hL] at eS
        have eT := tkAt_chr hc
        rw [← hL] at eT
        unfold tkStep at eT
        rw [if_pos hcu] at eT
        refine q_ifB st (fun σ' J => ∃ G5, σ' = [some (.str z), some (.ref D), some (.int (start : Nat)), some (.int (j : Nat))] ∧ LcO (SP0 G H) G1 H1 0 D IsRwk ((tkAt L j).1 ++ (if (tkAt L j).2.1 = "" then [] else [((tkAt L j).2.1, (tkAt L j).2.2)])) G5 J) hO4.s.s (et_testV (ev_opV (ev_var rfl) (ev_var rfl) (v_lt st))) (fun σ' J hJ => ?_) (fun H5 hu p5 k5 h5 => ?_) (fun H5 hu p5 k5 h5 => q_end (hu _ _ ⟨G3, rfl, ?_⟩))
        · obtain ⟨G5, rfl, hO5⟩ := hJ
          refine q_ifB st (fun σ' J => ∃ G6, σ' = [some (.str z), some (.ref D), some (.int (start : Nat)), some (.int (j : Nat))] ∧ LcO (SP0 G H) G1 H1 0 D IsRwk (tkAt L (j + 1)).1 G6 J) hO5.s.s (et_testV (ev_opV (ch rfl rfl) ev_c (v_neS st))) (fun σ' J hJ => ?_) (fun H6 hu p6 k6 h6 => ?_) (fun H6 hu p6 k6 h6 => q_end (hu _ _ ⟨G5, rfl, ?_⟩))
          · obtain ⟨G6, rfl, hO6⟩ := hJ
            refine q_setV st hO6.s.s (x := .int ((j + 1 : Nat) : Int)) (ev_eq (congrArg V.int (by omega)) (ev_opV (ev_var rfl) ev_c (v_add st))) fun J7 k7 h7 => q_end (q_end ⟨G6, _, j + 1, rfl, LcO.go st s1.s hD hO6 (Stp.go0 k7 h7), hI.cut hc hcu⟩)
          · rw [e32, one] at p6
            have c32 : ¬ c = 32 := by simpa using p6
            have hO6 := LcO.go st s1.s hD hO5 (Stp.go0 k6 h6)
            refine q_appO (x := ((⟨#[c]⟩ : Str), j)) (k := 0) st s1.s hD hO6 (by rw [List.length_append]; split <;> simp <;> omega) rfl (rowE (ch rfl rfl) (ev_var rfl)) fun G7 J7 s7 hO7 => q_end (hu _ _ ⟨G7, rfl, ?_⟩)
            rw [eT, if_neg c32]
            exact hO7
          · rw [e32, one] at p6
            have c32 : c = 32 := by simpa using p6
            rw [eT, if_pos c32, List.append_nil]
            exact LcO.go st s1.s hD hO5 (Stp.go0 k6 h6)
        · have hlt : start < j := by
            have := of_decide_eq_true p5.symm
            omega
          have ne : ¬ (tkAt L j).2.1 = "" := fun z => by
            have := eS.mp z
            omega
          have hO5 := LcO.go st s1.s hD hO4 (Stp.go0 k5 h5)
          have hb := hI.b hlt
          have hw := hI.w
          rw [← hL] at hb hw
          refine q_appO (x := ((tkAt L j).2.1, (tkAt L j).2.2)) (k := 0) st s1.s hD hO5 (by omega) rfl (rowE (sl_ hI.h (Nat.le_of_lt hj) hw rfl rfl rfl) (by rw [hb]; exact ev_var rfl)) fun G7 J7 s7 hO7 => q_end (hu _ _ ⟨G7, rfl, ?_⟩)
          rw [if_neg ne]
          exact hO7
        · have hlt : start = j := by
            have := of_decide_eq_false p5.symm
            have := hI.h
            omega
          rw [if_pos (eS.mpr hlt), List.append_nil]
          exact LcO.go st s1.s hD hO4 (Stp.go0 k5 h5)
      · have hcu : cuC c = false := p4.symm
        obtain ⟨a1, a2⟩ := hI.go hc hcu
        rw [← hL] at a2
        refine ⟨G3, _, start, rfl, ?_, a1⟩
        rw [a2]
        exact LcO.go st s1.s hD hO3 (Stp.go0 k4 h4)
    · obtain ⟨G3, y, start, rfl, hO3, hI⟩ := hp
      rw [Int.toNat_natCast] at hO3 hI
      have eS := hI.e (Nat.le_refl _)
      have eF := toks_fin z
      rw [← hL] at eS eF
      have b1 := (tkAt_len L z.length).1
      have b1 : (tkAt L z.length).1.length ≤ z.length := by omega
      refine q_ifB st (fun σ' J => ∃ G5 y, σ' = [some (.str z), some (.ref D), some (.int (start : Nat)), y] ∧ LcO (SP0 G H) G1 H1 0 D IsRwk ((tkAt L z.length).1 ++ (if (tkAt L z.length).2.1 = "" then [] else [((tkAt L z.length).2.1, (tkAt L z.length).2.2)])) G5 J) hO3.s.s (et_testV (ev_opV (ev_var rfl) (ev_cbV (ea_consV (ev_var rfl) ea_nilV) (c_lenS st (by omega))) (v_lt st))) (fun σ' J hJ => ?_) (fun H5 hu p5 k5 h5 => ?_) (fun H5 hu p5 k5 h5 => q_end (hu _ _ ⟨G3, y, rfl, ?_⟩))
      · obtain ⟨G5, y, rfl, hO5⟩ := hJ
        obtain ⟨G9, s9, s89, p9, xs, ep, f9, g9, r9⟩ := LcO.pub st s1.s (Nat.le_refl 0) hD hO5
        obtain rfl := V.ref.inj ep
        have lx := rl_len r9
        have lx2 : xs.length ≤ z.length + 1 := by
          rw [lx, List.length_append]
          split <;> simp <;> omega
        refine q_ret (R := IsNX G9 (RL IsRwk (toksP z))) s9.s (ev_op (ka := 0) (kb := 0) (Ra := IsV (.ref D)) (Rb := IsNX G9 (RL IsRwk [(("" : Str), z.length)])) (ev_var rfl) (ev_lstXN st (rowE ev_c (ev_cbV (ea_consV (ev_var rfl) ea_nilV) (c_lenS st (by omega)))) fun vs G' h => by rw [rl_len h]; simp) fun x y' G' s' hx hy => ?_) fun v GA HA sA rA => ?_
        · obtain rfl := (show _ = _ from hx)
          obtain ⟨pz, xz, rfl, fz, gz, rz⟩ := hy
          have lz := rl_len rz
          refine rv_imp (v_cat st (s' _ _ g9) gz (by rw [lz]; show _ + 1 ≤ _; omega)) fun v G4 s4 ⟨w, e, f, gw⟩ => ⟨w, _, e, s'.free f, gw, ?_⟩
          rw [eF]
          exact rl_app (rl_mon (s'.trans s4) r9) (rl_mon s4 rz)
        · obtain ⟨w, xw, e, f, gw, rw_⟩ := rA
          exact q v GA HA (s9.trans sA).s ⟨w, xw, e, sF.free (s1.g.free (s9.g.free f)), gw, rw_⟩
      · have hlt : start < z.length := by
          have := of_decide_eq_true p5.symm
          omega
        have ne : ¬ (tkAt L z.length).2.1 = "" := fun z' => by
          have := eS.mp z'
          omega
        have hO5 := LcO.go st s1.s hD hO3 (Stp.go0 k5 h5)
        have hb := hI.b hlt
        have hw := hI.w
        rw [← hL] at hb hw
        refine q_appO (x := ((tkAt L z.length).2.1, (tkAt L z.length).2.2)) (k := 0) st s1.s hD hO5 (by omega) rfl (rowE ?_ (by rw [hb]; exact ev_var rfl)) fun G7 J7 s7 hO7 => q_end (hu _ _ ⟨G7, y, rfl, ?_⟩)
        · refine ev_eq (congrArg V.str (str_inj ?_)) (ev_slS (S := SP0 G H) (ka := 0) (kb := 0) (kc := 0) (ev_var rfl) (by omega) (eo_some (ev_var rfl)) eo_none)
          rw [hw, cutS_suf hI.h, List.take_of_length_le (by rw [ll]; exact Nat.le_refl _)]
        · rw [if_neg ne]
          exact hO7
      · have hlt : start = z.length := by
          have := of_decide_eq_false p5.symm
          have := hI.h
          omega
        rw [if_pos (eS.mpr hlt), List.append_nil]
        exact LcO.go st s1.s hD hO3 (Stp.go0 k5 h5)
def words13 : List Str := (["skip", "deed", "then", "either", "loop", "times", "call", "leave", "catch", "clean", "program"] : List Str) ++ (["to", "end"] : List Str)
theorem words13_mem (s : Str) : decide (s ∈ words13) = (decide (s ∈ formK) || decide (s ∈ otherK)) := by
  unfold words13 formK otherK
  simp only [List.mem_append, List.mem_cons, List.not_mem_nil, or_false, Bool.decide_or]
  generalize decide (s = "skip") = a1
  generalize decide (s = "deed") = a2
  generalize decide (s = "then") = a3
  generalize decide (s = "either") = a4
  generalize decide (s = "loop") = a5
  generalize decide (s = "times") = a6
  generalize decide (s = "call") = a7
  generalize decide (s = "leave") = a8
  generalize decide (s = "catch") = a9
  generalize decide (s = "clean") = b1
  generalize decide (s = "program") = b2
  generalize decide (s = "to") = b3
  generalize decide (s = "end") = b4
  ac_rfl
def fitB (s : Str) (c : Str) : Bool := if c = "c" then countB s else nameB s
def PFit : List V → Hp → HR → Prop := fun vs _ R => ∃ s c : Str, vs = [.str s, .str c] ∧ s.length ≤ 99000 ∧ R = IsV (.bl (fitB s c))
abbrev s__law_fits : Stmt := top 25
theorem sc__law_fits : FnScope ["_law_token", "_law_wish", "_law_words"] ["_law_token", "_law_wish"] (defScope s__law_fits) := ⟨rfl, rfl, rfl, by decide +kernel, rfl, by decide +kernel, by decide +kernel⟩
theorem ok_lfits20 {f : Addr} {fd : FuncData} (Z : Bi mg) (F : Fun K "_law_fits" "_law_fits" s__law_fits f fd) : FnOk P w K mg base CX0 1 f fd ["_law_token", "_law_wish"] (spP PFit) := by
  refine F.ok sc__law_fits (fun vs H Q E h => ?_) (fun cdv A outer s H vs Q E hr h => ?_)
  · obtain ⟨_, _, _, ⟨_, _, rfl, _⟩, _⟩ := h
    rfl
  · obtain ⟨G, R, hs, ⟨tok, c, rfl, hl, rfl⟩, q⟩ := h
    refine ⟨_, (pss_cons (ps_set (i := 2) sc__law_fits.nd rfl (Or.inl rfl) (pe_lst (pa_cons pe_str (pa_cons pe_str (pa_cons pe_str (pa_cons pe_str (pa_cons pe_str (pa_cons pe_str (pa_cons pe_str (pa_cons pe_str (pa_cons pe_str (pa_cons pe_str (pa_cons pe_str pa_nil)))))))))))))
  (pss_cons (ps_set (i := 2) sc__law_fits.nd rfl (Or.inl rfl) (pe_op op_addA (pv 2) (pe_lst (pa_cons pe_str (pa_cons pe_str pa_nil)))))
  (pss_cons (ps_if (pt_cmpR (op_eqA K hr.units) (pv 1) pe_str (nomark _)) (pss_cons (ps_ret (pe_and (pe_chain op_ltA op_ltA pe_int (pe_callB (call_lenA K) (by rfl) Z.z_len PySem.boot_len (pa_cons (pv 0) pa_nil)) pe_int) (pe_and (pe_cmpR (op_eqA K hr.units) (pe_bm PySem.F.plainAttrs_str PySem.F.slot_str_strip PySem.F.type_str_strip mt_stripC (pv 0) (pa_cons pe_str pa_nil)) pe_str (nomark _)) (pe_one (pe_or (pe_cmpR (op_neA K hr.units) (pe_ix (ix_any K (hu_of hr)) (pv 0) pe_int (fun _ _ => rfl)) pe_str (nomark _)) (pe_one (pe_cmpR (op_eqA K hr.units) (pv 0) pe_str (nomark _))))))))
  pss_nil) pss_nil)
  (pss_cons (ps_if (PW.pt (pw_or (pt_not (pt_chain op_ltA op_ltA pe_int (pe_callB (call_lenA K) (by rfl) Z.z_len PySem.boot_len (pa_cons (pv 0) pa_nil)) pe_int)) (pw_or (pt_cmpR (op_inA K (hu_of hr)) (pv 0) (pv 2) (by rfl)) (pw_or1 (pt_cmpR op_in_str (pe_ix (ix_any K (hu_of hr)) (pv 0) pe_int (fun _ _ => rfl)) pe_str (by rfl)))))) (pss_cons (ps_ret pe_bl)
  pss_nil) pss_nil)
  (pss_cons (ps_ret (pe_cmpR (op_eqA K hr.units) (pe_bm PySem.F.plainAttrs_str PySem.F.slot_str_strip PySem.F.type_str_strip mt_stripC (pv 0) (pa_cons pe_str pa_nil)) pe_str (nomark _)))
  pss_nil))))), ?_⟩
    have st := stab0 G H
    have h0 : SP0 G H 0 G H := Grow.refl hs
    have hsz : (1000000 : Nat) ≤ sizeLine := by decide
    show tSeq _ _ (Ends.mk _ _ _ _) [some _, some _, none] _
    have le : tok = "" ↔ tok.length = 0 := by
      rw [str_nil]
      exact ⟨fun e => by rw [str_len, e]; rfl, fun e => List.eq_nil_of_length_eq_zero e⟩
    have one : ∀ a b : Nat, decide ((⟨#[a]⟩ : Str) = (⟨#[b]⟩ : Str)) = decide (a = b) := fun a b => decide_eq_decide.mpr ⟨fun h => by injection h with h; simpa using h, fun h => by rw [h]⟩
    have z0 : ("0" : Str) = (⟨#[48]⟩ : Str) := by decide +kernel
    have all10 : decide (Txt.stripChars tok "0123456789" = "") = tok.cps.toList.all fgC := by
      rw [strip_e]
      congr 1
      funext c
      exact figs_mem c
    have all36 : decide (Txt.stripChars tok "abcdefghijklmnopqrstuvwxyz0123456789" = "") = tok.cps.toList.all fun c => smC c || fgC c := by
      rw [strip_e]
      congr 1
      funext c
      exact signs_mem c
    have len_ : ∀ {n : Nat} {σ : L2.St} {G' : Hp}, σ[0]? = some (some (.str tok)) → Ev (SP0 G H) n 0 (tCB (rLenA K) (tCons (tVar 0) tNil)) σ G' (IsV (.int (tok.length : Nat))) := fun e => ev_cbV (ea_consV (ev_var e) ea_nilV) (c_lenS st (by omega))
    have fst_ : ∀ {n : Nat} {σ : L2.St} {G' : Hp}, ¬ tok = "" → σ[0]? = some (some (.str tok)) → Ev (SP0 G H) n 0 (tOp (rIxA K) (tVar 0) (tC (.int 0))) σ G' (IsV (.str ⟨#[c0 tok]⟩)) := fun hn e => ev_opV (ev_var e) ev_c (v_ixS st (by omega) (at0 hn))
    refine q_set h0 (ev_lstN st (ea_consV ev_c (ea_consV ev_c (ea_consV ev_c (ea_consV ev_c (ea_consV ev_c (ea_consV ev_c (ea_consV ev_c (ea_consV ev_c (ea_consV ev_c (ea_consV ev_c (ea_consV ev_c ea_nilV))))))))))) (by simp)) fun v2 G2 H2 s2 r2 => ?_
    obtain ⟨p2, rfl, _, g2⟩ := r2
    refine q_set s2.s (ev_op (ka := 0) (kb := 0) (Ra := IsV (.ref p2)) (Rb := IsNew G2 (.lst [.str "to", .str "end"])) (R := IsNew G2 (.lst (words13.map V.str))) (ev_var rfl) (ev_lstN st (ea_consV ev_c (ea_consV ev_c ea_nilV)) (by simp)) fun x y G' s' hx hy => ?_) fun v3 G3 H3 s3 r3 => ?_
    · obtain rfl := (show _ = _ from hx)
      obtain ⟨p, rfl, _, gp⟩ := hy
      exact rv_imp (v_cat st (s' _ _ g2) gp (by simp)) fun v G4 s4 ⟨z, e, f, gz⟩ => ⟨z, e, s'.free f, gz⟩
    obtain ⟨p3, rfl, _, g3⟩ := r3
    show tSeq _ _ (Ends.mk _ _ _ _) [some (.str tok), some (.str c), some (.ref p3)] _
    refine q_if st s3.s (et_testV (ev_opV (ev_var rfl) ev_c (v_eqS st))) (fun H4 p4 k4 h4 => ?_) (fun H4 p4 k4 h4 => q_end ?_)
    · have hc : c = "c" := of_decide_eq_true p4.symm
      refine q_retV st h4 (ev_andV st (ev_chain st ev_c (len_ rfl) (v_lt st) ev_c (v_lt st)) fun ha => ev_andV (ka := 0) (kb := 0) st (ev_opV (ev_strip st (ev_var rfl) (ea_consV ev_c ea_nilV) (by omega)) ev_c (v_eqS st)) fun _ => ev_orV (ka := 0) (kb := 0) st (ev_opV (fst_ (fun z => ?_) rfl) ev_c (v_neS st)) fun _ => ev_opV (ev_var rfl) ev_c (v_eqS st)) fun H5 k5 h5 => q _ _ _ h5 ?_
      · rw [le.mp z] at ha
        exact absurd ha (by decide)
      · rw [all10, z0, one]
        unfold fitB countB
        rw [if_pos hc]
        refine congrArg V.bl ?_
        rw [← z0]
        by_cases l0 : tok = ""
        · have e := le.mp l0
          rw [decide_eq_true l0, e]
          rfl
        · have e : tok.length ≠ 0 := fun z => l0 (le.mpr z)
          rw [decide_eq_false l0, decide_eq_true (show (0 : Int) < (tok.length : Nat) by omega)]
          by_cases l6 : 60 < tok.length
          · rw [decide_eq_true l6, decide_eq_false (show ¬ ((tok.length : Nat) : Int) < 61 by omega)]
            rfl
          · rw [decide_eq_false l6, decide_eq_true (show ((tok.length : Nat) : Int) < 61 by omega)]
            cases decide (c0 tok = 48) <;> cases decide (tok = "0") <;> cases tok.cps.toList.all fgC <;> rfl
    · have hc : ¬ c = "c" := of_decide_eq_false p4.symm
      have fB : fitB tok c = nameB tok := by unfold fitB; rw [if_neg hc]
      refine q_if (P := fun b => b = ((!(decide ((0 : Int) < (tok.length : Nat)) && decide (((tok.length : Nat) : Int) < 13))) || (decide (tok ∈ words13) || fgC (c0 tok)))) st h4 (et_or (ka := 0) (kb := 0) st (et_not (et_B (ev_chain st ev_c (len_ rfl) (v_lt st) ev_c (v_lt st)))) fun ha => et_or (ka := 0) (kb := 0) st ((et_testV (ev_opV (ev_var rfl) (ev_var rfl) (v_inL (neg := false) st (SqL.of g3) rfl (by rw [List.all_map]; exact List.all_eq_true.mpr fun _ _ => rfl)))).imp fun b h => by rw [h]; exact inV_strs) fun _ => (et_testV (ev_opV (fst_ (fun z => ?_) rfl) ev_c (v_inS st))).imp fun b h => by rw [h, StrLaws.found_one]; exact figs_mem _) (fun H5 p5 k5 h5 => ?_) (fun H5 p5 k5 h5 => q_end ?_)
      · rw [le.mp z] at ha
        exact absurd ha (by decide)
      · refine q_retV st h5 ev_c fun H6 k6 h6 => q _ _ _ h6 ?_
        rw [fB]
        refine congrArg V.bl ?_
        rw [words13_mem] at p5
        unfold nameB
        by_cases l0 : tok = ""
        · rw [decide_eq_true l0]
          rfl
        · have e : tok.length ≠ 0 := fun z => l0 (le.mpr z)
          rw [decide_eq_true (show (0 : Int) < (tok.length : Nat) by omega)] at p5
          by_cases l12 : 12 < tok.length
          · rw [decide_eq_true l12]
            cases decide (tok = "") <;> rfl
          · rw [decide_eq_true (show ((tok.length : Nat) : Int) < 13 by omega)] at p5
            have p5 : ((decide (tok ∈ formK) || decide (tok ∈ otherK)) || fgC (c0 tok)) = true := p5.symm
            rw [decide_eq_false l0, decide_eq_false l12]
            revert p5
            cases decide (tok ∈ formK) <;> cases decide (tok ∈ otherK) <;> cases fgC (c0 tok) <;> simp
      · refine q_retV st h5 (ev_opV (ev_strip st (ev_var rfl) (ea_consV ev_c ea_nilV) (by omega)) ev_c (v_eqS st)) fun H6 k6 h6 => q _ _ _ h6 ?_
        rw [fB, all36]
        refine congrArg V.bl ?_
        rw [words13_mem] at p5
        unfold nameB
        by_cases l0 : tok = ""
        · rw [le.mp l0] at p5
          exact absurd p5 (by simp)
        · have e : tok.length ≠ 0 := fun z => l0 (le.mpr z)
          by_cases l12 : 12 < tok.length
          · rw [decide_eq_false (show ¬ ((tok.length : Nat) : Int) < 13 by omega)] at p5
            exact absurd p5 (by simp)
          · rw [decide_eq_true (show (0 : Int) < (tok.length : Nat) by omega), decide_eq_true (show ((tok.length : Nat) : Int) < 13 by omega)] at p5
            have p5 : ((decide (tok ∈ formK) || decide (tok ∈ otherK)) || fgC (c0 tok)) = false := p5.symm
            rw [decide_eq_false l0, decide_eq_false l12]
            revert p5
            cases decide (tok ∈ formK) <;> cases decide (tok ∈ otherK) <;> cases fgC (c0 tok) <;> simp
def wishC : Wi → Nat
  | .term => 116
  | .name => 110
  | .count => 99
  | .form => 0
  | .close => 0
  | .opn => 0
  | .prc => 0
  | .prcs => 0
  | .wd _ => 0
  | .bld _ _ => 0
def formS (s : Str) : Str := ⟨((fieldsW s).map wishC).toArray⟩
def formKV : List (Key × V) := [(.inr "deed", .str "n"), (.inr "call", .str "n"), (.inr "leave", .str "n"), (.inr "loop", .str "t"), (.inr "times", .str "ct"), (.inr "then", .str "tt"), (.inr "either", .str "tt"), (.inr "clean", .str "tt"), (.inr "catch", .str "ntt")]
theorem formKV_merge : mergeK [] formKV = formKV := by decide +kernel
theorem formKV_in : ∀ w ∈ formK, valV formKV (.inr w) = some (.str (formS w)) := by decide +kernel
theorem formKV_keys : formKV.map (·.1) = formK.map Sum.inr := by rfl
theorem valV_keys {kvs : List (Key × V)} {k : Key} (h : k ∉ kvs.map (·.1)) : valV kvs k = none := by
  induction kvs with
  | nil => rfl
  | cons p r ih =>
    rw [List.map_cons, List.mem_cons, not_or] at h
    rw [valV_neg (fun z => h.1 z.symm)]
    exact ih h.2
theorem formKV_out {w : Str} (h : w ∉ formK) : valV formKV (.inr w) = none := valV_keys (by
  rw [formKV_keys]
  intro z
  obtain ⟨x, hx, e⟩ := List.mem_map.mp z
  obtain rfl := Sum.inr.inj e
  exact h hx)
theorem formKV_some (w : Str) : (valV formKV (.inr w)).isSome = decide (w ∈ formK) := by
  by_cases h : w ∈ formK
  · rw [formKV_in w h, decide_eq_true h]
    rfl
  · rw [formKV_out h, decide_eq_false h]
    rfl
def IsOD : Option PyData → HR
  | none => IsV .non
  | some d => IsDt d
instance (o : Option PyData) : Mon (IsOD o) := match o with
  | none => (inferInstance : Mon (IsV .non))
  | some d => (inferInstance : Mon (IsDt d))
def IsRes (z : Option PyData × Nat) : HR := fun v G => ∃ a x, v = .ref a ∧ G a = some (.lst [x, .int (z.2 : Nat)]) ∧ IsOD z.1 x G
instance (z) : Mon (IsRes z) := ⟨fun s ⟨a, x, e, h, r⟩ => ⟨a, x, e, s _ _ h, Mon.mon s r⟩⟩
def PLrd (f : Nat) : List V → Hp → HR → Prop := fun vs G R => ∃ (p : Addr) (xs : List V) (Lp : List (Str × Nat)) (at_ : Nat), vs = [.ref p, .int (at_ : Nat), .int (40 - (f : Nat))] ∧ TokAt p xs Lp G ∧ at_ < Lp.length ∧ Lp.length ≤ 99000 ∧ f ≤ 40 ∧ R = IsRes (rdT f (Lp.map (·.1)) at_)
theorem rdT_lt {Lp : List (Str × Nat)} (hL : TkL Lp) {f p : Nat} (hf : f ≤ 40) (hp : p < Lp.length) : (rdT f (Lp.map (·.1)) p).2 < Lp.length := by
  have h := rdT_ok hL f (oc := 40 - (f : Nat)) (by omega) p [.term] [] [] [] hp rfl
  cases e : (rdT f (Lp.map (·.1)) p).1 with
  | none => exact (h.1 e).1
  | some d => exact (h.2 d e).2.1
theorem rdT_skip {f : Nat} {L : List Str} {p : Nat} (h : L.getD p "" = "skip") : rdT f L p = (some skipD, p + 1) := by
  cases f with
  | zero => exact if_pos h
  | succ f => exact if_pos h
theorem rdT_no {f : Nat} {L : List Str} {p : Nat} (h : ¬ L.getD p "" = "skip") (h2 : ¬ L.getD p "" = "(" ∨ f = 0) : rdT f L p = (none, p) := by
  cases f with
  | zero => exact if_neg h
  | succ f =>
    refine (if_neg h).trans (if_neg ?_)
    rcases h2 with h2 | h2
    · exact h2
    · cases h2
theorem rdT_nof {f : Nat} {L : List Str} {p : Nat} (h : ¬ L.getD p "" = "skip") (h2 : L.getD p "" = "(") (h3 : ¬ L.getD (p + 1) "" ∈ formK) : rdT (f + 1) L p = (none, p + 1) := (if_neg h).trans ((if_pos h2).trans (if_neg h3))
theorem rdT_form {f : Nat} {L : List Str} {p : Nat} (h : ¬ L.getD p "" = "skip") (h2 : L.getD p "" = "(") (h3 : L.getD (p + 1) "" ∈ formK) {z : Option (List PyData) × Nat} (hz : rdF (rdT f L) L (fieldsW (L.getD (p + 1) "")) [.str (L.getD (p + 1) "")] (p + 2) = z) : rdT (f + 1) L p = (match z.1 with
    | none => (none, z.2)
    | some fs => if L.getD z.2 "" = ")" then (some (.tuple fs), z.2 + 1) else (none, z.2)) := by
  subst hz
  exact (if_neg h).trans ((if_pos h2).trans (if_pos h3))
theorem rdF_cons {rd : Nat → Option PyData × Nat} {L : List Str} {w : Wi} {r : List Wi} {acc : List PyData} {p : Nat} : rdF rd L (w :: r) acc p = (match (rdW rd L w p).1 with
    | none => (none, (rdW rd L w p).2)
    | some d => rdF rd L r (acc ++ [d]) (rdW rd L w p).2) := rfl
abbrev s__law_read : Stmt := top 26
theorem sc__law_read : FnScope ["_law_tokens_here", "_law_at", "_law_depth", "_law_token", "_law_forms", "_law_word", "_law_fields", "_law_place", "_law_wish", "_law_found"] ["_law_tokens_here", "_law_at", "_law_depth"] (defScope s__law_read) := ⟨rfl, rfl, rfl, by decide +kernel, rfl, by decide +kernel, by decide +kernel⟩
theorem ok_lread_step {spT : Sp} {m kk : Nat} {f : Addr} {fd : FuncData} (Z : Bi mg) (c__law_fits : Callee P w K mg base "_law_fits" CX0 1 ["_law_token", "_law_wish"] [] (spP PFit)) (c__law_read : Callee P w K mg base "_law_read" CX0 kk ["_law_tokens_here", "_law_at", "_law_depth"] [] spT) (hT : m = 0 ∨ ∃ m', m = m' + 1 ∧ spT = spP (PLrd m')) (hkk : kk ≤ 1 + m) (hm : m ≤ 40)
    (F : Fun K "_law_read" "_law_read" s__law_read f fd) : FnOk P w K mg base CX0 (1 + m + 1) f fd ["_law_tokens_here", "_law_at", "_law_depth"] (spP (PLrd m)) := by
  refine F.ok sc__law_read (fun vs H Q E h => ?_) (fun cdv A outer s H vs Q E hr h => ?_)
  · obtain ⟨_, _, _, ⟨_, _, _, _, rfl, _⟩, _⟩ := h
    rfl
  · obtain ⟨G, R, hs, ⟨p, xs, Lp, at_, rfl, hT0, ha, l9, _, rfl⟩, q⟩ := h
    have hr1 : Room (1 + m) (A.deeper (envOfC "_law_read" (defScope s__law_read) s.heap.objs.size f cdv)) := hr
    refine ⟨_, (pss_cons (ps_set (i := 3) sc__law_read.nd rfl (Or.inl rfl) (pe_ix (ix_any K (hu_of hr)) (pe_ix (ix_any K (hu_of hr)) (pv 0) (pv 1) (fun _ _ => rfl)) pe_int (fun _ _ => rfl)))
  (pss_cons (ps_if (pt_cmpR (op_eqA K hr.units) (pv 3) pe_str (nomark _)) (pss_cons (ps_ret (pe_lst (pa_cons (pe_tup (pa_cons pe_str pa_nil)) (pa_cons (pe_op op_addA (pv 1) pe_int) pa_nil))))
  pss_nil) pss_nil)
  (pss_cons (ps_if (PW.pt (pw_or (pt_cmpR (op_neA K hr.units) (pv 3) pe_str (nomark _)) (pw_or1 (pt_cmpR (op_eqA K hr.units) (pv 2) pe_int (nomark _))))) (pss_cons (ps_ret (pe_lst (pa_cons pe_non (pa_cons (pv 1) pa_nil))))
  pss_nil) pss_nil)
  (pss_cons (ps_set (i := 4) sc__law_read.nd rfl (Or.inl rfl) (pe_disp (pps_cons pe_str pe_str (pps_cons pe_str pe_str (pps_cons pe_str pe_str (pps_cons pe_str pe_str (pps_cons pe_str pe_str (pps_cons pe_str pe_str (pps_cons pe_str pe_str (pps_cons pe_str pe_str (pps_cons pe_str pe_str pps_nil))))))))) (by rfl) (by rfl) (fun z => by cases z) (by decide)))
  (pss_cons (ps_set (i := 5) sc__law_read.nd rfl (Or.inl rfl) (pe_ix (ix_any K (hu_of hr)) (pe_ix (ix_any K (hu_of hr)) (pv 0) (pe_op op_addA (pv 1) pe_int) (fun _ _ => rfl)) pe_int (fun _ _ => rfl)))
  (pss_cons (ps_if (pt_cmpR (op_ninA K (hu_of hr)) (pv 5) (pv 4) (by rfl)) (pss_cons (ps_ret (pe_lst (pa_cons pe_non (pa_cons (pe_op op_addA (pv 1) pe_int) pa_nil))))
  pss_nil) pss_nil)
  (pss_cons (ps_set (i := 6) sc__law_read.nd rfl (Or.inl rfl) (pe_lst (pa_cons (pv 5) pa_nil)))
  (pss_cons (ps_set (i := 7) sc__law_read.nd rfl (Or.inl rfl) (pe_op op_addA (pv 1) pe_int))
  (pss_cons (ps_for PassesOwn.never rfl (pi_str (pe_ix (ix_any K (hu_of hr)) (pv 4) (pv 5) (fun _ _ => rfl))) (pg_name (i := 8) sc__law_read.nd rfl (Or.inl rfl)) (pss_cons (ps_if (pt_cmpR (op_eqA K hr.units) (pv 8) pe_str (nomark _)) (pss_cons (ps_set (i := 9) sc__law_read.nd rfl (Or.inl rfl) (pe_callC c__law_read (hr1.mono (by omega)) pass0 (pa_cons (pv 0) (pa_cons (pv 7) (pa_cons (pe_op op_addA (pv 2) pe_int) pa_nil)))))
  (pss_cons (ps_if (pt_cmpR op_isN (pe_ix (ix_any K (hu_of hr)) (pv 9) pe_int (fun _ _ => rfl)) pe_non (nomark _)) (pss_cons (ps_ret (pv 9))
  pss_nil) pss_nil)
  (pss_cons (ps_expr (pe_bm PySem.F.plainAttrs_list PySem.F.slot_list_append PySem.F.type_list_append mt_append (pv 6) (pa_cons (pe_ix (ix_any K (hu_of hr)) (pv 9) pe_int (fun _ _ => rfl)) pa_nil)))
  (pss_cons (ps_set (i := 7) sc__law_read.nd rfl (Or.inl rfl) (pe_ix (ix_any K (hu_of hr)) (pv 9) pe_int (fun _ _ => rfl)))
  pss_nil)))) (pss_cons (ps_if (pt_val (pe_callC c__law_fits (hr1.mono (by omega)) pass0 (pa_cons (pe_ix (ix_any K (hu_of hr)) (pe_ix (ix_any K (hu_of hr)) (pv 0) (pv 7) (fun _ _ => rfl)) pe_int (fun _ _ => rfl)) (pa_cons (pv 8) pa_nil)))) (pss_cons (ps_expr (pe_bm PySem.F.plainAttrs_list PySem.F.slot_list_append PySem.F.type_list_append mt_append (pv 6) (pa_cons (pe_ifExp (pt_cmpR (op_eqA K hr.units) (pv 8) pe_str (nomark _)) (pe_ix (ix_any K (hu_of hr)) (pe_ix (ix_any K (hu_of hr)) (pv 0) (pv 7) (fun _ _ => rfl)) pe_int (fun _ _ => rfl)) (pe_callTy call_intSt (by rfl) Z.z_int (by decide +kernel) (pa_cons (pe_ix (ix_any K (hu_of hr)) (pe_ix (ix_any K (hu_of hr)) (pv 0) (pv 7) (fun _ _ => rfl)) pe_int (fun _ _ => rfl)) pa_nil))) pa_nil)))
  (pss_cons (ps_aug (i := 7) sc__law_read.nd rfl (Or.inl rfl) pe_int ip_add)
  pss_nil)) (pss_cons (ps_ret (pe_lst (pa_cons pe_non (pa_cons (pv 7) pa_nil))))
  pss_nil))
  pss_nil))
  pss_nil))
  (pss_cons (ps_ret (pe_ifExp (pt_cmpR (op_eqA K hr.units) (pe_ix (ix_any K (hu_of hr)) (pe_ix (ix_any K (hu_of hr)) (pv 0) (pv 7) (fun _ _ => rfl)) pe_int (fun _ _ => rfl)) pe_str (nomark _)) (pe_lst (pa_cons (pe_callTy (call_tupleA K) (by rfl) Z.z_tuple (by decide +kernel) (pa_cons (pv 6) pa_nil)) (pa_cons (pe_op op_addA (pv 7) pe_int) pa_nil))) (pe_lst (pa_cons pe_non (pa_cons (pv 7) pa_nil)))))
  pss_nil)))))))))), ?_⟩
    have st := stab0 G H
    have h0 : SP0 G H 0 G H := Grow.refl hs
    obtain ⟨L, hL⟩ : ∃ L, L = Lp.map (·.1) := ⟨_, rfl⟩
    have eA : ∀ i, L.getD i "" = tkA Lp i := fun i => by rw [hL]; rfl
    rw [← hL] at q
    have res : ∀ {n : Nat} {ta tb : TE} {σ : L2.St} {G' : Hp} {o : Option PyData} {k : Nat}, Ev (SP0 G H) n 0 ta σ G' (IsOD o) → Ev (SP0 G H) n 0 tb σ G' (IsV (.int (k : Nat))) → Ev (SP0 G H) n 0 (tLst (tCons ta (tCons tb tNil))) σ G' (IsRes (o, k)) := fun {n ta tb σ G' o k} h1 h2 => (ev_lstXN st (ea_cons (ka := 0) (kb := 0) h1 (ea_cons (ka := 0) (kb := 0) h2 ea_nil)) rc2_len).imp fun v G2 s2 ⟨a, ys, e, _, g, u1, u2, e1, i1, u3, u4, e3, i3, i4⟩ => by
      subst e1 e3
      obtain rfl := (show u3 = _ from i3)
      obtain rfl := (show u4 = [] from i4)
      exact ⟨a, u1, e, g, i1⟩
    show tSeq _ _ (Ends.mk _ _ _ _) [some _, some _, some _, none, none, none, none, none, none, none] _
    refine q_setV st h0 (ev_tok0 (ka := 0) (kb := 0) st hT0 ha (ev_var rfl) (ev_var rfl)) fun H1 k1 h1 => ?_
    refine q_if st h1 (et_testV (ev_opV (ev_var rfl) ev_c (v_eqS st))) (fun H2 p2 k2 h2 => ?_) (fun H2 p2 k2 h2 => q_end ?_)
    · have e2 := of_decide_eq_true p2.symm
      rw [rdT_skip (f := m) ((eA at_).trans e2)] at q
      exact q_ret h2 (res (o := some skipD) (k := at_ + 1) (ev_tq st (ea_cons (ka := 0) (kb := 0) (R := IsDt (.str "skip")) (RA := IsDts []) ev_c ea_nil) rc1_len) (ev_eq (congrArg V.int (by omega)) (ev_opV (ka := 0) (kb := 0) (ev_var rfl) ev_c (v_add st)))) fun v G3 H3 s3 r3 => q v G3 H3 s3.s r3
    have n1 : ¬ L.getD at_ "" = "skip" := by rw [eA]; exact of_decide_eq_false p2.symm
    refine q_if st h2 (et_or (ka := 0) (kb := 0) (b := decide (m = 0)) st (et_testV (ev_opV (ev_var rfl) ev_c (v_neS st))) fun _ => (et_testV (ev_opV (ev_var rfl) ev_c (v_eqI st))).imp fun c h => by rw [h]; exact decide_eq_decide.mpr (by omega)) (fun H3 p3 k3 h3 => ?_) (fun H3 p3 k3 h3 => q_end ?_)
    · rw [rdT_no (f := m) n1 (by
        rw [eA]
        rcases Bool.or_eq_true_iff.mp p3.symm with z | z
        · exact .inl (by simpa using z)
        · exact .inr (of_decide_eq_true z))] at q
      exact q_ret h3 (res (o := none) (k := at_) ev_c (ev_var rfl)) fun v G4 H4 s4 r4 => q v G4 H4 s4.s r4
    obtain ⟨z1, z2⟩ := Bool.or_eq_false_iff.mp p3.symm
    have op : tkA Lp at_ = "(" := by simpa using z1
    have n2 : L.getD at_ "" = "(" := (eA at_).trans op
    rcases hT with hT | ⟨f', rfl, rfl⟩
    · rw [hT] at z2
      cases z2
    have ha1 : at_ + 1 < Lp.length := hT0.t.next ha (by rw [op]; decide +kernel)
    refine q_set h3 (ev_dispC st formKV (fun σ H Q h => h) (by decide)) fun v4 G4 H4 s4 r4 => ?_
    obtain ⟨pF, rfl, _, gF⟩ := r4
    rw [formKV_merge] at gF
    have T4 := hT0.mono s4.g
    refine q_setV st s4.s (ev_tok0 (ka := 0) (kb := 0) (i := at_ + 1) st T4 ha1 (ev_var rfl) (ev_eq (congrArg V.int (by omega)) (ev_opV (ka := 0) (kb := 0) (ev_var rfl) ev_c (v_add st)))) fun H5 k5 h5 => ?_
    obtain ⟨wd, hwd⟩ : ∃ wd, wd = tkA Lp (at_ + 1) := ⟨_, rfl⟩
    rw [← hwd]
    have ewd : L.getD (at_ + 1) "" = wd := by rw [eA, hwd]
    refine q_if st h5 (P := fun c => c = !decide (wd ∈ formK)) ((et_testV (ev_opV (ev_var rfl) (ev_var rfl) (v_inD (key := .inr wd) (neg := true) st gF))).imp fun c h => by rw [h]; show (!(valV formKV (.inr wd)).isSome) = _; rw [formKV_some]) (fun H6 p6 k6 h6 => ?_) (fun H6 p6 k6 h6 => q_end ?_)
    · rw [rdT_nof (f := f') n1 n2 (by rw [ewd]; simpa using p6)] at q
      exact q_ret h6 (res (o := none) (k := at_ + 1) ev_c (ev_eq (congrArg V.int (by omega)) (ev_opV (ka := 0) (kb := 0) (ev_var rfl) ev_c (v_add st)))) fun v G7 H7 s7 r7 => q v G7 H7 s7.s r7
    have hw : wd ∈ formK := by simpa using p6
    have hwL : L.getD (at_ + 1) "" ∈ formK := by rw [ewd]; exact hw
    have ha2 : at_ + 2 < Lp.length := hT0.t.next ha1 (by rw [← hwd]; exact (kw_plain wd hw).e)
    obtain ⟨z0, hz0⟩ : ∃ z0, rdF (rdT f' L) L (fieldsW wd) [.str wd] (at_ + 2) = z0 := ⟨_, rfl⟩
    have rT := rdT_form (f := f') n1 n2 hwL (z := z0) (by rw [ewd]; exact hz0)
    rw [rT] at q
    refine q_newX (R := fun d : PyData => IsDt d) (ss := [.str wd]) st h6 (ea_cons (ka := 0) (kb := 0) (R := IsDt (.str wd)) (RA := RNil) (ev_var rfl) ea_nil) (by simp) fun D G7 H7 J7 s7 hD hQ => ?_
    obtain ⟨G8, hO⟩ := hQ.o
    refine q_setV st hO.s.s (x := .int ((at_ + 2 : Nat) : Int)) (ev_eq (congrArg V.int (by omega)) (ev_opV (ka := 0) (kb := 0) (ev_var rfl) ev_c (v_add st))) fun J8 k8 h8 => ?_
    have hO8 := LcO.go st s7.s hD hO (Stp.go0 k8 h8)
    have G48 := s7.g.trans hO.s.g
    have T8 := T4.mono G48
    have fl := fields_len wd
    have fk := fields_kinds wd
    have fsz : (formS wd).cps.size = (fieldsW wd).length := by
      show ((fieldsW wd).map wishC).toArray.size = _
      simp
    show tSeq _ _ (Ends.mk _ _ _ _) [some (.ref p), some (.int (at_ : Nat)), some (.int (40 - ((f' + 1 : Nat) : Int))), some (.str (tkA Lp at_)), some (.ref pF), some (.str wd), some (.ref D), some (.int ((at_ + 2 : Nat) : Int)), none, none] _
    have one : ∀ a b : Nat, decide ((⟨#[a]⟩ : Str) = (⟨#[b]⟩ : Str)) = decide (a = b) := fun a b => decide_eq_decide.mpr ⟨fun h => by injection h with h; simpa using h, fun h => by rw [h]⟩
    have lt_ : ("t" : Str) = (⟨#[116]⟩ : Str) ∧ ("n" : Str) = (⟨#[110]⟩ : Str) ∧ ("c" : Str) = (⟨#[99]⟩ : Str) := by decide +kernel
    refine q_forS (i := 8) (z := formS wd) st hO8.s.s (ev_opV (ka := 0) (kb := 0) (ev_var rfl) (ev_var rfl) (v_ixDs st (G48 _ _ gF) (formKV_in wd hw))) (fun l σ' J => ∃ G9 fs pl y8 y9, σ' = [some (.ref p), some (.int (at_ : Nat)), some (.int (40 - ((f' + 1 : Nat) : Int))), some (.str (tkA Lp at_)), some (.ref pF), some (.str wd), some (.ref D), some (.int (pl : Nat)), y8, y9] ∧ LcO (SP0 G H) G7 H7 0 D (fun d : PyData => IsDt d) fs G9 J ∧ Same G8 G9 ∧ pl < Lp.length ∧ fs.length ≤ 1 + l ∧ rdF (rdT f' L) L ((fieldsW wd).drop l) fs pl = z0) (fun G' H' s' => ⟨G', [.str wd], at_ + 2, none, none, rfl, LcO.go st s7.s hD hO8 s', s'.g, ha2, Nat.le_refl _, hz0⟩) (fun l c σ' J hc hp => ?_) (fun σ' J hp => ?_)
    · obtain ⟨G9, fs, pl, y8, y9, rfl, hO9, sG, hpl, hfs, ez⟩ := hp
      have hl : l < (fieldsW wd).length := by
        have := (Array.getElem?_eq_some_iff.mp hc).1
        rw [← fsz]
        exact this
      obtain ⟨wi, hwi⟩ : ∃ wi, wi = (fieldsW wd)[l] := ⟨_, rfl⟩
      have hcw : c = wishC wi := by
        have : ((fieldsW wd).map wishC).toArray[l]? = some c := hc
        rw [List.getElem?_toArray, List.getElem?_map, List.getElem?_eq_getElem hl] at this
        rw [hwi]
        exact (Option.some.inj this).symm
      have hk : wi = .term ∨ wi = .name ∨ wi = .count := by
        rw [hwi]
        exact fk _ (List.getElem_mem hl)
      rw [List.drop_eq_getElem_cons hl, ← hwi, rdF_cons] at ez
      have T9 := T8.mono sG
      show tSeq _ _ (Ends.mk _ _ _ _) [some (.ref p), some (.int (at_ : Nat)), some (.int (40 - ((f' + 1 : Nat) : Int))), some (.str (tkA Lp at_)), some (.ref pF), some (.str wd), some (.ref D), some (.int (pl : Nat)), some (.str ⟨#[c]⟩), y9] _
      refine q_if st hO9.s.s (et_testV (ev_opV (ev_var rfl) ev_c (v_eqS st))) (fun HA pA kA hA => ?_) (fun HA pA kA hA => ?_)
      · rw [lt_.1, one] at pA
        have c116 : c = 116 := of_decide_eq_true pA.symm
        obtain rfl : wi = .term := by
          rcases hk with e | e | e
          · exact e
          · rw [hcw, e] at c116
            cases c116
          · rw [hcw, e] at c116
            cases c116
        have ez : (match (rdT f' L pl).1 with
          | none => (none, (rdT f' L pl).2)
          | some d => rdF (rdT f' L) L ((fieldsW wd).drop (l + 1)) (fs ++ [d]) (rdT f' L pl).2) = z0 := ez
        have hOA := LcO.go st s7.s hD hO9 (Stp.go0 kA hA)
        refine q_set hOA.s.s (ev_call (k := 0) (R := IsRes (rdT f' L pl)) st (ea_consV (ka := 0) (kb := 0) (ev_var rfl) (ea_consV (ka := 0) (kb := 0) (ev_var rfl) (ea_consV (ka := 0) (kb := 0) (x := .int (40 - (f' : Nat))) (ev_eq (congrArg V.int (by omega)) (ev_opV (ka := 0) (kb := 0) (ev_var rfl) ev_c (v_add st))) ea_nilV))) fun vs G' s' e => ?_) fun vB GB HB sB rB => ?_
        · obtain rfl := (show vs = _ from e)
          exact ⟨p, xs, Lp, pl, rfl, T9.mono s', hpl, l9, by omega, by rw [hL]⟩
        have hq := rdT_lt hT0.t (f := f') (by omega) hpl
        rw [← hL] at hq
        generalize hzz : rdT f' L pl = zz at *
        obtain ⟨o, qp⟩ := zz
        obtain ⟨aB, xB, rfl, gB, iB⟩ := rB
        have hOB := LcO.go st s7.s hD hOA sB
        have fst_ : ∀ {n : Nat} {σ : L2.St} {G' : Hp}, Same GB G' → σ[9]? = some (some (.ref aB)) → Ev (SP0 G H) n 0 (tOp (rIxA K) (tVar 9) (tC (.int 0))) σ G' (IsV xB) := fun s' e => ev_opV (ka := 0) (kb := 0) (ev_var e) ev_c (v_ixL st (SqL.of (s' _ _ gB)) (atI_nat (j := 0) rfl))
        have snd_ : ∀ {n : Nat} {σ : L2.St} {G' : Hp}, Same GB G' → σ[9]? = some (some (.ref aB)) → Ev (SP0 G H) n 0 (tOp (rIxA K) (tVar 9) (tC (.int 1))) σ G' (IsV (.int (qp : Nat))) := fun s' e => ev_opV (ka := 0) (kb := 0) (ev_var e) ev_c (v_ixL st (SqL.of (s' _ _ gB)) (atI_nat (j := 1) rfl))
        refine q_if st hOB.s.s (P := fun b => b = o.isNone) ((et_testV (ev_opV (fst_ (Same.refl _) rfl) ev_c (v_isN st))).imp fun b h => ?_) (fun HC pC kC hC => ?_) (fun HC pC kC hC => q_end ?_)
        · rw [h]
          cases o with
          | none =>
            obtain rfl := (show xB = _ from iB)
            rfl
          | some d =>
            refine decide_eq_false fun z => ?_
            rw [z] at iB
            cases d <;> first | exact iB | (cases (show V.non = _ from iB)) | (obtain ⟨_, _, e, _⟩ := iB; cases e)
        · cases o with
          | some d => cases pC
          | none =>
            obtain rfl : z0 = (none, qp) := ez.symm
            exact q_ret hC (R := IsRes (none, qp)) ((ev_var (x := .ref aB) rfl).imp fun v G' s' e => ⟨aB, xB, e, s' _ _ gB, Mon.mon s' iB⟩) fun v GD HD sD rD => q v GD HD sD.s rD
        · cases o with
          | none => cases pC
          | some d =>
            have ez : rdF (rdT f' L) L ((fieldsW wd).drop (l + 1)) (fs ++ [d]) qp = z0 := ez
            have hOC := LcO.go st s7.s hD hOB (Stp.go0 kC hC)
            refine q_appO (x := d) (k := 0) st s7.s hD hOC (by omega) rfl (ea_cons (ka := 0) (kb := 0) ((fst_ (Same.refl _) rfl).imp fun v G' s' e => by rw [show v = xB from e]; exact Mon.mon (R := IsDt d) s' iB) ea_nil) fun GD HD sD hOD => ?_
            refine q_setV st hOD.s.s (snd_ sD rfl) fun HE kE hE => q_end (q_end ⟨GD, fs ++ [d], qp, _, _, rfl, LcO.go st s7.s hD hOD (Stp.go0 kE hE), sG.trans (sB.g.trans sD), hq, by rw [List.length_append]; show fs.length + 1 ≤ _; omega, ez⟩)
      · rw [lt_.1, one] at pA
        have c116 : ¬ c = 116 := of_decide_eq_false pA.symm
        have hk : wi = .name ∨ wi = .count := by
          rcases hk with e | e
          · rw [hcw, e] at c116
            exact absurd rfl c116
          · exact e
        obtain ⟨tok, htok⟩ : ∃ tok, tok = tkA Lp pl := ⟨_, rfl⟩
        have etok : L.getD pl "" = tok := by rw [eA, htok]
        have tl := (hT0.row hpl).choose_spec.2.2
        rw [← htok] at tl
        have fBn : wi = .name → fitB tok ⟨#[c]⟩ = nameB tok := fun e => by
          subst e
          subst hcw
          exact if_neg (by decide +kernel)
        have fBc : wi = .count → fitB tok ⟨#[c]⟩ = countB tok := fun e => by
          subst e
          subst hcw
          exact if_pos (by decide +kernel)
        have hOA := LcO.go st s7.s hD hO9 (Stp.go0 kA hA)
        have tok_ : ∀ {n : Nat} {σ : L2.St} {G' : Hp}, Same G9 G' → σ[0]? = some (some (.ref p)) → σ[7]? = some (some (.int (pl : Nat))) → Ev (SP0 G H) n 0 (tOp (rIxA K) (tOp (rIxA K) (tVar 0) (tVar 7)) (tC (.int 0))) σ G' (IsV (.str tok)) := fun s' e0 e7 => by
          rw [htok]
          exact ev_tok0 (ka := 0) (kb := 0) st (T9.mono s') hpl (ev_var e0) (ev_var e7)
        refine q_if st hOA.s.s (et_B (ev_callV (k := 0) (R := IsV (.bl (fitB tok ⟨#[c]⟩))) st (ea_consV (ka := 0) (kb := 0) (tok_ (Same.refl _) rfl rfl) (ea_consV (ka := 0) (kb := 0) (ev_var rfl) ea_nilV)) fun G' s' => ⟨tok, _, rfl, tl, rfl⟩)) (fun HB pB kB hB => ?_) (fun HB pB kB hB => ?_)
        · have hOB := LcO.go st s7.s hD hOA (Stp.go0 kB hB)
          have ntok : ¬ tok = "" := by
            rcases hk with e | e
            · rw [fBn e] at pB
              exact (nameB_plain pB.symm).e
            · rw [fBc e] at pB
              exact (countB_plain pB.symm).e
          have hpl1 : pl + 1 < Lp.length := hT0.t.next hpl (by rw [← htok]; exact ntok)
          obtain ⟨d, hd⟩ : ∃ d, rdW (rdT f' L) L wi pl = (some d, pl + 1) ∧ (∀ {n : Nat} {σ : L2.St} {G' : Hp}, Same G9 G' → σ[0]? = some (some (.ref p)) → σ[7]? = some (some (.int (pl : Nat))) → σ[8]? = some (some (.str ⟨#[c]⟩)) → Ev (SP0 G H) n 0 (tIf (tTest (tOp (rEqA K) (tVar 8) (tC (.str "n")))) (tOp (rIxA K) (tOp (rIxA K) (tVar 0) (tVar 7)) (tC (.int 0))) (tCB rIntS (tCons (tOp (rIxA K) (tOp (rIxA K) (tVar 0) (tVar 7)) (tC (.int 0))) tNil))) σ G' (IsDt d)) := by
            rcases hk with e | e
            · subst e
              have hn : nameB tok = true := (pB.trans (fBn rfl)).symm
              refine ⟨.str tok, ?_, fun s' e0 e7 e8 => ?_⟩
              · show (if nameB (L.getD pl "") = true then (some (PyData.str (L.getD pl "")), pl + 1) else (none, pl)) = _
                rw [etok, if_pos hn]
              · refine ev_if (ka := 0) (kb := 0) (kc := 0) (c := true) st ((et_testV (ev_opV (ka := 0) (kb := 0) (ev_var e8) ev_c (v_eqS st))).imp fun b h => ?_) (fun _ => tok_ s' e0 e7) fun z => by cases z
                rw [h, lt_.2.1, one, hcw]
                rfl
            · subst e
              have hn : countB tok = true := (pB.trans (fBc rfl)).symm
              refine ⟨.int (cval tok), ?_, fun s' e0 e7 e8 => ?_⟩
              · show (if countB (L.getD pl "") = true then (some (PyData.int (cval (L.getD pl ""))), pl + 1) else (none, pl)) = _
                rw [etok, if_pos hn]
              · refine ev_if (ka := 0) (kb := 0) (kc := 0) (c := false) st ((et_testV (ev_opV (ka := 0) (kb := 0) (ev_var e8) ev_c (v_eqS st))).imp fun b h => ?_) (fun z => by cases z) fun _ => ev_cbV (ea_consV (ka := 0) (kb := 0) (tok_ s' e0 e7) ea_nilV) (c_intS st hn)
                rw [h, lt_.2.1, one, hcw]
                rfl
          rw [hd.1] at ez
          have ez : rdF (rdT f' L) L ((fieldsW wd).drop (l + 1)) (fs ++ [d]) (pl + 1) = z0 := ez
          refine q_appO (x := d) (k := 0) st s7.s hD hOB (by omega) rfl (ea_cons (ka := 0) (kb := 0) (hd.2 (Same.refl _) rfl rfl rfl) ea_nil) fun GD HD sD hOD => ?_
          refine q_augI st hOD.s.s rfl ev_c fun HE kE hE => q_end (q_end (q_end ⟨GD, fs ++ [d], pl + 1, some (.str ⟨#[c]⟩), y9, ?_, LcO.go st s7.s hD hOD (Stp.go0 kE hE), sG.trans sD, hpl1, by rw [List.length_append]; show fs.length + 1 ≤ _; omega, ez⟩))
          rw [show ((pl + 1 : Nat) : Int) = ((pl : Nat) : Int) + 1 by omega]
          rfl
        · have hd : rdW (rdT f' L) L wi pl = (none, pl) := by
            rcases hk with e | e
            · subst e
              have hn : nameB tok = false := (pB.trans (fBn rfl)).symm
              show (if nameB (L.getD pl "") = true then (some (PyData.str (L.getD pl "")), pl + 1) else (none, pl)) = _
              rw [etok, hn]
              rfl
            · subst e
              have hn : countB tok = false := (pB.trans (fBc rfl)).symm
              show (if countB (L.getD pl "") = true then (some (PyData.int (cval (L.getD pl ""))), pl + 1) else (none, pl)) = _
              rw [etok, hn]
              rfl
          rw [hd] at ez
          obtain rfl : z0 = (none, pl) := ez.symm
          exact q_ret hB (res (o := none) (k := pl) ev_c (ev_var rfl)) fun v GD HD sD rD => q v GD HD sD.s rD
    · obtain ⟨G9, fs, pl, y8, y9, rfl, hO9, sG, hpl, hfs, ez⟩ := hp
      rw [fsz, List.drop_length] at ez
      obtain rfl : z0 = (some fs, pl) := ez.symm
      obtain ⟨GA, sA, sA9, pA, ys, ep, fA, gA, rA⟩ := LcO.pub st s7.s (Nat.le_refl 0) hD hO9
      obtain rfl := V.ref.inj ep
      have TA := (T8.mono sG).mono sA9
      have q : ∀ v G' H', Grow G H G' H' → IsRes (if L.getD pl "" = ")" then (some (PyData.tuple fs), pl + 1) else (none, pl)) v G' → Q v H' := q
      rw [eA] at q
      refine q_ret (R := IsRes (if tkA Lp pl = ")" then (some (PyData.tuple fs), pl + 1) else (none, pl))) sA.s (ev_if (ka := 0) (kb := 0) (c := decide (tkA Lp pl = ")")) st ((et_testV (ev_opV (ev_tok0 (ka := 0) (kb := 0) st TA hpl (ev_var rfl) (ev_var rfl)) ev_c (v_eqS st)))) (fun hc => ?_) fun hc => ?_) fun v GB HB sB rB => q v GB HB sB.s rB
      · rw [if_pos (of_decide_eq_true hc)]
        refine res (o := some (.tuple fs)) (k := pl + 1) ((ev_cbV (ea_consV (ka := 0) (kb := 0) (ev_var rfl) ea_nilV) (c_tupN st (SqL.of gA))).imp fun v G2 s2 h => ?_) (ev_eq (congrArg V.int (by omega)) (ev_opV (ka := 0) (kb := 0) (ev_var rfl) ev_c (v_add st)))
        obtain ⟨pt, e, _, gt⟩ := h
        have dd := dts_rl (d := fun d : PyData => d) rA
        rw [List.map_id'] at dd
        exact ⟨pt, ys, e, gt, Mons.mon s2 dd⟩
      · rw [if_neg (of_decide_eq_false hc)]
        exact res (o := none) (k := pl) ev_c (ev_var rfl)
theorem ok_lread20 {f : Addr} {fd : FuncData} (Z : Bi mg) (c__law_fits : Callee P w K mg base "_law_fits" CX0 1 ["_law_token", "_law_wish"] [] (spP PFit)) (F : Fun K "_law_read" "_law_read" s__law_read f fd) (hmg : mg "_law_read" = some (.ref f)) (hk : PySem.W.keepIn K (.ref f) = true) (hb : Binds K fd ["_law_tokens_here", "_law_at", "_law_depth"] []) : ∀ m : Nat, m ≤ 40 → FnOk P w K mg base CX0 (1 + m + 1) f fd ["_law_tokens_here", "_law_at", "_law_depth"] (spP (PLrd m)) := by
  intro m
  induction m with
  | zero => exact fun _ => ok_lread_step (kk := 0) Z c__law_fits ⟨f, fd, [], hmg, hk, (⟨fun vs H Q E h => (by obtain ⟨_, _, _, h, _⟩ := h; exact h.elim), fun A outer s H args us vs Q E hr h0 hb hv h => (by obtain ⟨_, _, _, h, _⟩ := h; exact h.elim)⟩ : FnOk P w K mg base CX0 0 f fd ["_law_tokens_here", "_law_at", "_law_depth"] (spP fun _ _ _ => False)), hb, .nil⟩ (.inl rfl) (by omega) (by decide) F
  | succ m ih => exact fun h => ok_lread_step Z c__law_fits ⟨f, fd, [], hmg, hk, ih (by omega), hb, .nil⟩ (.inr ⟨m, rfl, rfl⟩) (by omega) h F
def IsOP : Option (List PyData) → HR
  | none => IsV .non
  | some rows => IsLX (IsDts rows)
instance (o : Option (List PyData)) : Mon (IsOP o) := match o with
  | none => (inferInstance : Mon (IsV .non))
  | some rows => (inferInstance : Mon (IsLX (IsDts rows)))
def IsResP (z : Option (List PyData) × Nat) : HR := fun v G => ∃ a x, v = .ref a ∧ G a = some (.lst [x, .int (z.2 : Nat)]) ∧ IsOP z.1 x G
instance (z) : Mon (IsResP z) := ⟨fun s ⟨a, x, e, h, r⟩ => ⟨a, x, e, s _ _ h, Mon.mon s r⟩⟩
def PLrp : List V → Hp → HR → Prop := fun vs G R => ∃ (p : Addr) (xs : List V) (Lp : List (Str × Nat)), vs = [.ref p] ∧ TokAt p xs Lp G ∧ Lp.length ≤ 99000 ∧ R = IsResP (rdP (Lp.map (·.1)))
theorem rdR_succ {k : Nat} {L : List Str} {acc : List PyData} {p : Nat} : rdR (k + 1) L acc p = (if L.getD p "" = "(" then
      (if L.getD (p + 1) "" = "to" then
        (if nameB (L.getD (p + 2) "") = true then
          (match (rdT 38 L (p + 3)).1 with
            | none => (none, (rdT 38 L (p + 3)).2)
            | some d => if L.getD (rdT 38 L (p + 3)).2 "" = ")" then rdR k L (acc ++ [.tuple [.str (L.getD (p + 2) ""), d]]) ((rdT 38 L (p + 3)).2 + 1) else (none, (rdT 38 L (p + 3)).2))
        else (none, p + 2))
      else (none, p + 1))
    else if L.getD p "" = ")" then (some acc, p + 1) else (none, p)) := rfl
def ws3 : List Str := ["(", "program", "("]
abbrev s__law_read_program : Stmt := top 27
theorem sc__law_read_program : FnScope ["_law_tokens_here", "_law_wished", "_law_k", "_law_rows", "_law_at", "_law_found"] ["_law_tokens_here"] (defScope s__law_read_program) := ⟨rfl, rfl, rfl, by decide +kernel, rfl, by decide +kernel, by decide +kernel⟩
theorem ok_lrp20 {f : Addr} {fd : FuncData} (Z : Bi mg) (c__law_fits : Callee P w K mg base "_law_fits" CX0 1 ["_law_token", "_law_wish"] [] (spP PFit)) (c__law_read : Callee P w K mg base "_law_read" CX0 40 ["_law_tokens_here", "_law_at", "_law_depth"] [] (spP (PLrd 38)))
    (F : Fun K "_law_read_program" "_law_read_program" s__law_read_program f fd) : FnOk P w K mg base CX0 41 f fd ["_law_tokens_here"] (spP PLrp) := by
  refine F.ok sc__law_read_program (fun vs H Q E h => ?_) (fun cdv A outer s H vs Q E hr h => ?_)
  · obtain ⟨_, _, _, ⟨_, _, _, rfl, _⟩, _⟩ := h
    rfl
  · obtain ⟨G, R, hs, ⟨p, xs, Lp, rfl, hT0, l9, rfl⟩, q⟩ := h
    refine ⟨_, (pss_cons (ps_set (i := 1) sc__law_read_program.nd rfl (Or.inl rfl) (pe_lst (pa_cons pe_str (pa_cons pe_str (pa_cons pe_str pa_nil)))))
  (pss_cons (ps_for PassesOwn.never rfl (pi_range1 (by rfl) Z.z_range (pa_cons pe_int pa_nil)) (pg_name (i := 2) sc__law_read_program.nd rfl (Or.inl rfl)) (pss_cons (ps_if (pt_cmpR (op_neA K hr.units) (pe_ix (ix_any K (hu_of hr)) (pe_ix (ix_any K (hu_of hr)) (pv 0) (pv 2) (fun _ _ => rfl)) pe_int (fun _ _ => rfl)) (pe_ix (ix_any K (hu_of hr)) (pv 1) (pv 2) (fun _ _ => rfl)) (nomark _)) (pss_cons (ps_ret (pe_lst (pa_cons pe_non (pa_cons (pv 2) pa_nil))))
  pss_nil) pss_nil)
  pss_nil))
  (pss_cons (ps_set (i := 3) sc__law_read_program.nd rfl (Or.inl rfl) (pe_lst pa_nil))
  (pss_cons (ps_set (i := 4) sc__law_read_program.nd rfl (Or.inl rfl) pe_int)
  (pss_cons (ps_while PassesOwn.never (pt_cmpR (op_eqA K hr.units) (pe_ix (ix_any K (hu_of hr)) (pe_ix (ix_any K (hu_of hr)) (pv 0) (pv 4) (fun _ _ => rfl)) pe_int (fun _ _ => rfl)) pe_str (nomark _)) (pss_cons (ps_if (pt_cmpR (op_neA K hr.units) (pe_ix (ix_any K (hu_of hr)) (pe_ix (ix_any K (hu_of hr)) (pv 0) (pe_op op_addA (pv 4) pe_int) (fun _ _ => rfl)) pe_int (fun _ _ => rfl)) pe_str (nomark _)) (pss_cons (ps_ret (pe_lst (pa_cons pe_non (pa_cons (pe_op op_addA (pv 4) pe_int) pa_nil))))
  pss_nil) pss_nil)
  (pss_cons (ps_if (pt_not (pt_val (pe_callC c__law_fits (hr.mono (by decide)) pass0 (pa_cons (pe_ix (ix_any K (hu_of hr)) (pe_ix (ix_any K (hu_of hr)) (pv 0) (pe_op op_addA (pv 4) pe_int) (fun _ _ => rfl)) pe_int (fun _ _ => rfl)) (pa_cons pe_str pa_nil))))) (pss_cons (ps_ret (pe_lst (pa_cons pe_non (pa_cons (pe_op op_addA (pv 4) pe_int) pa_nil))))
  pss_nil) pss_nil)
  (pss_cons (ps_set (i := 5) sc__law_read_program.nd rfl (Or.inl rfl) (pe_callC c__law_read (hr.mono (by decide)) pass0 (pa_cons (pv 0) (pa_cons (pe_op op_addA (pv 4) pe_int) (pa_cons pe_int pa_nil)))))
  (pss_cons (ps_if (pt_cmpR op_isN (pe_ix (ix_any K (hu_of hr)) (pv 5) pe_int (fun _ _ => rfl)) pe_non (nomark _)) (pss_cons (ps_ret (pv 5))
  pss_nil) pss_nil)
  (pss_cons (ps_if (pt_cmpR (op_neA K hr.units) (pe_ix (ix_any K (hu_of hr)) (pe_ix (ix_any K (hu_of hr)) (pv 0) (pe_ix (ix_any K (hu_of hr)) (pv 5) pe_int (fun _ _ => rfl)) (fun _ _ => rfl)) pe_int (fun _ _ => rfl)) pe_str (nomark _)) (pss_cons (ps_ret (pe_lst (pa_cons pe_non (pa_cons (pe_ix (ix_any K (hu_of hr)) (pv 5) pe_int (fun _ _ => rfl)) pa_nil))))
  pss_nil) pss_nil)
  (pss_cons (ps_expr (pe_bm PySem.F.plainAttrs_list PySem.F.slot_list_append PySem.F.type_list_append mt_append (pv 3) (pa_cons (pe_tup (pa_cons (pe_ix (ix_any K (hu_of hr)) (pe_ix (ix_any K (hu_of hr)) (pv 0) (pe_op op_addA (pv 4) pe_int) (fun _ _ => rfl)) pe_int (fun _ _ => rfl)) (pa_cons (pe_ix (ix_any K (hu_of hr)) (pv 5) pe_int (fun _ _ => rfl)) pa_nil))) pa_nil)))
  (pss_cons (ps_set (i := 4) sc__law_read_program.nd rfl (Or.inl rfl) (pe_op op_addA (pe_ix (ix_any K (hu_of hr)) (pv 5) pe_int (fun _ _ => rfl)) pe_int))
  pss_nil))))))))
  (pss_cons (ps_ret (pe_ifExp (pt_cmpR (op_eqA K hr.units) (pe_ix (ix_any K (hu_of hr)) (pe_ix (ix_any K (hu_of hr)) (pv 0) (pv 4) (fun _ _ => rfl)) pe_int (fun _ _ => rfl)) pe_str (nomark _)) (pe_lst (pa_cons (pv 3) (pa_cons (pe_op op_addA (pv 4) pe_int) pa_nil))) (pe_lst (pa_cons pe_non (pa_cons (pv 4) pa_nil)))))
  pss_nil)))))), ?_⟩
    have st := stab0 G H
    have h0 : SP0 G H 0 G H := Grow.refl hs
    obtain ⟨L, hL⟩ : ∃ L, L = Lp.map (·.1) := ⟨_, rfl⟩
    have eA : ∀ i, L.getD i "" = tkA Lp i := fun i => by rw [hL]; rfl
    have lL : L.length = Lp.length := by rw [hL, List.length_map]
    rw [← hL] at q
    have lpos := tkL_pos hT0.t
    have res : ∀ {n : Nat} {ta tb : TE} {σ : L2.St} {G' : Hp} {o : Option (List PyData)} {k : Nat}, Ev (SP0 G H) n 0 ta σ G' (IsOP o) → Ev (SP0 G H) n 0 tb σ G' (IsV (.int (k : Nat))) → Ev (SP0 G H) n 0 (tLst (tCons ta (tCons tb tNil))) σ G' (IsResP (o, k)) := fun {n ta tb σ G' o k} h1 h2 => (ev_lstXN st (ea_cons (ka := 0) (kb := 0) h1 (ea_cons (ka := 0) (kb := 0) h2 ea_nil)) rc2_len).imp fun v G2 s2 ⟨a, ys, e, _, g, u1, u2, e1, i1, u3, u4, e3, i3, i4⟩ => by
      subst e1 e3
      obtain rfl := (show u3 = _ from i3)
      obtain rfl := (show u4 = [] from i4)
      exact ⟨a, u1, e, g, i1⟩
    show tSeq _ _ (Ends.mk _ _ _ _) [some _, none, none, none, none, none] _
    refine q_set h0 (ev_lstN (vs := ws3.map V.str) st (ea_consV ev_c (ea_consV ev_c (ea_consV ev_c ea_nilV))) (by simp [ws3])) fun v1 G1 H1 s1 r1 => ?_
    obtain ⟨pw, rfl, _, gw⟩ := r1
    have T1 := hT0.mono s1.g
    refine q_forP (m := 3) st s1.s (ea_consV ev_c ea_nilV) (by decide) (by decide) (fun j σ' => (∃ y, σ' = [some (.ref p), some (.ref pw), y, none, none, none]) ∧ j < Lp.length ∧ (0 < j → tkA Lp 0 = "(") ∧ (1 < j → tkA Lp 1 = "program") ∧ (2 < j → tkA Lp 2 = "(")) ⟨⟨none, rfl⟩, lpos, fun h => absurd h (by decide), fun h => absurd h (by decide), fun h => absurd h (by decide)⟩ (fun j σ' J hj hp s2 => ?_) (fun σ' J hp s2 => ?_)
    · obtain ⟨⟨y, rfl⟩, hjl, e0, e1, e2⟩ := hp
      have hj : j < 3 := by omega
      have hw3 : ws3[j]? = some (ws3.getD j "") := by
        rw [List.getD_eq_getElem?_getD]
        have : j < ws3.length := hj
        rw [List.getElem?_eq_getElem this]
        rfl
      show tSeq _ _ (Ends.mk _ _ _ _) [some (.ref p), some (.ref pw), some (.int (j : Nat)), none, none, none] _
      refine q_if st s2.s (et_testV (ev_opV (ev_tok0 (ka := 0) (kb := 0) st T1 hjl (ev_var rfl) (ev_var rfl)) (ev_opV (ka := 0) (kb := 0) (ev_var rfl) (ev_var rfl) (v_ixL st (SqL.of gw) (atI_nat (by rw [List.getElem?_map, hw3]; rfl)))) (v_neS st))) (fun H3 p3 k3 h3 => ?_) (fun H3 p3 k3 h3 => q_end (q_end ?_))
      · have ne : ¬ tkA Lp j = ws3.getD j "" := by simpa using p3
        have rp : rdP L = (none, j) := by
          unfold rdP
          rw [eA, eA, eA]
          match j, hj, ne, e0, e1 with
          | 0, _, ne, _, _ => exact if_neg ne
          | 1, _, ne, e0, _ => rw [if_pos (e0 (by decide))]; exact if_neg ne
          | 2, _, ne, e0, e1 => rw [if_pos (e0 (by decide)), if_pos (e1 (by decide))]; exact if_neg ne
        rw [rp] at q
        exact q_ret h3 (res (o := none) (k := j) ev_c (ev_var rfl)) fun v G4 H4 s4 r4 => q v G4 H4 s4.s r4
      · have ee : tkA Lp j = ws3.getD j "" := by simpa using p3
        have nn : ¬ tkA Lp j = "" := by
          rw [ee]
          match j, hj with
          | 0, _ => decide +kernel
          | 1, _ => decide +kernel
          | 2, _ => decide +kernel
        refine ⟨⟨⟨_, rfl⟩, hT0.t.next hjl nn, fun h => ?_, fun h => ?_, fun h => ?_⟩, s2.go k3 h3⟩
        · by_cases z : 0 < j
          · exact e0 z
          · obtain rfl : j = 0 := by omega
            exact ee
        · by_cases z : 1 < j
          · exact e1 z
          · obtain rfl : j = 1 := by omega
            exact ee
        · obtain rfl : j = 2 := by omega
          exact ee
    · obtain ⟨⟨y, rfl⟩, h3l, e0, e1, e2⟩ := hp
      have h3l : 3 < Lp.length := h3l
      have e0 := e0 (by decide)
      have e1 := e1 (by decide)
      have e2 := e2 (by decide)
      have rp : rdP L = rdR L.length L [] 2 := by
        unfold rdP
        rw [eA, eA, eA, if_pos e0, if_pos e1, if_pos e2]
      refine q_newO (R := fun d : PyData => IsDt d) st s2.s fun D G4 H4 J4 s4 hD hO => ?_
      refine q_setV st hO.s.s ev_c fun J5 k5 h5 => ?_
      have hO5 := LcO.go st s4.s hD hO (Stp.go0 k5 h5)
      have T4 := T1.mono s4.g
      refine q_while (S := SP0 G H) (m0 := Lp.length - 2) (fun m τ J => ∃ G' at_ rows k y y5, m = Lp.length - at_ ∧ τ = [some (.ref p), some (.ref pw), y, some (.ref D), some (.int (at_ : Nat)), y5] ∧ LcO (SP0 G H) G4 H4 0 D (fun d : PyData => IsDt d) rows G' J ∧ Same G4 G' ∧ at_ < Lp.length ∧ rows.length ≤ at_ ∧ rdR k L rows at_ = rdP L ∧ Lp.length < k + at_) ⟨G4, 2, [], L.length, y, none, rfl, rfl, hO5, Same.refl _, by omega, by simp, rp.symm, by omega⟩ fun m τ J hW => ?_
      obtain ⟨G', at_, rows, k, y, y5, rfl, rfl, hO6, s46, ha, hr6, er, hk⟩ := hW
      obtain ⟨k, rfl⟩ : ∃ k', k = k' + 1 := ⟨k - 1, by omega⟩
      have T6 := T4.mono s46
      rw [rdR_succ, eA, eA, eA] at er
      refine ⟨0, G', 0, fun b => b = decide (tkA Lp at_ = "("), hO6.s.s, et_testV (ev_opV (ev_tok0 (ka := 0) (kb := 0) st T6 ha (ev_var rfl) (ev_var rfl)) ev_c (v_eqS st)), fun G7 J7 s7 hp => ?_, fun G7 J7 s7 hp => ?_⟩
      · have op : tkA Lp at_ = "(" := of_decide_eq_true hp.symm
        rw [if_pos op] at er
        have ha1 := hT0.t.next ha (by rw [op]; decide +kernel)
        have hO7 := LcO.go st s4.s hD hO6 s7
        have T7 := T6.mono s7.g
        refine q_if st hO7.s.s (et_testV (ev_opV (ev_tok0 (ka := 0) (kb := 0) (i := at_ + 1) st T7 ha1 (ev_var rfl) (ev_eq (congrArg V.int (by omega)) (ev_opV (ka := 0) (kb := 0) (ev_var rfl) ev_c (v_add st)))) ev_c (v_neS st))) (fun H8 p8 k8 h8 => ?_) (fun H8 p8 k8 h8 => q_end ?_)
        · rw [if_neg (by simpa using p8)] at er
          rw [← er] at q
          exact q_ret h8 (res (o := none) (k := at_ + 1) ev_c (ev_eq (congrArg V.int (by omega)) (ev_opV (ka := 0) (kb := 0) (ev_var rfl) ev_c (v_add st)))) fun v GA HA sA rA => q v GA HA sA.s rA
        have e8 : tkA Lp (at_ + 1) = "to" := by simpa using p8
        rw [if_pos e8] at er
        have ha2 : at_ + 2 < Lp.length := hT0.t.next ha1 (by rw [e8]; decide +kernel)
        have tl2 := (hT0.row ha2).choose_spec.2.2
        refine q_if st h8 (P := fun b => b = !nameB (tkA Lp (at_ + 2))) (et_not (et_B (ev_callV (k := 0) (R := IsV (.bl (nameB (tkA Lp (at_ + 2))))) st (ea_consV (ka := 0) (kb := 0) (ev_tok0 (ka := 0) (kb := 0) (i := at_ + 2) st T7 ha2 (ev_var rfl) (ev_eq (congrArg V.int (by omega)) (ev_opV (ka := 0) (kb := 0) (ev_var rfl) ev_c (v_add st)))) (ea_consV (ka := 0) (kb := 0) ev_c ea_nilV)) fun G' s' => ⟨_, _, rfl, tl2, by unfold fitB; rw [if_neg (by decide +kernel)]⟩))) (fun H9 p9 k9 h9 => ?_) (fun H9 p9 k9 h9 => q_end ?_)
        · rw [if_neg (by simpa using p9)] at er
          rw [← er] at q
          exact q_ret h9 (res (o := none) (k := at_ + 2) ev_c (ev_eq (congrArg V.int (by omega)) (ev_opV (ka := 0) (kb := 0) (ev_var rfl) ev_c (v_add st)))) fun v GA HA sA rA => q v GA HA sA.s rA
        have e9 : nameB (tkA Lp (at_ + 2)) = true := by simpa using p9
        rw [if_pos e9] at er
        have ha3 : at_ + 3 < Lp.length := hT0.t.next ha2 (nameB_plain e9).e
        have hO9 := LcO.go st s4.s hD (LcO.go st s4.s hD hO7 (Stp.go0 k8 h8)) (Stp.go0 k9 h9)
        refine q_set hO9.s.s (ev_call (k := 0) (R := IsRes (rdT 38 L (at_ + 3))) st (ea_consV (ka := 0) (kb := 0) (ev_var rfl) (ea_consV (ka := 0) (kb := 0) (x := .int ((at_ + 3 : Nat) : Int)) (ev_eq (congrArg V.int (by omega)) (ev_opV (ka := 0) (kb := 0) (ev_var rfl) ev_c (v_add st))) (ea_consV (ka := 0) (kb := 0) ev_c ea_nilV))) fun vs G' s' e => ?_) fun vB GB HB sB rB => ?_
        · obtain rfl := (show vs = _ from e)
          exact ⟨p, xs, Lp, at_ + 3, rfl, T7.mono s', ha3, l9, by decide, by rw [hL]⟩
        have hq := rdT_lt hT0.t (f := 38) (by omega) ha3
        rw [← hL] at hq
        have hgt : ∀ d, (rdT 38 L (at_ + 3)).1 = some d → at_ + 3 < (rdT 38 L (at_ + 3)).2 := fun d e => by
          rw [hL] at e ⊢
          exact ((rdT_ok hT0.t 38 (oc := 2) (by decide) (at_ + 3) [.term] [] [] [] ha3 rfl).2 d e).1
        generalize hzz : rdT 38 L (at_ + 3) = zz at *
        obtain ⟨o, qp⟩ := zz
        obtain ⟨aB, xB, rfl, gB, iB⟩ := rB
        have hOB := LcO.go st s4.s hD hO9 sB
        have TB := T7.mono sB.g
        have fst_ : ∀ {n : Nat} {σ : L2.St} {G' : Hp}, Same GB G' → σ[5]? = some (some (.ref aB)) → Ev (SP0 G H) n 0 (tOp (rIxA K) (tVar 5) (tC (.int 0))) σ G' (IsV xB) := fun s' e => ev_opV (ka := 0) (kb := 0) (ev_var e) ev_c (v_ixL st (SqL.of (s' _ _ gB)) (atI_nat (j := 0) rfl))
        have snd_ : ∀ {n : Nat} {σ : L2.St} {G' : Hp}, Same GB G' → σ[5]? = some (some (.ref aB)) → Ev (SP0 G H) n 0 (tOp (rIxA K) (tVar 5) (tC (.int 1))) σ G' (IsV (.int (qp : Nat))) := fun s' e => ev_opV (ka := 0) (kb := 0) (ev_var e) ev_c (v_ixL st (SqL.of (s' _ _ gB)) (atI_nat (j := 1) rfl))
        refine q_if st hOB.s.s (P := fun b => b = o.isNone) ((et_testV (ev_opV (fst_ (Same.refl _) rfl) ev_c (v_isN st))).imp fun b h => ?_) (fun HC pC kC hC => ?_) (fun HC pC kC hC => q_end ?_)
        · rw [h]
          cases o with
          | none =>
            obtain rfl := (show xB = _ from iB)
            rfl
          | some d =>
            refine decide_eq_false fun z => ?_
            rw [z] at iB
            cases d <;> first | exact iB | (cases (show V.non = _ from iB)) | (obtain ⟨_, _, e, _⟩ := iB; cases e)
        · cases o with
          | some d => cases pC
          | none =>
            have er : ((none : Option (List PyData)), qp) = rdP L := er
            rw [← er] at q
            refine q_ret hC (R := IsResP (none, qp)) ((ev_var (x := .ref aB) rfl).imp fun v G' s' e => ⟨aB, xB, e, s' _ _ gB, ?_⟩) fun v GD HD sD rD => q v GD HD sD.s rD
            exact (show xB = .non from iB)
        · cases o with
          | none => cases pC
          | some d =>
            have er : (if L.getD qp "" = ")" then rdR k L (rows ++ [.tuple [.str (tkA Lp (at_ + 2)), d]]) (qp + 1) else (none, qp)) = rdP L := er
            rw [eA] at er
            have hgt : at_ + 3 < qp := hgt d rfl
            refine q_if st hC (et_testV (ev_opV (ev_tok0 (ka := 0) (kb := 0) (i := qp) st TB hq (ev_var rfl) (snd_ (Same.refl _) rfl)) ev_c (v_neS st))) (fun HD pD kD hD' => ?_) (fun HD pD kD hD' => q_end ?_)
            · rw [if_neg (by simpa using pD)] at er
              rw [← er] at q
              exact q_ret hD' (res (o := none) (k := qp) ev_c (snd_ (Same.refl _) rfl)) fun v GA HA sA rA => q v GA HA sA.s rA
            have eD : tkA Lp qp = ")" := by simpa using pD
            rw [if_pos eD] at er
            have hq1 : qp + 1 < Lp.length := hT0.t.next hq (by rw [eD]; decide +kernel)
            have hOD := LcO.go st s4.s hD (LcO.go st s4.s hD hOB (Stp.go0 kC hC)) (Stp.go0 kD hD')
            refine q_appO (x := .tuple [.str (tkA Lp (at_ + 2)), d]) (k := 0) st s4.s hD hOD (by omega) rfl (ea_cons (ka := 0) (kb := 0) (R := IsDt (.tuple [.str (tkA Lp (at_ + 2)), d])) (RA := RNil) (ev_tq st (ea_cons (ka := 0) (kb := 0) (R := IsDt (.str (tkA Lp (at_ + 2)))) (RA := IsDts [d]) (ev_tok0 (ka := 0) (kb := 0) (i := at_ + 2) st TB ha2 (ev_var rfl) (ev_eq (congrArg V.int (by omega)) (ev_opV (ka := 0) (kb := 0) (ev_var rfl) ev_c (v_add st)))) (ea_cons (ka := 0) (kb := 0) (R := IsDt d) (RA := IsDts []) ((fst_ (Same.refl _) rfl).imp fun v G' s' e => by rw [show v = xB from e]; exact Mon.mon (R := IsDt d) s' iB) ea_nil)) rc2_len) ea_nil) fun GE HE sE hOE => ?_
            refine q_setV st hOE.s.s (x := .int ((qp + 1 : Nat) : Int)) (ev_eq (congrArg V.int (by omega)) (ev_opV (ka := 0) (kb := 0) (snd_ sE rfl) ev_c (v_add st))) fun HF kF hF => q_end ⟨Lp.length - (qp + 1), by omega, GE, qp + 1, rows ++ [.tuple [.str (tkA Lp (at_ + 2)), d]], k, y, some (.ref aB), rfl, rfl, LcO.go st s4.s hD hOE (Stp.go0 kF hF), s46.trans (s7.g.trans (sB.g.trans sE)), hq1, by rw [List.length_append]; show rows.length + 1 ≤ _; omega, er, by omega⟩
      · have nop : ¬ tkA Lp at_ = "(" := of_decide_eq_false hp.symm
        rw [if_neg nop] at er
        have hO7 := LcO.go st s4.s hD hO6 s7
        obtain ⟨GA, sA, sA9, pA, ys, ep, fA, gA, rA⟩ := LcO.pub st s4.s (Nat.le_refl 0) hD hO7
        obtain rfl := V.ref.inj ep
        have TA := (T6.mono s7.g).mono sA9
        rw [← er] at q
        refine q_ret (R := IsResP (if tkA Lp at_ = ")" then (some rows, at_ + 1) else (none, at_))) sA.s (ev_if (ka := 0) (kb := 0) (c := decide (tkA Lp at_ = ")")) st (et_testV (ev_opV (ev_tok0 (ka := 0) (kb := 0) st TA ha (ev_var rfl) (ev_var rfl)) ev_c (v_eqS st))) (fun hc => ?_) fun hc => ?_) fun v GB HB sB rB => q v GB HB sB.s rB
        · rw [if_pos (of_decide_eq_true hc)]
          refine res (o := some rows) (k := at_ + 1) ((ev_var (x := .ref D) rfl).imp fun v G2 s2 h => ?_) (ev_eq (congrArg V.int (by omega)) (ev_opV (ka := 0) (kb := 0) (ev_var rfl) ev_c (v_add st)))
          have dd := dts_rl (d := fun d : PyData => d) rA
          rw [List.map_id'] at dd
          exact ⟨D, ys, h, s2 _ _ gA, Mons.mon s2 dd⟩
        · rw [if_neg (of_decide_eq_false hc)]
          exact res (o := none) (k := at_) ev_c (ev_var rfl)
def PRgt : List V → Hp → HR → Prop := fun vs _ R => ∃ (s : Str) (b : Bool), vs = [.str s, .bl b] ∧ TxM 15000 s ∧ R = IsV (.bl true)
def IsOV (K : PySem.W.Frag) : Option PyData → HR
  | none => IsV .non
  | some d => fun v G => v ≠ .non ∧ IsD K d v G
instance (o : Option PyData) : Mon (IsOV K o) := match o with
  | none => (inferInstance : Mon (IsV .non))
  | some d => ⟨fun s ⟨a, h⟩ => ⟨a, Mon.mon (R := IsD K d) s h⟩⟩
def IsRB (K : PySem.W.Frag) (z : Option PyData × Nat) : HR := fun v G => ∃ a x, v = .ref a ∧ G a = some (.lst [x, .int (z.2 : Nat)]) ∧ IsOV K z.1 x G
instance (z) : Mon (IsRB K z) := ⟨fun s ⟨a, x, e, h, r⟩ => ⟨a, x, e, s _ _ h, Mon.mon s r⟩⟩
theorem dt_ref {G : Hp} : ∀ {d : PyData} {v : V}, IsDt d v G → v ≠ .non
  | .str s, v, h => by rw [show v = _ from h]; intro z; cases z
  | .int i, v, h => by rw [show v = _ from h]; intro z; cases z
  | .tuple ds, v, ⟨a, xs, e, _⟩ => by rw [e]; intro z; cases z
  | .none, v, h => h.elim
  | .bool _, v, h => h.elim
  | .list _, v, h => h.elim
  | .dict _, v, h => h.elim
theorem rb_T {z : Option PyData × Nat} {v : V} {G : Hp} (h : IsRes z v G) : IsRB K z v G := by
  obtain ⟨a, x, e, g, r⟩ := h
  refine ⟨a, x, e, g, ?_⟩
  obtain ⟨o, q⟩ := z
  cases o with
  | none => exact r
  | some d => exact ⟨dt_ref (show IsDt d x G from r), dt_dp d r⟩
theorem rb_P {z : Option (List PyData) × Nat} {v : V} {G : Hp} (h : IsResP z v G) : IsRB K (z.1.map PyData.list, z.2) v G := by
  obtain ⟨a, x, e, g, r⟩ := h
  refine ⟨a, x, e, g, ?_⟩
  obtain ⟨o, q⟩ := z
  cases o with
  | none => exact r
  | some rows =>
    obtain ⟨p, xs, rfl, gp, dp⟩ := (show IsLX (IsDts rows) x G from r)
    exact ⟨fun z => (by cases z), .lst (SqL.of gp) (dts_dp rows dp)⟩
abbrev s__law_right : Stmt := top 30
theorem sc__law_right : FnScope ["_law_text_here", "_law_whole", "_law_tokens_here", "_law_due", "_law_found", "_law_said", "e"] ["_law_text_here", "_law_whole"] (defScope s__law_right) := ⟨rfl, rfl, rfl, by decide +kernel, rfl, by decide +kernel, by decide +kernel⟩
theorem ok_lright20 {CB a_DeedscaleError : Addr} {f : Addr} {fd : FuncData} (Z : Bi mg) (m_BadText : mg "BadText" = some (.ref CB)) (g_DeedscaleError : mg "DeedscaleError" = some (.ref a_DeedscaleError)) (xc_BadText : ExcC K CB) (xg_BadText : ExG K CB "at") (te : PySem.W.exmOne K (.ref CB) (.ref CB) = some true) (kD : PySem.W.kitOne K (.ref CB) (.ref a_DeedscaleError) = some true)
    (c__law_tokens : Callee P w K mg base "_law_tokens" CX0 1 ["_law_text_here"] [] (spP PLtk)) (c__law_read : Callee P w K mg base "_law_read" CX0 42 ["_law_tokens_here", "_law_at", "_law_depth"] [] (spP (PLrd 40))) (c__law_read_program : Callee P w K mg base "_law_read_program" CX0 41 ["_law_tokens_here"] [] (spP PLrp))
    (c_read_term : Callee P w K mg base "read_term" (L2.CX P w) 5 ["text"] [] (sp_rtrm CB)) (c_read_procedures : Callee P w K mg base "read_procedures" (L2.CX P w) 5 ["text"] [] (sp_rprc CB))
    (F : Fun K "_law_right" "_law_right" s__law_right f fd) : FnOk P w K mg base CX0 43 f fd ["_law_text_here", "_law_whole"] (spP PRgt) := by
  refine F.ok sc__law_right (fun vs H Q E h => ?_) (fun cdv A outer s H vs Q E hr h => ?_)
  · obtain ⟨_, _, _, ⟨_, _, rfl, _⟩, _⟩ := h
    rfl
  · obtain ⟨G, R, hs, ⟨tx, b, rfl, ⟨txo, txl⟩, rfl⟩, q⟩ := h
    refine ⟨_, (pss_cons (ps_set (i := 2) sc__law_right.nd rfl (Or.inl rfl) (pe_callC c__law_tokens (hr.mono (by decide)) pass0 (pa_cons (pv 0) pa_nil)))
  (pss_cons (ps_set (i := 3) sc__law_right.nd rfl (Or.inl rfl) (pe_ifExp (pt_val (pv 1)) (pe_callC c__law_read_program (hr.mono (by decide)) pass0 (pa_cons (pv 2) pa_nil)) (pe_callC c__law_read (hr.mono (by decide)) pass0 (pa_cons (pv 2) (pa_cons pe_int (pa_cons pe_int pa_nil))))))
  (pss_cons (ps_if (PW.pt (pw_and (pt_cmpR op_notN (pe_ix (ix_any K (hu_of hr)) (pv 3) pe_int (fun _ _ => rfl)) pe_non (nomark _)) (pw_and1 (pt_cmpR (op_neA K hr.units) (pe_ix (ix_any K (hu_of hr)) (pe_ix (ix_any K (hu_of hr)) (pv 2) (pe_ix (ix_any K (hu_of hr)) (pv 3) pe_int (fun _ _ => rfl)) (fun _ _ => rfl)) pe_int (fun _ _ => rfl)) pe_str (nomark _))))) (pss_cons (ps_set (i := 3) sc__law_right.nd rfl (Or.inl rfl) (pe_lst (pa_cons pe_non (pa_cons (pe_ix (ix_any K (hu_of hr)) (pv 3) pe_int (fun _ _ => rfl)) pa_nil))))
  pss_nil) pss_nil)
  (pss_cons (ps_set (i := 4) sc__law_right.nd rfl (Or.inl rfl) pe_non)
  (pss_cons (ps_set (i := 5) sc__law_right.nd rfl (Or.inl rfl) (pe_lst pa_nil))
  (pss_cons (ps_try_as (i := 6) (Wout := fun _ _ _ _ => False) rfl rfl sc__law_right.nd rfl rfl ⟨rfl, by decide, Or.inl m_BadText⟩ takes0
    (fun W pn xe tk _ => (pss_cons (ps_set (i := 4) sc__law_right.nd rfl (Or.inl rfl) (pe_ifExp (pt_val (pv 1)) (pe_callSC c_read_procedures (hr.mono (by decide)) (fun σ => passAt tk σ) (pa_cons (pv 0) pa_nil)) (pe_callSC c_read_term (hr.mono (by decide)) (fun σ => passAt tk σ) (pa_cons (pv 0) pa_nil))))
  pss_nil))
    (fun a oe cls d pn hz hf => (pss_cons (ps_set (i := 5) sc__law_right.nd rfl (Or.inl rfl) (pe_lst (pa_cons (pe_fldX xg_BadText hz hf (pv 6)) (pa_cons (pe_callB (call_isX rfl xc_BadText hz hf) (by rfl) Z.z_isinstance (by decide +kernel) (pa_cons (pv 6) (pa_cons (pe_glob (v := .ref a_DeedscaleError) rfl g_DeedscaleError rfl) pa_nil))) pa_nil))))
  pss_nil)))
  (pss_cons (ps_if (pt_cmpR op_isN (pe_ix (ix_any K (hu_of hr)) (pv 3) pe_int (fun _ _ => rfl)) pe_non (nomark _)) (pss_cons (ps_ret (pe_cmpR (op_eqA K hr.units) (pv 5) (pe_lst (pa_cons (pe_ix (ix_any K (hu_of hr)) (pe_ix (ix_any K (hu_of hr)) (pv 2) (pe_ix (ix_any K (hu_of hr)) (pv 3) pe_int (fun _ _ => rfl)) (fun _ _ => rfl)) pe_int (fun _ _ => rfl)) (pa_cons pe_bl pa_nil))) (nomark _)))
  pss_nil) pss_nil)
  (pss_cons (ps_ret (pe_and (pe_cmpR (op_eqA K hr.units) (pv 5) (pe_lst pa_nil) (nomark _)) (pe_one (pe_cmpR (op_eqA K hr.units) (pv 4) (pe_ix (ix_any K (hu_of hr)) (pv 3) pe_int (fun _ _ => rfl)) (nomark _)))))
  pss_nil)))))))), ?_⟩
    have st := stab0 G H
    have h0 : SP0 G H 0 G H := Grow.refl hs
    have tok := toks_ok txo
    have tokl : (toksP tx).length ≤ tx.length + 2 := by
      have := (tkAt_len (tx.cps.toList ++ [32]) (tx.length + 1)).1
      unfold toksP
      rw [List.length_append]
      show _ + 1 ≤ _
      omega
    have tok9 : ∀ q ∈ toksP tx, q.1.length ≤ 99000 ∧ PyData.strOk q.1 = true := fun q hq => ⟨by have := (tok q hq).1; omega, (tok q hq).2⟩
    have hTk := toks_tkL tx
    obtain ⟨L, hL⟩ : ∃ L, L = (toksP tx).map (·.1) := ⟨_, rfl⟩
    have hLs : ∀ i, PyData.strOk (L.getD i "") = true := fun i => by
      rw [List.getD_eq_getElem?_getD]
      cases e : L[i]? with
      | none => exact (show PyData.strOk "" = true by decide +kernel)
      | some z =>
        have := List.mem_of_getElem? e
        rw [hL] at this
        obtain ⟨q, hq, rfl⟩ := List.mem_map.mp this
        exact (tok9 q hq).2
    have eA : ∀ i, L.getD i "" = tkA (toksP tx) i := fun i => by rw [hL]; rfl
    show tSeq _ _ (Ends.mk _ _ _ _) [some _, some _, none, none, none, none, none] _
    refine q_set h0 (ev_callV (R := IsNX G (RL IsRwk (toksP tx))) st (ea_consV (ev_var rfl) ea_nilV) fun G' s' => ⟨tx, G, rfl, by omega, s', rfl⟩) fun v2 G2 H2 s2 r2 => ?_
    obtain ⟨p2, xs, rfl, _, g2, rl2⟩ := r2
    have T2 : TokAt p2 xs (toksP tx) G2 := ⟨g2, rl2, hTk, fun q hq => (tok9 q hq).1⟩
    have lpos := tkL_pos hTk
    obtain ⟨z0, hz0⟩ : ∃ z0, rdB b L = z0 := ⟨_, rfl⟩
    refine q_set s2.s (R := IsRB K z0) (ev_if (ka := 0) (kb := 0) (kc := 0) (c := b) st (et_B (ev_var rfl)) (fun hb => (ev_callV (k := 0) (R := IsResP (rdP L)) st (ea_consV (ka := 0) (kb := 0) (ev_var rfl) ea_nilV) fun G' s' => ⟨p2, xs, toksP tx, rfl, T2.mono s', by omega, by rw [hL]⟩).imp fun v G' s' h => ?_) fun hb => (ev_callV (k := 0) (R := IsRes (rdT 40 L 0)) st (ea_consV (ka := 0) (kb := 0) (ev_var rfl) (ea_consV (ka := 0) (kb := 0) ev_c (ea_consV (ka := 0) (kb := 0) ev_c ea_nilV))) fun G' s' => ⟨p2, xs, toksP tx, 0, rfl, T2.mono s', lpos, by omega, by decide, by rw [hL]⟩).imp fun v G' s' h => ?_) fun v3 G3 H3 s3 r3 => ?_
    · subst hb
      rw [← hz0]
      exact rb_P h
    · subst hb
      rw [← hz0]
      exact rb_T h
    obtain ⟨aZ, xZ, rfl, gZ, iZ⟩ := r3
    have T3 := T2.mono s3.g
    obtain ⟨dz, hdz⟩ : ∃ dz, dueZ L z0 = dz := ⟨_, rfl⟩
    have dz2 : dz.2 = z0.2 := by
      rw [← hdz]
      unfold dueZ
      obtain ⟨o, qz⟩ := z0
      cases o with
      | none => rfl
      | some d =>
        show (if L.getD qz "" = "" then (some d, qz) else (none, qz)).2 = qz
        split <;> rfl
    have okT := dueT_ok hTk
    have okP := dueP_ok hTk
    rw [← hL] at okT okP
    have zlt : z0.2 < (toksP tx).length := by
      rw [← dz2, ← hdz, ← hz0]
      cases b with
      | false =>
        rw [dueZ_T]
        exact okT.2.2
      | true =>
        rw [dueZ_P]
        exact okP.2.2
    have isS : z0.1.isSome = !decide (xZ = .non) := by
      obtain ⟨o, qz⟩ := z0
      cases o with
      | none =>
        obtain rfl := (show xZ = .non from iZ)
        rfl
      | some d =>
        have h := (show xZ ≠ .non ∧ _ from iZ).1
        rw [decide_eq_false h]
        rfl
    have lay : ∀ d, dz.1 = some d → LayD 50 d := fun d e => by
      have e1 : z0.1 = some d := by
        rw [← hdz] at e
        unfold dueZ at e
        obtain ⟨o, qz⟩ := z0
        cases o with
        | none => cases e
        | some d' =>
          have e : (if L.getD qz "" = "" then (some d', qz) else (none, qz)).1 = some d := e
          split at e
          · exact e
          · cases e
      rw [← hz0] at e1
      cases b with
      | false => exact (rdT_lay hLs 40 0 d e1).up (by decide)
      | true =>
        have e1 : (rdP L).1.map PyData.list = some d := e1
        cases er : (rdP L).1 with
        | none =>
          rw [er] at e1
          cases e1
        | some rows =>
          rw [er] at e1
          obtain rfl := Option.some.inj e1
          exact (rdP_lay hLs er).up (by decide)
    have ix0 : ∀ {a : Addr} {x : V} {m : Nat} {n : Nat} {σ : L2.St} {G' : Hp}, G' a = some (.lst [x, .int (m : Nat)]) → σ[3]? = some (some (.ref a)) → Ev (SP0 G H) n 0 (tOp (rIxA K) (tVar 3) (tC (.int 0))) σ G' (IsV x) := fun g e => ev_opV (ka := 0) (kb := 0) (ev_var e) ev_c (v_ixL st (SqL.of g) (atI_nat (j := 0) rfl))
    have ix1 : ∀ {a : Addr} {x : V} {m : Nat} {n : Nat} {σ : L2.St} {G' : Hp}, G' a = some (.lst [x, .int (m : Nat)]) → σ[3]? = some (some (.ref a)) → Ev (SP0 G H) n 0 (tOp (rIxA K) (tVar 3) (tC (.int 1))) σ G' (IsV (.int (m : Nat))) := fun g e => ev_opV (ka := 0) (kb := 0) (ev_var e) ev_c (v_ixL st (SqL.of g) (atI_nat (j := 1) rfl))
    refine q_ifB (k := 0) st (fun σ' H' => ∃ G' a x, σ' = [some (.str tx), some (.bl b), some (.ref p2), some (.ref a), none, none, none] ∧ SP0 G H 0 G' H' ∧ Same G3 G' ∧ G' a = some (.lst [x, .int (dz.2 : Nat)]) ∧ IsOV K dz.1 x G') s3.s (et_and (ka := 0) (kb := 0) (a := z0.1.isSome) (b := !decide (tkA (toksP tx) z0.2 = "")) st ((et_testV (ev_opV (ix0 gZ rfl) ev_c (v_notN st))).imp fun c h => by rw [h, isS]) fun _ => et_testV (ev_opV (ev_tok0 (ka := 0) (kb := 0) (i := z0.2) st T3 zlt (ev_var rfl) (ix1 gZ rfl)) ev_c (v_neS st))) (fun σ' H' hJ => ?_) (fun H4 hu p4 k4 h4 => ?_) (fun H4 hu p4 k4 h4 => q_end (hu _ _ ⟨G3, aZ, xZ, rfl, h4, Same.refl _, by rw [dz2]; exact gZ, ?_⟩))
    · obtain ⟨G4, aD, xD, rfl, h4, s34, gD, iD⟩ := hJ
      have T4 := T3.mono s34
      refine q_setV st h4 ev_c fun H5 k5 h5 => ?_
      refine q_set h5 (ev_lstN st ea_nilV (by simp)) fun v6 G6 H6 s6 r6 => ?_
      obtain ⟨pS, rfl, _, g6⟩ := r6
      show tSeq _ _ (Ends.mk _ _ _ _) [some (.str tx), some (.bl b), some (.ref p2), some (.ref aD), some .non, some (.ref pS), none] _
      have h6 : SP0 G H 0 G6 H6 := s6.s
      refine q_join (fun σ' H' => ∃ G' vf ps ys, σ' = [some (.str tx), some (.bl b), some (.ref p2), some (.ref aD), some vf, some (.ref ps), none] ∧ SP0 G H 0 G' H' ∧ Same G6 G' ∧ G' ps = some (.lst ys) ∧ ((∃ d, dz.1 = some d ∧ ys = [] ∧ Dp K G' vf d) ∨ (dz.1 = none ∧ ys = [.int (plA (toksP tx) dz.2 : Nat), .bl true]))) (fun σ' H' hJ => ?_) fun nx' hn => ?_
      · obtain ⟨G7, vf, ps, ys, rfl, h7, s67, gps, hc⟩ := hJ
        have s47 := s6.g.trans s67
        have T7 := T4.mono s47
        have gD7 := s47 _ _ gD
        have iD7 := Mon.mon s47 iD
        rcases hc with ⟨d, ed, rfl, dp⟩ | ⟨ed, rfl⟩
        · rw [ed] at iD7
          obtain ⟨nD, dD⟩ := (show xD ≠ .non ∧ IsD K d xD G7 from iD7)
          obtain ⟨lp, ld⟩ := lay d ed
          refine q_if st h7 (et_testV (ev_opV (ix0 gD7 rfl) ev_c (v_isN st))) (fun H8 p8 k8 h8 => ?_) (fun H8 p8 k8 h8 => q_end ?_)
          · exact absurd (of_decide_eq_true p8.symm) nD
          · refine q_retV st h8 (x := .bl (true && true)) (ev_andV (ka := 0) (kb := 0) st (ev_op (ka := 0) (kb := 0) (Ra := IsV (.ref ps)) (Rb := IsNew G7 (.lst [])) (ev_var rfl) (ev_lstN st ea_nilV (by simp)) fun x y G8 s8 hx hy => ?_) fun _ => ev_opV (ka := 0) (kb := 0) (ev_var rfl) (ix0 gD7 rfl) ?_) fun H9 k9 h9 => q _ _ _ h9 rfl
            · obtain rfl := (show _ = _ from hx)
              obtain ⟨py, rfl, _, gy⟩ := hy
              exact v_eqD (d := .list []) (e := .list []) st (.lst (SqL.of (s8 _ _ gps)) .nil) (.lst (SqL.of gy) .nil) (shapedB rfl (by decide)) (shapedB rfl (by decide))
            · have z := v_eqD (K := K) st dp (show Dp K G7 xD d from dD) (shapedB lp (by omega)) (shapedB lp (by omega))
              rw [eqvB d lp] at z
              exact z
        · rw [ed] at iD7
          obtain rfl := (show xD = .non from iD7)
          refine q_if st h7 (et_testV (ev_opV (ix0 gD7 rfl) ev_c (v_isN st))) (fun H8 p8 k8 h8 => ?_) (fun H8 p8 k8 h8 => ?_)
          · refine q_retV st h8 (x := .bl true) (ev_op (ka := 0) (kb := 0) (Ra := IsV (.ref ps)) (Rb := IsNew G7 (.lst [.int (plA (toksP tx) dz.2 : Nat), .bl true])) (ev_var rfl) (ev_lstN st (ea_consV (ka := 0) (kb := 0) (ev_tok1 (ka := 0) (kb := 0) (i := dz.2) st T7 (by rw [dz2]; exact zlt) (ev_var rfl) (ix1 gD7 rfl)) (ea_consV (ka := 0) (kb := 0) ev_c ea_nilV)) (by simp)) fun x y G8 s8 hx hy => ?_) fun H9 k9 h9 => q _ _ _ h9 rfl
            obtain rfl := (show _ = _ from hx)
            obtain ⟨py, rfl, _, gy⟩ := hy
            have pl : plainB (.list [.int (plA (toksP tx) dz.2 : Nat), .bool true]) = true := rfl
            have z := v_eqD (K := K) (d := .list [.int (plA (toksP tx) dz.2 : Nat), .bool true]) (e := .list [.int (plA (toksP tx) dz.2 : Nat), .bool true]) st (.lst (SqL.of (s8 _ _ gps)) (.cons (.int _) (.cons (.bl _) .nil))) (.lst (SqL.of gy) (.cons (.int _) (.cons (.bl _) .nil))) (shapedB pl (by simp [PyData.depth, PyData.depthAll])) (shapedB pl (by simp [PyData.depth, PyData.depthAll]))
            rw [eqvB _ pl] at z
            exact z
          · exact absurd p8 (by simp)
      · refine ⟨.bl b, rfl, b, rfl, ?_⟩
        have bad : ∀ (a : Nat) (dd : Addr) (G7 H7 : Hp), dz.1 = none → a = plA (toksP tx) dz.2 → Grow G6 H6 G7 H7 → H7 dd = none → SP0 G H 0 G7 H7 ∧ SP0 G H 0 (upd G7 dd (.xd [(("at" : Str), .int (a : Nat))])) (upd H7 dd (.xd [(("at" : Str), .int (a : Nat))])) ∧ Same G6 (upd G7 dd (.xd [(("at" : Str), .int (a : Nat))])) := fun a dd G7 H7 e1 e2 gr hd => by
          have h7 : SP0 G H 0 G7 H7 := st.grow h6 gr
          have s8 := st.new (o := .xd [(("at" : Str), .int (a : Nat))]) h7 hd
          exact ⟨h7, s8.s, gr.g.trans s8.g⟩
        have fin : ∀ (a : Nat) (dd : Addr) (G7 H7 : Hp), dz.1 = none → a = plA (toksP tx) dz.2 → Grow G6 H6 G7 H7 → H7 dd = none → True := fun _ _ _ _ _ _ _ _ => trivial
        cases b with
        | true =>
          rw [← hz0, dueZ_P] at hdz
          refine iteT ⟨_, rfl, G6, tx, rfl, st.sub h6, by omega, by omega, tok9, fun ds e v G7 H7 gr hv => ?_, fun a e dd G7 H7 gr hd => ?_⟩
          · refine hn _ _ ⟨G7, v, pS, [], rfl, st.grow h6 gr, gr.g, gr.g _ _ g6, .inl ?_⟩
            cases ec : (dueP L).1 with
            | none =>
              rw [okP.2.1 ec] at e
              cases e
            | some rows =>
              rw [okP.1 rows ec] at e
              obtain rfl := Sum.inr.inj e
              rw [List.reverse_reverse] at hv
              obtain ⟨pv, xv, rfl, _, gv, dv⟩ := hv
              exact ⟨.list rows, by rw [← hdz, ec]; rfl, rfl, .lst (SqL.of gv) (dts_dp rows dv)⟩
          · have ec : (dueP L).1 = none := by
              cases ec : (dueP L).1 with
              | none => rfl
              | some rows =>
                rw [okP.1 rows ec] at e
                cases e
            rw [okP.2.1 ec] at e
            obtain rfl := Sum.inl.inj e
            have e1 : dz.1 = none := by rw [← hdz, ec]; rfl
            have e2 : dz.2 = (dueP L).2 := by rw [← hdz]
            obtain ⟨h7, h8, s8⟩ := bad (plA (toksP tx) (dueP L).2) dd G7 H7 e1 (by rw [e2]) gr hd
            have hd4 : upd G7 dd (.xd [(("at" : Str), .int (plA (toksP tx) (dueP L).2 : Nat))]) dd = some (.xd [(("at" : Str), .int (plA (toksP tx) (dueP L).2 : Nat))]) := upd_same
            generalize upd G7 dd (.xd [(("at" : Str), .int (plA (toksP tx) (dueP L).2 : Nat))]) = G8 at h8 hd4 s8
            refine ⟨true, te, fun _ bb _ => ?_, fun z => by cases z⟩
            show tSeq _ _ (Ends.mk _ _ _ _) [some (.str tx), some (.bl true), some (.ref p2), some (.ref aD), some .non, some (.ref pS), some (.ref bb)] _
            refine q_set h8 (ev_lstN st (ea_consV (ka := 0) (kb := 0) (ev_fldX st (ev_var rfl) hd4) (ea_consV (ka := 0) (kb := 0) (ev_cbV (ea_consV (ev_var rfl) (ea_consV ev_c ea_nilV)) (c_isX st hd4 (fun _ r => r) kD)) ea_nilV)) (by simp)) fun v9 G9 H9 s9 r9 => ?_
            obtain ⟨p9, rfl, _, g9⟩ := r9
            exact q_end (hn _ _ ⟨G9, .non, p9, _, rfl, s9.s, s8.trans s9.g, g9, .inr ⟨e1, by rw [e2]⟩⟩)
        | false =>
          rw [← hz0, dueZ_T] at hdz
          refine iteF ⟨_, rfl, G6, tx, rfl, st.sub h6, by omega, by omega, tok9, fun ds e => ?_, fun a e dd G7 H7 gr hd => ?_⟩
          · cases ec : (dueT L).1 with
            | none =>
              rw [okT.2.1 ec] at e
              cases e
            | some d =>
              rw [okT.1 d ec] at e
              obtain rfl := Sum.inr.inj e
              exact ⟨d, [], rfl, fun v G7 H7 gr hv => hn _ _ ⟨G7, v, pS, [], rfl, st.grow h6 gr, gr.g, gr.g _ _ g6, .inl ⟨d, by rw [← hdz, ec], rfl, dt_dp d hv⟩⟩⟩
          · have ec : (dueT L).1 = none := by
              cases ec : (dueT L).1 with
              | none => rfl
              | some d =>
                rw [okT.1 d ec] at e
                cases e
            rw [okT.2.1 ec] at e
            obtain rfl := Sum.inl.inj e
            have e1 : dz.1 = none := by rw [← hdz, ec]
            have e2 : dz.2 = (dueT L).2 := by rw [← hdz]
            obtain ⟨h7, h8, s8⟩ := bad (plA (toksP tx) (dueT L).2) dd G7 H7 e1 (by rw [e2]) gr hd
            have hd4 : upd G7 dd (.xd [(("at" : Str), .int (plA (toksP tx) (dueT L).2 : Nat))]) dd = some (.xd [(("at" : Str), .int (plA (toksP tx) (dueT L).2 : Nat))]) := upd_same
            generalize upd G7 dd (.xd [(("at" : Str), .int (plA (toksP tx) (dueT L).2 : Nat))]) = G8 at h8 hd4 s8
            refine ⟨true, te, fun _ bb _ => ?_, fun z => by cases z⟩
            show tSeq _ _ (Ends.mk _ _ _ _) [some (.str tx), some (.bl false), some (.ref p2), some (.ref aD), some .non, some (.ref pS), some (.ref bb)] _
            refine q_set h8 (ev_lstN st (ea_consV (ka := 0) (kb := 0) (ev_fldX st (ev_var rfl) hd4) (ea_consV (ka := 0) (kb := 0) (ev_cbV (ea_consV (ev_var rfl) (ea_consV ev_c ea_nilV)) (c_isX st hd4 (fun _ r => r) kD)) ea_nilV)) (by simp)) fun v9 G9 H9 s9 r9 => ?_
            obtain ⟨p9, rfl, _, g9⟩ := r9
            exact q_end (hn _ _ ⟨G9, .non, p9, _, rfl, s9.s, s8.trans s9.g, g9, .inr ⟨e1, by rw [e2]⟩⟩)
    · obtain ⟨z1, z2⟩ := Bool.and_eq_true_iff.mp p4.symm
      have edz : dz.1 = none := by
        rw [← hdz]
        unfold dueZ
        obtain ⟨o, qz⟩ := z0
        cases o with
        | none => rfl
        | some d =>
          show (if L.getD qz "" = "" then (some d, qz) else (none, qz)).1 = none
          rw [if_neg (by rw [eA]; simpa using z2)]
      refine q_set h4 (ev_lstXN st (RA := RCons (IsV .non) (RCons (IsV (.int (z0.2 : Nat))) RNil)) (ea_cons (ka := 0) (kb := 0) ev_c (ea_cons (ka := 0) (kb := 0) (ix1 gZ rfl) ea_nil)) rc2_len) fun v5 G5 H5 s5 r5 => q_end ?_
      obtain ⟨a5, x5, rfl, _, g5, u1, u2, e1, i1, u3, u4, e3, i3, i4⟩ := r5
      subst e1 e3
      obtain rfl := (show u1 = _ from i1)
      obtain rfl := (show u3 = _ from i3)
      obtain rfl := (show u4 = [] from i4)
      exact hu _ _ ⟨G5, a5, .non, rfl, s5.s, s5.g, by rw [dz2]; exact g5, by rw [edz]; rfl⟩
    · have edz : dz.1 = z0.1 := by
        rw [← hdz]
        unfold dueZ
        obtain ⟨o, qz⟩ := z0
        cases o with
        | none => rfl
        | some d =>
          show (if L.getD qz "" = "" then (some d, qz) else (none, qz)).1 = some d
          have p4 : false = (true && !decide (tkA (toksP tx) qz = "")) := p4
          rw [if_pos (by rw [eA]; simpa using p4)]
      rw [edz]
      exact iZ
def bentA : List Str := ["(", ")", "skip", "to", "end", "program", "then", "loop", "007", "-1", "0", "X", "x_y", repS "a" 13]
def bentB : List Str := [repS "1" 61, repS "9" 60, "\n",
  "a\tb", "12a", "b2", "+1",
  "call", "x", "00", "01", "a1b"]
def bentC (o : Str) : List Str := [("a" : Str) ++ o ++ ("b" : Str), ("step" : Str) ++ o, ("1" : Str) ++ o, ("x9" : Str) ++ o ++ ("z" : Str)]
def oddS : Str := "ABXYZ_-.,;:!?*+/=<>@#"
theorem bent_ok : ∀ w ∈ bentA ++ bentB, PyData.strOk w = true ∧ w.length ≤ 61 := by decide +kernel
theorem bent_lits : (∀ w ∈ (["a", "b", "step", "1", "x9", "z"] : List Str), PyData.strOk w = true ∧ w.length ≤ 4) ∧ ("a" : Str).length = 1 ∧ ("1" : Str).length = 1 ∧ ("9" : Str).length = 1 ∧ ("b" : Str).length = 1 ∧ ("step" : Str).length = 4 ∧ ("x9" : Str).length = 2 ∧ ("z" : Str).length = 1 ∧ oddS.length = 21 := by decide +kernel
theorem bentC_ok {o : Str} (h : TxM 1 o) : ∀ w ∈ bentC o, TxM 61 w := by
  obtain ⟨k, _⟩ := bent_lits
  have g : ∀ {x : Str}, x ∈ (["a", "b", "step", "1", "x9", "z"] : List Str) → TxM 4 x := fun hx => k _ hx
  intro w hw
  unfold bentC at hw
  simp only [List.mem_cons, List.not_mem_nil, or_false] at hw
  rcases hw with rfl | rfl | rfl | rfl
  · exact (((g (by simp)).app h).app (g (by simp))).up (by decide)
  · exact ((g (by simp)).app h).up (by decide)
  · exact ((g (by simp)).app h).up (by decide)
  · exact (((g (by simp)).app h).app (g (by simp))).up (by decide)
theorem odd_at : ∀ i, i < 21 → ∃ c, atI oddS.cps.toList ((i : Nat) : Int) = some c ∧ TxM 1 (⟨#[c]⟩ : Str) := by
  have e : ∀ i, i < 21 → ((atI oddS.cps.toList ((i : Nat) : Int)).any fun c => decide (c < 128)) = true := by decide +kernel
  intro i h
  have q := e i h
  cases z : atI oddS.cps.toList ((i : Nat) : Int) with
  | none =>
    rw [z] at q
    cases q
  | some c =>
    rw [z] at q
    have q : c < 128 := of_decide_eq_true q
    refine ⟨c, rfl, ?_, Nat.le_refl 1⟩
    rw [strOk_iff]
    intro x hx
    obtain rfl := List.mem_singleton.mp (show x ∈ [c] from hx)
    omega
theorem cutV_fromG {xs : List V} {a : Nat} : cutV xs (some ((a : Nat) : Int)) none = xs.drop a := by
  unfold cutV
  rw [HT.sIx_nat, HT.sIx_none]
  by_cases h : a ≤ xs.length
  · rw [Nat.min_eq_left h, List.take_of_length_le (Nat.le_of_eq List.length_drop)]
  · rw [Nat.min_eq_right (by omega), List.drop_length, List.drop_of_length_le (by omega)]
    exact List.take_nil
abbrev s__law_bent : Stmt := top 28
theorem sc__law_bent : FnScope ["_law_source_here", "_law_words", "_law_strange", "_law_odd", "_law_at", "_law_pick_here", "_law_new"] ["_law_source_here", "_law_words"] (defScope s__law_bent) := ⟨rfl, rfl, rfl, by decide +kernel, rfl, by decide +kernel, by decide +kernel⟩
theorem ok_lbent20 {f : Addr} {fd : FuncData} (Z : Bi mg) (c__law_pick : Callee P w K mg base "_law_pick" CX0 1 ["_law_source_here", "_law_many"] [] sp_pick) (F : Fun K "_law_bent" "_law_bent" s__law_bent f fd) : FnOk P w K mg base CX0 2 f fd ["_law_source_here", "_law_words"] (spS PBnt) := by
  refine F.ok sc__law_bent (fun vs H Q E h => ?_) (fun cdv A outer s H vs Q E hr h => ?_)
  · obtain ⟨_, _, _, _, _, _, _, ⟨_, _, _, _, rfl, _⟩, _⟩ := h
    rfl
  · obtain ⟨sa, cl, n, k, G, R, h0, ⟨p, L, B, N, rfl, gp, wd, hN, rfl, rfl⟩, q⟩ := h
    refine ⟨_, (pss_cons (ps_set (i := 2) sc__law_bent.nd rfl (Or.inl rfl) (pe_lst (pa_cons pe_str (pa_cons pe_str (pa_cons pe_str (pa_cons pe_str (pa_cons pe_str (pa_cons pe_str (pa_cons pe_str (pa_cons pe_str (pa_cons pe_str (pa_cons pe_str (pa_cons pe_str (pa_cons pe_str (pa_cons pe_str (pa_cons (pe_op op_mulS pe_str pe_int) pa_nil))))))))))))))))
  (pss_cons (ps_set (i := 2) sc__law_bent.nd rfl (Or.inl rfl) (pe_op op_addA (pv 2) (pe_lst (pa_cons (pe_op op_mulS pe_str pe_int) (pa_cons (pe_op op_mulS pe_str pe_int) (pa_cons pe_str (pa_cons pe_str (pa_cons pe_str (pa_cons pe_str (pa_cons pe_str (pa_cons pe_str (pa_cons pe_str (pa_cons pe_str (pa_cons pe_str (pa_cons pe_str pa_nil)))))))))))))))
  (pss_cons (ps_set (i := 3) sc__law_bent.nd rfl (Or.inl rfl) (pe_ix (ix_any K (hu_of hr)) pe_str (pe_callC c__law_pick (hr.mono (by decide)) pass0 (pa_cons (pv 0) (pa_cons pe_int pa_nil))) (fun _ _ => rfl)))
  (pss_cons (ps_set (i := 2) sc__law_bent.nd rfl (Or.inl rfl) (pe_op op_addA (pv 2) (pe_lst (pa_cons (pe_op op_addA (pe_op op_addA pe_str (pv 3)) pe_str) (pa_cons (pe_op op_addA pe_str (pv 3)) (pa_cons (pe_op op_addA pe_str (pv 3)) (pa_cons (pe_op op_addA (pe_op op_addA pe_str (pv 3)) pe_str) pa_nil)))))))
  (pss_cons (ps_set (i := 4) sc__law_bent.nd rfl (Or.inl rfl) (pe_callC c__law_pick (hr.mono (by decide)) pass0 (pa_cons (pv 0) (pa_cons (pe_op op_addA (pe_callB (call_lenA K) (by rfl) Z.z_len PySem.boot_len (pa_cons (pv 1) pa_nil)) pe_int) pa_nil))))
  (pss_cons (ps_set (i := 5) sc__law_bent.nd rfl (Or.inl rfl) (pe_callC c__law_pick (hr.mono (by decide)) pass0 (pa_cons (pv 0) (pa_cons pe_int pa_nil))))
  (pss_cons (ps_set (i := 6) sc__law_bent.nd rfl (Or.inl rfl) (pe_ix (ix_any K (hu_of hr)) (pv 2) (pe_callC c__law_pick (hr.mono (by decide)) pass0 (pa_cons (pv 0) (pa_cons (pe_callB (call_lenA K) (by rfl) Z.z_len PySem.boot_len (pa_cons (pv 2) pa_nil)) pa_nil))) (fun _ _ => rfl)))
  (pss_cons (ps_if (pt_cmpR op_ltA (pv 5) pe_int (nomark _)) (pss_cons (ps_ret (pe_op op_addA (pe_slice (sl_listK K) (pv 1) po_none (po_some (pv 4))) (pe_ifExp (pt_cmpR (op_eqA K hr.units) (pv 5) pe_int (nomark _)) (pe_slice (sl_listK K) (pv 1) (po_some (pe_op op_addA (pv 4) pe_int)) po_none) (pe_lst pa_nil))))
  pss_nil) pss_nil)
  (pss_cons (ps_ret (pe_op op_addA (pe_op op_addA (pe_slice (sl_listK K) (pv 1) po_none (po_some (pv 4))) (pe_lst (pa_cons (pv 6) pa_nil))) (pe_slice (sl_listK K) (pv 1) (po_some (pe_op op_subA (pe_op op_addA (pv 4) (pv 5)) pe_int)) po_none)))
  pss_nil))))))))), ?_⟩
    have st := stabS sa cl
    obtain ⟨_, la, l1, l9, lb, ls, lx, lz, lo⟩ := bent_lits
    have hsz : (500000 : Nat) ≤ sizeLine := by decide
    have cat : ∀ {m ka kb : Nat} {ta tb : TE} {σ : L2.St} {G' : Hp} {xs ys : List V}, Ev (Src sa cl) m ka ta σ G' (IsBl xs) → Ev (Src sa cl) (m + ka) kb tb σ G' (IsBl ys) → xs.length + ys.length ≤ 100000 → Ev (Src sa cl) m (ka + kb) (tOp rAddA ta tb) σ G' (IsBl (xs ++ ys)) := fun e1 e2 hl => ev_op e1 e2 fun x y G2 s2 hx hy => by
      obtain ⟨px, rfl, gx⟩ := hx
      obtain ⟨py, rfl, gy⟩ := hy
      exact rv_imp (v_cat st gx gy hl) fun v G3 s3 ⟨p', e1, e2, e3⟩ => ⟨p', e1, e3⟩
    have lst : ∀ {m : Nat} {t : TA} {σ : L2.St} {G' : Hp} {ys : List V}, EvA (Src sa cl) m 0 t σ G' (IsVs ys) → ys.length ≤ 1000 → Ev (Src sa cl) m 0 (tLst t) σ G' (IsBl ys) := fun e hl => (ev_lstN st e (by omega)).imp fun v G3 s3 ⟨p', e1, e2, e3⟩ => ⟨p', e1, e3⟩
    have var : ∀ {m i : Nat} {σ : L2.St} {G' : Hp} {pz : Addr} {xs : List V}, σ[i]? = some (some (.ref pz)) → G' pz = some (.lst xs) → Ev (Src sa cl) m 0 (tVar i) σ G' (IsBl xs) := fun e g => (ev_var e).imp fun v G2 s2 h => ⟨_, h, s2 _ _ g⟩
    show tSeq _ _ (Ends.mk _ _ _ _) [some _, some _, none, none, none, none, none] _
    refine q_set h0 (lst (ys := bentA.map V.str) (ea_consV ev_c (ea_consV ev_c (ea_consV ev_c (ea_consV ev_c (ea_consV ev_c (ea_consV ev_c (ea_consV ev_c (ea_consV ev_c (ea_consV ev_c (ea_consV ev_c (ea_consV ev_c (ea_consV ev_c (ea_consV ev_c (ea_consV (ev_opV ev_c ev_c (v_repS (k := 13) st (by decide) (by decide) (by omega) (by omega))) ea_nilV)))))))))))))) (by decide)) fun v2 G2 H2 s2 r2 => ?_
    obtain ⟨pA, rfl, gA⟩ := r2
    refine q_set s2.s (cat (var rfl gA) (lst (ys := bentB.map V.str) (ea_consV (ev_opV ev_c ev_c (v_repS (k := 61) st (by decide) (by decide) (by omega) (by omega))) (ea_consV (ev_opV ev_c ev_c (v_repS (k := 60) st (by decide) (by decide) (by omega) (by omega))) (ea_consV ev_c (ea_consV ev_c (ea_consV ev_c (ea_consV ev_c (ea_consV ev_c (ea_consV ev_c (ea_consV ev_c (ea_consV ev_c (ea_consV ev_c (ea_consV ev_c ea_nilV)))))))))))) (by decide)) (by decide)) fun v3 G3 H3 s3 r3 => ?_
    obtain ⟨pB, rfl, gB⟩ := r3
    rw [← List.map_append] at gB
    refine q_set s3.s (R := IsS (TxM 1)) (ev_op (ka := 0) (kb := 1) (Ra := IsV (.str oddS)) ev_c (ev_pick (ea_consV (ev_var rfl) (ea_consV ev_c ea_nilV)) (by decide) (by decide)) fun x y G' s' hx hy => ?_) fun v4 G4 H4 s4 r4 => ?_
    · obtain rfl := (show _ = _ from hx)
      obtain ⟨i, hi, rfl⟩ := hy
      obtain ⟨i', rfl⟩ : ∃ a : Nat, i = (a : Nat) := ⟨i.toNat, by omega⟩
      obtain ⟨c, hc, tx⟩ := odd_at i' (by omega)
      exact rv_imp (v_ixS st (by omega) hc) fun v G2 s2 r => ⟨_, tx, r⟩
    obtain ⟨o, ho, rfl⟩ := r4
    have ol := ho.2
    refine q_set s4.s (cat (var rfl (s4.g _ _ gB)) (lst (ys := (bentC o).map V.str) (ea_consV (ev_opV (ev_opV ev_c (ev_var rfl) (v_adds st (by omega))) ev_c (v_adds st (by rw [Str.length_append]; omega))) (ea_consV (ev_opV ev_c (ev_var rfl) (v_adds st (by omega))) (ea_consV (ev_opV ev_c (ev_var rfl) (v_adds st (by omega))) (ea_consV (ev_opV (ev_opV ev_c (ev_var rfl) (v_adds st (by omega))) ev_c (v_adds st (by rw [Str.length_append]; omega))) ea_nilV)))) (by simp [bentC])) (by rw [List.length_map, List.length_map]; show 26 + 4 ≤ _; decide)) fun v5 G5 H5 s5 r5 => ?_
    obtain ⟨pC, rfl, gC⟩ := r5
    rw [← List.map_append] at gC
    obtain ⟨W, hW⟩ : ∃ W, W = bentA ++ bentB ++ bentC o := ⟨_, rfl⟩
    rw [← hW] at gC
    have okW : ∀ w ∈ W, TxM 61 w := fun w hw => by
      rw [hW] at hw
      rcases List.mem_append.mp hw with h | h
      · exact bent_ok w h
      · exact bentC_ok ho w h
    have lW : W.length = 30 := by rw [hW]; rfl
    have lL := wd.n
    have g5 := (((s2.g.trans s3.g).trans s4.g).trans s5.g) _ _ gp
    have lm : ((L.map V.str).length : Nat) = L.length := List.length_map _
    refine q_setI st s5.s (P := fun i => 0 ≤ i ∧ i < ((L.length + 1 : Nat) : Int)) (ev_pick (many := ((L.length + 1 : Nat) : Int)) (ea_consV (ev_var rfl) (ea_consV (ev_eq (congrArg V.int (show (((L.map V.str).length : Nat) : Int) + 1 = ((L.length + 1 : Nat) : Int) by rw [lm]; omega)) (ev_opV (ev_cbV (ea_consV (ev_var rfl) ea_nilV) (c_lenL st (SqL.of g5))) ev_c (v_add st))) ea_nilV)) (by omega) (by omega)) fun a H6 ha k6 h6 => ?_
    obtain ⟨a', rfl⟩ : ∃ b : Nat, a = (b : Nat) := ⟨a.toNat, by omega⟩
    refine q_setI st h6 (P := fun i => 0 ≤ i ∧ i < 5) (ev_pick (ea_consV (ev_var rfl) (ea_consV ev_c ea_nilV)) (by decide) (by decide)) fun b H7 hb k7 h7 => ?_
    obtain ⟨b', rfl⟩ : ∃ c : Nat, b = (c : Nat) := ⟨b.toNat, by omega⟩
    refine q_set h7 (ev_nmP (L := W) ⟨gC, by omega, by omega⟩ rfl rfl) fun v8 G8 H8 s8 r8 => ?_
    obtain ⟨nw, hnw, rfl⟩ := r8
    have tw := okW _ hnw
    have g8 := s8.g _ _ g5
    have fr := ((((((s2.fr.trans s3.fr).trans s4.fr).trans s5.fr).kp k6).kp k7).trans s8.fr)
    show tSeq _ _ (Ends.mk _ _ _ _) [some (.ref sa), some (.ref p), some (.ref pC), some (.str o), some (.int (a' : Nat)), some (.int (b' : Nat)), some (.str nw)] _
    have sl : ∀ {m : Nat} {σ : L2.St} {G' : Hp}, Same G8 G' → σ[1]? = some (some (.ref p)) → σ[4]? = some (some (.int (a' : Nat))) → Ev (Src sa cl) m 0 (tSl (rSlL K) (tVar 1) tNoPart (tPart (tVar 4))) σ G' (IsBl ((L.take a').map V.str)) := fun s' e1 e4 => (ev_slLN st (ev_var e1) (SqL.of (s' _ _ g8)) eo_none (eo_some (ev_var e4))).imp fun v G3 s3 ⟨p', e1, e2, e3⟩ => by
      rw [cutV_to (by omega), ← List.map_take] at e3
      exact ⟨p', e1, e3⟩
    have sr : ∀ {m k j : Nat} {te : TE} {σ : L2.St} {G' : Hp}, Same G8 G' → σ[1]? = some (some (.ref p)) → Ev (Src sa cl) m k te σ G' (IsV (.int (j : Nat))) → Ev (Src sa cl) m k (tSl (rSlL K) (tVar 1) (tPart te) tNoPart) σ G' (IsBl ((L.drop j).map V.str)) := fun {m k j te σ G'} s' e1 e4 => by
      have z := (ev_slLN (K := K) (n := m) (ka := 0) (kb := k) (kc := 0) st (ev_var e1) (SqL.of (s' _ _ g8)) (eo_some e4) eo_none).imp (Rb := IsBl ((L.drop j).map V.str)) fun v G3 s3 ⟨p', e1, e2, e3⟩ => by
        rw [cutV_fromG, ← List.map_drop] at e3
        exact ⟨p', e1, e3⟩
      rw [show 0 + k + 0 = k by omega] at z
      exact z
    refine q_if st s8.s (et_testV (ev_opV (ev_var rfl) ev_c (v_lt st))) (fun H9 p9 k9 h9 => ?_) (fun H9 p9 k9 h9 => q_end ?_)
    · refine q_ret (R := fun v G' => ∃ j, a' ≤ j ∧ IsBl ((L.take a').map V.str ++ (L.drop j).map V.str) v G') h9 (ev_op (ka := 0) (kb := 0) (Ra := IsBl ((L.take a').map V.str)) (Rb := fun v G' => ∃ j, a' ≤ j ∧ IsBl ((L.drop j).map V.str) v G') (sl (Same.refl _) rfl rfl) (ev_if (ka := 0) (kb := 0) (kc := 0) (c := decide ((b' : Int) = 0)) st (et_testV (ev_opV (ev_var rfl) ev_c (v_eqI st))) (fun _ => (sr (j := a' + 1) (Same.refl _) rfl (ev_opV (ka := 0) (kb := 0) (ev_var rfl) ev_c (v_add st))).imp fun v G' s' h => ⟨a' + 1, by omega, h⟩) fun _ => (lst ea_nilV (by simp)).imp fun v G' s' h => ⟨a' + L.length, by omega, by rw [List.drop_of_length_le (by omega)]; exact h⟩) fun x y G' s' hx hy => ?_) fun v10 G10 H10 s10 r10 => ?_
      · obtain ⟨px, rfl, gx⟩ := hx
        obtain ⟨j, hj, py, rfl, gy⟩ := hy
        exact rv_imp (v_cat st gx gy (by rw [List.length_map, List.length_map, List.length_take, List.length_drop]; omega)) fun v G3 s3 ⟨p', e1, e2, e3⟩ => ⟨j, hj, p', e1, e3⟩
      · obtain ⟨j, hj, pr, rfl, gr⟩ := r10
        rw [← List.map_append] at gr
        exact q _ G10 H10 (Fr.stp ((fr.kp k9).trans s10.fr) (st.wk s10.s (by omega))) ⟨pr, _, rfl, gr, (wd.cut hj).up (by omega) (by omega)⟩
    · have hb2 : 2 ≤ b' := by
        have := of_decide_eq_false p9.symm
        omega
      refine q_ret h9 (cat (cat (sl (Same.refl _) rfl rfl) (lst (ys := [nw].map V.str) (ea_consV (ev_var rfl) ea_nilV) (by simp)) (by rw [List.length_map, List.length_take]; show _ + 1 ≤ _; omega)) (sr (j := a' + (b' - 2)) (Same.refl _) rfl (ev_eq (congrArg V.int (show ((a' : Nat) : Int) + ((b' : Nat) : Int) - 2 = ((a' + (b' - 2) : Nat) : Int) by omega)) (ev_opV (ka := 0) (kb := 0) (ev_opV (ka := 0) (kb := 0) (ev_var rfl) (ev_var rfl) (v_add st)) ev_c (v_sub st)))) (by rw [List.length_append, List.length_map, List.length_map, List.length_map, List.length_take, List.length_drop]; show _ + 1 + _ ≤ _; omega)) fun v10 G10 H10 s10 r10 => ?_
      obtain ⟨pr, rfl, gr⟩ := r10
      rw [← List.map_append, ← List.map_append] at gr
      exact q _ G10 H10 (Fr.stp ((fr.kp k9).trans s10.fr) (st.wk s10.s (by omega))) ⟨pr, _, rfl, gr, wd.put tw (by omega)⟩
abbrev s__law_laid : Stmt := top 29
theorem sc__law_laid : FnScope ["_law_source_here", "_law_words", "_law_text_here", "_law_k", "_law_close"] ["_law_source_here", "_law_words"] (defScope s__law_laid) := ⟨rfl, rfl, rfl, by decide +kernel, rfl, by decide +kernel, by decide +kernel⟩
theorem ok_llaid20 {f : Addr} {fd : FuncData} (Z : Bi mg) (c__law_pick : Callee P w K mg base "_law_pick" CX0 1 ["_law_source_here", "_law_many"] [] sp_pick) (F : Fun K "_law_laid" "_law_laid" s__law_laid f fd) : FnOk P w K mg base CX0 2 f fd ["_law_source_here", "_law_words"] (spS PLaid) := by
  refine F.ok sc__law_laid (fun vs H Q E h => ?_) (fun cdv A outer s H vs Q E hr h => ?_)
  · obtain ⟨_, _, _, _, _, _, _, ⟨_, _, _, _, rfl, _⟩, _⟩ := h
    rfl
  · obtain ⟨sa, cl, n, k, G, R, h0, ⟨p, L, B, N, rfl, gp, wd, hN, rfl, rfl⟩, q⟩ := h
    refine ⟨_, (pss_cons (ps_set (i := 2) sc__law_laid.nd rfl (Or.inl rfl) (pe_op op_mulSp pe_str (pe_callC c__law_pick (hr.mono (by decide)) pass0 (pa_cons (pv 0) (pa_cons pe_int pa_nil)))))
  (pss_cons (ps_for PassesOwn.never rfl (pi_range1 (by rfl) Z.z_range (pa_cons (pe_callB (call_lenA K) (by rfl) Z.z_len PySem.boot_len (pa_cons (pv 1) pa_nil)) pa_nil)) (pg_name (i := 3) sc__law_laid.nd rfl (Or.inl rfl)) (pss_cons (ps_set (i := 4) sc__law_laid.nd rfl (Or.inl rfl) (pe_and (pe_cmpR op_gtA (pv 3) pe_int (nomark _)) (pe_and (pe_not (pe_cmpR op_in_str (pe_ix (ix_any K (hu_of hr)) (pv 1) (pv 3) (fun _ _ => rfl)) pe_str (by rfl))) (pe_one (pe_not (pe_cmpR op_in_str (pe_ix (ix_any K (hu_of hr)) (pv 1) (pe_op op_subA (pv 3) pe_int) (fun _ _ => rfl)) pe_str (by rfl)))))))
  (pss_cons (ps_set (i := 2) sc__law_laid.nd rfl (Or.inl rfl) (pe_op op_addA (pe_op op_addA (pv 2) (pe_op op_mulSp pe_str (pe_op op_addA (pe_callC c__law_pick (hr.mono (by decide)) pass0 (pa_cons (pv 0) (pa_cons pe_int pa_nil))) (pe_ifExp (pt_val (pv 4)) pe_int pe_int)))) (pe_ix (ix_any K (hu_of hr)) (pv 1) (pv 3) (fun _ _ => rfl))))
  pss_nil)))
  (pss_cons (ps_ret (pe_op op_addA (pv 2) (pe_op op_mulSp pe_str (pe_callC c__law_pick (hr.mono (by decide)) pass0 (pa_cons (pv 0) (pa_cons pe_int pa_nil))))))
  pss_nil))), ?_⟩
    have st := stabS sa cl
    have hsz : (500000 : Nat) ≤ sizeLine := by decide
    have lL := wd.n
    have lB := wd.s
    have lm : (L.map V.str).length = L.length := List.length_map _
    have blk : ∀ {m ka : Nat} {te : TE} {σ : L2.St} {G' : Hp} {M : Nat}, M ≤ 10 → Ev (Src sa cl) m ka te σ G' (IsI fun i => 0 ≤ i ∧ i ≤ (M : Int)) → Ev (Src sa cl) m (0 + ka) (tOp rMulSp (tC (.str " ")) te) σ G' (IsS (TxM M)) := fun {m ka te σ G' M} hM e =>
      ev_op (Ra := IsV (.str " ")) ev_c e fun x y G2 s2 hx hy => by
        obtain rfl := (show _ = _ from hx)
        obtain ⟨i, hi, rfl⟩ := hy
        obtain ⟨a, rfl⟩ : ∃ a : Nat, i = (a : Nat) := ⟨i.toNat, by omega⟩
        exact rv_imp (v_mulSp st (by omega)) fun v G3 s3 r => ⟨_, (TxM.blk a).up (by omega), r⟩
    have pk : ∀ {m : Nat} {σ : L2.St} {G' : Hp}, σ[0]? = some (some (.ref sa)) → Ev (Src sa cl) m 1 (tCall sp_pick [] E0 (tCons (tVar 0) (tCons (tC (.int 3)) tNil))) σ G' (IsI fun i => 0 ≤ i ∧ i ≤ ((2 : Nat) : Int)) := fun e => ev_impI (ev_pick (ka := 0) (ea_consV (ev_var e) (ea_consV ev_c ea_nilV)) (by decide) (by decide)) fun j hj => ⟨hj.1, by omega⟩
    show tSeq _ _ (Ends.mk _ _ _ _) [some _, some _, none, none, none] _
    refine q_set h0 (blk (M := 2) (by decide) (pk rfl)) fun v2 G2 H2 s2 r2 => ?_
    obtain ⟨tx0, ht0, rfl⟩ := r2
    have g2 := s2.g _ _ gp
    refine q_forR (m := ((L.length : Nat) : Int)) (k := 0) st s2.s (ea_consV (ev_eq (congrArg V.int (by rw [lm])) (ev_cbV (ea_consV (ev_var rfl) ea_nilV) (c_lenL st (SqL.of g2)))) ea_nilV) (fun j => j) (fun j σ' G' J => ∃ tx y3 y4, σ' = [some (.ref sa), some (.ref p), some (.str tx), y3, y4] ∧ TxM (2 + 3 * j + sumL (L.take j)) tx ∧ Fr (Src sa cl) G H G' J) rfl (by omega) (by omega) (fun H' k' h' => ⟨tx0, none, none, rfl, ht0, s2.fr.kp k'⟩) (fun j σ' G' J hj sG hS hP => ?_) (fun σ' G' J sG hS hP => ?_)
    · obtain ⟨tx, y3, y4, rfl, htx, fr⟩ := hP
      show tSeq _ _ (Ends.mk _ _ _ _) [some (.ref sa), some (.ref p), some (.str tx), some (.int (j : Nat)), y4] _
      have hj' : j < L.length := by omega
      have gj := sG _ _ g2
      have wj : L[j]? = some L[j] := List.getElem?_eq_getElem hj'
      have okj := wd.ok _ (List.getElem_mem hj')
      have t1 := sumL_td L (j + 1)
      have t2 : sumL (L.take (j + 1)) = sumL (L.take j) + L[j].length := by
        rw [List.take_succ_eq_append_getElem hj', sumL_app, sumL_one]
      generalize L[j] = wd1 at wj okj t2
      have ixw : ∀ {m j' : Nat} {te : TE} {σ : L2.St} {x : Str}, σ[1]? = some (some (.ref p)) → L[j']? = some x → Ev (Src sa cl) m 0 te σ G' (IsV (.int (j' : Nat))) → Ev (Src sa cl) m 0 (tOp (rIxA K) (tVar 1) te) σ G' (IsV (.str x)) := fun e1 hx e2 => ev_opV (ka := 0) (kb := 0) (ev_var e1) e2 (v_ixL st (SqL.of gj) (atI_nat (by rw [List.getElem?_map, hx]; rfl)))
      have e4 : ∀ {m : Nat} {y : Option V}, ∃ b : Bool, Ev (Src sa cl) m 0 (tAndV (tOp rGtI (tVar 3) (tC (.int 0))) (tAndV (tNotV (tOp (fun x y H Q => ∃ i j, x = .str i ∧ y = .str j ∧ Q (.bl (!(Builtin.Str.occurrences j i 0 j.length 1).isEmpty)) H) (tOp (rIxA K) (tVar 1) (tVar 3)) (tC (.str "()")))) (tNotV (tOp (fun x y H Q => ∃ i j, x = .str i ∧ y = .str j ∧ Q (.bl (!(Builtin.Str.occurrences j i 0 j.length 1).isEmpty)) H) (tOp (rIxA K) (tVar 1) (tOp rSubI (tVar 3) (tC (.int 1)))) (tC (.str "()")))))) [some (.ref sa), some (.ref p), some (.str tx), some (.int (j : Nat)), y] G' (IsV (.bl b)) := by
        intro m y
        by_cases hj0 : j = 0
        · subst hj0
          exact ⟨_, ev_andV (ka := 0) (kb := 0) (b := false) st (ev_opV (ka := 0) (kb := 0) (ev_var rfl) ev_c (v_gt st)) fun z => by cases z⟩
        · have hx : L[j - 1]? = some L[j - 1] := List.getElem?_eq_getElem (by omega)
          exact ⟨_, ev_andV (ka := 0) (kb := 0) st (ev_opV (ka := 0) (kb := 0) (ev_var rfl) ev_c (v_gt st)) fun _ => ev_andV (ka := 0) (kb := 0) st (ev_notV (ev_opV (ka := 0) (kb := 0) (ixw rfl wj (ev_var rfl)) ev_c (v_inS st))) fun _ => ev_notV (ev_opV (ka := 0) (kb := 0) (ixw rfl hx (ev_eq (congrArg V.int (show ((j : Nat) : Int) - 1 = ((j - 1 : Nat) : Int) by omega)) (ev_opV (ka := 0) (kb := 0) (ev_var rfl) ev_c (v_sub st)))) ev_c (v_inS st))⟩
      obtain ⟨b, e4⟩ := e4 (m := n + 1 + 0 + j) (y := y4)
      refine q_setV st hS e4 fun H5 k5 h5 => ?_
      show tSeq _ _ (Ends.mk _ _ _ _) [some (.ref sa), some (.ref p), some (.str tx), some (.int (j : Nat)), some (.bl b)] _
      refine q_set h5 (ev_catT (N := wd1.length) (M := 2 + 3 * j + sumL (L.take j) + 3) st (ev_catT (N := 3) st (ev_TxV (ev_var rfl) htx) (blk (M := 3) (by decide) (ev_op (ka := 1) (kb := 0) (Ra := IsI fun i => 0 ≤ i ∧ i ≤ ((2 : Nat) : Int)) (Rb := IsI fun i => 0 ≤ i ∧ i ≤ 1) (pk rfl) (ev_if (ka := 0) (kb := 0) (kc := 0) (c := b) st (et_B (ev_var rfl)) (fun _ => ev_c.imp fun v G' s' e => ⟨1, by decide, e⟩) fun _ => ev_c.imp fun v G' s' e => ⟨0, by decide, e⟩) fun x y G' s' hx hy => ?_)) (by omega)) (ev_TxV (ixw rfl wj (ev_var rfl)) ⟨okj, Nat.le_refl _⟩) (by omega)) fun v6 G6 H6 s6 r6 => ?_
      · obtain ⟨a, ha, rfl⟩ := hx
        obtain ⟨b, hb, rfl⟩ := hy
        exact rv_imp (v_add st) fun v G3 s3 r => ⟨a + b, by omega, r⟩
      · obtain ⟨z, hz, rfl⟩ := r6
        exact q_end ⟨G6, sG.trans s6.g, st.wk s6.s (by omega), z, _, _, rfl, hz.up (by omega), (fr.kp k5).trans s6.fr⟩
    · obtain ⟨tx, y3, y4, rfl, htx, fr⟩ := hP
      have tl : sumL (L.take L.length) ≤ B := by rw [List.take_length]; exact lB
      have e0 : ((L.length : Nat) : Int).toNat = L.length := rfl
      rw [e0] at htx hS
      refine q_ret hS (ev_catT (M := 14998) (N := 2) st (ev_TxV (ev_var rfl) (htx.up (by omega))) (blk (M := 2) (by decide) (pk rfl)) (by decide)) fun v3 G3 H3 s3 r3 => ?_
      obtain ⟨z, hz, rfl⟩ := r3
      exact q _ G3 H3 (Fr.stp (fr.trans s3.fr) (st.wk s3.s (by omega))) ⟨z, hz.up (by decide), rfl⟩
theorem lits20 : ∀ s ∈ (["(to ", " ", ")", "(program ", "(loop ", "skip", "(then ", "(program (to q (deed d)) (to p ", "))"] : List Str), PyData.strOk s = true ∧ s.length ≤ 40 := by decide +kernel
theorem litl20 : ("(loop " : Str).length = 6 ∧ (")" : Str).length = 1 := by decide +kernel
abbrev s_law : Stmt := top 31
theorem sc_law : FnScope ["_law_script", "_law_source_here", "_law_whole", "_law_names_here", "_law_rows", "_law_k", "_law_text_here", "_law_words", "_law_many", "_law_deep", "_law_early", "_law_row"] ["_law_script"] (defScope s_law) := ⟨rfl, rfl, rfl, by decide +kernel, rfl, by decide +kernel, by decide +kernel⟩
theorem ok_law20 {f : Addr} {fd : FuncData} (Z : Bi mg) (c__law_source : Callee P w K mg base "_law_source" CX0 1 ["_law_script"] [] (sp_source K)) (c__law_pick : Callee P w K mg base "_law_pick" CX0 1 ["_law_source_here", "_law_many"] [] sp_pick)
    (c__law_names : Callee P w K mg base "_law_names" CX0 4 ["_law_source_here", "_law_many"] [] (spS PNms)) (c__law_term : Callee P w K mg base "_law_term" CX0 6 ["_law_source_here", "_law_deeds", "_law_procedures", "_law_ways", "_law_depth"] [] (spS (PTrA 3)))
    (c__law_text : Callee P w K mg base "_law_text" CX0 4 ["_law_term_here"] [] (spP (PTxt 3))) (c__law_tokens : Callee P w K mg base "_law_tokens" CX0 1 ["_law_text_here"] [] (spP PLtk)) (c__law_bent : Callee P w K mg base "_law_bent" CX0 2 ["_law_source_here", "_law_words"] [] (spS PBnt))
    (c__law_laid : Callee P w K mg base "_law_laid" CX0 2 ["_law_source_here", "_law_words"] [] (spS PLaid)) (c__law_right : Callee P w K mg base "_law_right" CX0 43 ["_law_text_here", "_law_whole"] [] (spP PRgt))
    (F : Fun K "law" "law" s_law f fd) : FnOk P w K mg base CX0 44 f fd ["_law_script"] (sp_law K) := by
  refine F.ok sc_law (fun vs H Q E h => ?_) (fun cdv A outer s H vs Q E hr h => ?_)
  · obtain ⟨_, _, rfl, _⟩ := h
    rfl
  · obtain ⟨p, ns, rfl, hq, hl, q⟩ := h
    refine ⟨_, (pss_cons (ps_set (i := 1) sc_law.nd rfl (Or.inl rfl) (pe_callC c__law_source (hr.mono (by decide)) pass0 (pa_cons (pv 0) pa_nil)))
  (pss_cons (ps_set (i := 2) sc_law.nd rfl (Or.inl rfl) (pe_cmpR (op_eqA K hr.units) (pe_callC c__law_pick (hr.mono (by decide)) pass0 (pa_cons (pv 1) (pa_cons pe_int pa_nil))) pe_int (nomark _)))
  (pss_cons (ps_set (i := 3) sc_law.nd rfl (Or.inl rfl) (pe_callC c__law_names (hr.mono (by decide)) pass0 (pa_cons (pv 1) (pa_cons pe_int pa_nil))))
  (pss_cons (ps_set (i := 4) sc_law.nd rfl (Or.inl rfl) (pe_lst pa_nil))
  (pss_cons (ps_for PassesOwn.never rfl (pi_range1 (by rfl) Z.z_range (pa_cons (pe_op op_addA pe_int (pe_callC c__law_pick (hr.mono (by decide)) pass0 (pa_cons (pv 1) (pa_cons pe_int pa_nil)))) pa_nil)) (pg_name (i := 5) sc_law.nd rfl (Or.inl rfl)) (pss_cons (ps_expr (pe_bm PySem.F.plainAttrs_list PySem.F.slot_list_append PySem.F.type_list_append mt_append (pv 4) (pa_cons (pe_op op_addA (pe_op op_addA (pe_op op_addA (pe_op op_addA pe_str (pe_ix (ix_any K (hu_of hr)) (pv 3) pe_int (fun _ _ => rfl))) pe_str) (pe_callC c__law_text (hr.mono (by decide)) pass0 (pa_cons (pe_callC c__law_term (hr.mono (by decide)) pass0 (pa_cons (pv 1) (pa_cons (pv 3) (pa_cons (pv 3) (pa_cons (pv 3) (pa_cons pe_int pa_nil)))))) pa_nil))) pe_str) pa_nil)))
  pss_nil))
  (pss_cons (ps_set (i := 6) sc_law.nd rfl (Or.inl rfl) (pe_callC c__law_text (hr.mono (by decide)) pass0 (pa_cons (pe_callC c__law_term (hr.mono (by decide)) pass0 (pa_cons (pv 1) (pa_cons (pv 3) (pa_cons (pv 3) (pa_cons (pv 3) (pa_cons pe_int pa_nil)))))) pa_nil)))
  (pss_cons (ps_if (pt_val (pv 2)) (pss_cons (ps_set (i := 6) sc_law.nd rfl (Or.inl rfl) (pe_op op_addA (pe_op op_addA pe_str (pe_joinK K pe_str (pv 4))) pe_str))
  pss_nil) pss_nil)
  (pss_cons (ps_setLc (i := 7) (own := [("_law_row", 11)]) (g := (gName 11)) rfl sc_law.nd rfl rfl (sw_true rfl rfl rfl (by decide +kernel)) (pi_listK K (pe_callC c__law_tokens (hr.mono (by decide)) pass0 (pa_cons (pv 6) pa_nil))) (blkOk_by (by kernel_rfl)) (fun _ _ _ _ _ => (pg_name (i := 11) sc_law.nd rfl (Or.inl rfl))) (fun _ _ _ _ _ => pts_nil) (fun _ _ _ _ _ => (pe_ix (ix_any K (hu_of hr)) (pv 11) pe_int (fun _ _ => rfl))))
  (pss_cons (ps_expr (pe_bm0 PySem.F.plainAttrs_list PySem.F.slot_list_pop PySem.F.type_list_pop mt_pop (pv 7)))
  (pss_cons (ps_for PassesOwn.never rfl (pi_range1 (by rfl) Z.z_range (pa_cons (pe_callC c__law_pick (hr.mono (by decide)) pass0 (pa_cons (pv 1) (pa_cons pe_int pa_nil))) pa_nil)) (pg_name (i := 5) sc_law.nd rfl (Or.inl rfl)) (pss_cons (ps_set (i := 7) sc_law.nd rfl (Or.inl rfl) (pe_callC c__law_bent (hr.mono (by decide)) pass0 (pa_cons (pv 1) (pa_cons (pv 7) pa_nil))))
  pss_nil))
  (pss_cons (ps_set (i := 8) sc_law.nd rfl (Or.inl rfl) (pe_ifExp (pt_cmpR (op_eqA K hr.units) (pe_callC c__law_pick (hr.mono (by decide)) pass0 (pa_cons (pv 1) (pa_cons pe_int pa_nil))) pe_int (nomark _)) pe_int (pe_op op_addA pe_int (pe_callC c__law_pick (hr.mono (by decide)) pass0 (pa_cons (pv 1) (pa_cons pe_int pa_nil))))))
  (pss_cons (ps_set (i := 9) sc_law.nd rfl (Or.inl rfl) (pe_op op_addA (pe_op op_addA (pe_op op_mulS pe_str (pv 8)) pe_str) (pe_op op_mulS pe_str (pv 8))))
  (pss_cons (ps_if (pt_cmpR (op_eqA K hr.units) (pe_callC c__law_pick (hr.mono (by decide)) pass0 (pa_cons (pv 1) (pa_cons pe_int pa_nil))) pe_int (nomark _)) (pss_cons (ps_set (i := 10) sc_law.nd rfl (Or.inl rfl) (pe_op op_addA pe_int (pe_callC c__law_pick (hr.mono (by decide)) pass0 (pa_cons (pv 1) (pa_cons pe_int pa_nil)))))
  (pss_cons (ps_set (i := 9) sc_law.nd rfl (Or.inl rfl) (pe_op op_addA (pe_op op_addA (pe_op op_addA (pe_op op_addA (pe_op op_addA (pe_op op_addA pe_str (pe_op op_mulS pe_str (pv 10))) pe_str) (pe_op op_mulS pe_str (pv 10))) pe_str) (pv 9)) pe_str))
  pss_nil)) pss_nil)
  (pss_cons (ps_if (pt_val (pv 2)) (pss_cons (ps_set (i := 9) sc_law.nd rfl (Or.inl rfl) (pe_op op_addA (pe_op op_addA pe_str (pv 9)) pe_str))
  pss_nil) pss_nil)
  (pss_cons (ps_ret (pe_and (pe_callC c__law_right (hr.mono (by decide)) pass0 (pa_cons (pe_callC c__law_laid (hr.mono (by decide)) pass0 (pa_cons (pv 1) (pa_cons (pv 7) pa_nil))) (pa_cons (pv 2) pa_nil))) (pe_one (pe_callC c__law_right (hr.mono (by decide)) pass0 (pa_cons (pv 9) (pa_cons (pv 2) pa_nil))))))
  pss_nil))))))))))))))), ?_⟩
    show tSeq _ _ (Ends.mk _ _ _ _) [some _, none, none, none, none, none, none, none, none, none, none, none] _
    refine q_source (fun Q q => ⟨_, rfl, q⟩) hq (by omega) fun sa cl H1 h1 => ?_
    have st := stabS sa cl
    have lt : ∀ {s : Str}, s ∈ (["(to ", " ", ")", "(program ", "(loop ", "skip", "(then ", "(program (to q (deed d)) (to p ", "))"] : List Str) → TxM 40 s := fun h => lits20 _ h
    have tl6 : TxM 6 ("(loop " : Str) := ⟨(lits20 _ (by simp)).1, by rw [litl20.1]; exact Nat.le_refl _⟩
    have tl1 : TxM 1 (")" : Str) := ⟨(lits20 _ (by simp)).1, by rw [litl20.2]; exact Nat.le_refl _⟩
    have anyP : ∀ {m : Nat} {σ : L2.St} {G' : Hp} {many : Int}, 1 ≤ many → many ≤ 10 ^ 7 → σ[1]? = some (some (.ref sa)) → EvT (Src sa cl) m 1 (tTest (tOp (rEqA K) (tCall sp_pick [] E0 (tCons (tVar 1) (tCons (tC (.int many)) tNil))) (tC (.int 0)))) σ G' (fun _ => True) := fun {m σ G' many} h1 h2 e => et_any (Ra := IsI fun z => 0 ≤ z ∧ z < many) (Rb := IsV (.int 0)) (stabS sa cl) (ev_pick (ka := 0) (ea_consV (ev_var e) (ea_consV ev_c ea_nilV)) h1 h2) ev_c fun u v G' s' hu hv => by
      obtain ⟨z, _, rfl⟩ := hu
      obtain rfl := (show _ = _ from hv)
      exact ⟨_, v_eqI (stabS sa cl)⟩
    refine q_set h1 (R := IsB fun _ => True) (ev_op (ka := 1) (kb := 0) (Ra := IsI fun i => 0 ≤ i ∧ i < 2) (Rb := IsV (.int 0)) (ev_pick (ka := 0) (ea_consV (ev_var rfl) (ea_consV ev_c ea_nilV)) (by decide) (by decide)) ev_c fun x y G' s' hx hy => ?_) fun v2 G2 H2 s2 r2 => ?_
    · obtain ⟨i, _, rfl⟩ := hx
      obtain rfl := (show _ = _ from hy)
      exact rv_imp (v_eqI st) fun v G3 s3 r => ⟨_, trivial, r⟩
    obtain ⟨wh, _, rfl⟩ := r2
    refine q_set s2.s (ev_callSV (kb := 48) (R := IsNms 3) (ea_consV (ev_var rfl) (ea_consV ev_c ea_nilV)) fun G' s' => ⟨3, rfl, by decide, rfl, rfl⟩) fun v3 G3 H3 s3 r3 => ?_
    obtain ⟨pN, L, rfl, gN, nd, okN, l3, l1⟩ := r3
    have nm3 : IsNmL pN L G3 := ⟨gN, l1 (by decide), by omega⟩
    obtain ⟨n0, L', hL0⟩ : ∃ a r, L = a :: r := by
      cases L with
      | nil => exact absurd (l1 (by decide)) (by simp)
      | cons a r => exact ⟨a, r, rfl⟩
    have on0 : TxM 12 n0 := ⟨(okN n0 (by rw [hL0]; exact List.mem_cons_self)).n12.2, (okN n0 (by rw [hL0]; exact List.mem_cons_self)).l2⟩
    have g0 : (L.map V.str)[0]? = some (.str n0) := by rw [hL0]; rfl
    have okN' : ∀ s, s ∈ L → Nm12 s := fun s hs => (okN s hs).n12
    have trm : ∀ {m : Nat} {d : Nat} {σ : L2.St} {G' : Hp}, d ≤ 3 → Same G3 G' → σ[1]? = some (some (.ref sa)) → σ[3]? = some (some (.ref pN)) → Ev (Src sa cl) m 75 (tCall (spP (PTxt 3)) [] E0 (tCons (tCall (spS (PTrA 3)) [] E0 (tCons (tVar 1) (tCons (tVar 3) (tCons (tVar 3) (tCons (tVar 3) (tCons (tC (.int (d : Nat))) tNil)))))) tNil)) σ G' (IsS (TxM 1600)) := fun {m d σ G'} hd s' e1 e3 =>
      ev_callPW st (RA := RCons (IsTt (TmIn Nm12 Nm12 Nm12 3)) RNil) (ea_cons (ka := 75) (kb := 0) ((ev_callSV (ka := 0) (kb := 75) (R := IsTt (TmIn (· ∈ L) (· ∈ L) (· ∈ L) 3)) (ea_consV (ka := 0) (kb := 0) (ev_var e1) (ea_consV (ka := 0) (kb := 0) (ev_var e3) (ea_consV (ka := 0) (kb := 0) (ev_var e3) (ea_consV (ka := 0) (kb := 0) (ev_var e3) (ea_consV (ka := 0) (kb := 0) ev_c ea_nilV))))) fun G2 s2 => ⟨pN, pN, pN, L, L, L, d, rfl, hd, nm3.mono (s'.trans s2), nm3.mono (s'.trans s2), nm3.mono (s'.trans s2), rfl, rfl⟩).imp fun v G2 s2 ⟨t, ht, hv⟩ => ⟨t, ht.imp okN' okN' okN', hv⟩) ea_nil) fun vs G2 s2 h => by
        obtain ⟨_, _, rfl, ⟨t, ht, hv⟩, h2⟩ := h
        obtain rfl := (show _ = [] from h2)
        exact ⟨_, ⟨_, t, rfl, hv, ht, rfl⟩, fun v G4 e => ⟨t.txt, (tm_TxM ht).up (by decide), e⟩⟩
    refine q_newO (R := fun s : Str => IsV (.str s)) st s3.s fun D G4 H4 J4 s4 hD hO => ?_
    show tSeq _ _ (Ends.mk _ _ _ _) [some (.ref p), some (.ref sa), some (.bl wh), some (.ref pN), some (.ref D), none, none, none, none, none, none, none] _
    refine q_forRB (Pm := fun m => 1 ≤ m ∧ m ≤ 2) (k := 1) st hO.s.s (ea_cons (ka := 1) (kb := 0) (ev_op (ka := 0) (kb := 1) (Ra := IsV (.int 1)) (Rb := IsI fun r => 0 ≤ r ∧ r < 2) ev_c (ev_pick (ea_consV (ev_var rfl) (ea_consV ev_c ea_nilV)) (by decide) (by decide)) fun x y G' s' hx hy => by
      obtain rfl := (show _ = _ from hx)
      obtain ⟨j, hj, rfl⟩ := hy
      exact rv_imp (v_add st) fun v _ _ e => ⟨1 + j, by omega, e⟩) ea_nil) (fun j => j * 75) (fun j σ' G' J => ∃ rows y5, σ' = [some (.ref p), some (.ref sa), some (.bl wh), some (.ref pN), some (.ref D), y5, none, none, none, none, none, none] ∧ LcO (Src sa cl) G4 H4 (0 + 1 + 48 + 1 + j * 75) D (fun s : Str => IsV (.str s)) rows G' J ∧ rows.length = j ∧ ∀ q ∈ rows, TxM 1732 q) (by simp) (fun m hm => by omega) (fun H' k' h' => ?_) (fun m j σ' G' J hm hj sG hS hP => ?_) (fun m σ' G' J hm sG hS hP => ?_)
    · exact ⟨[], none, rfl, LcO.go st s4.s hD hO (Stp.go0 k' (st.wk h' (by omega))), rfl, fun q hq => by cases hq⟩
    · obtain ⟨rows, y5, rfl, hO5, lr, okr⟩ := hP
      show tSeq _ _ (Ends.mk _ _ _ _) [some (.ref p), some (.ref sa), some (.bl wh), some (.ref pN), some (.ref D), some (.int (j : Nat)), none, none, none, none, none, none] _
      have s3G := s4.g.trans sG
      refine q_appOx (P := TxM 1732) (k := 75) st s4.s hD hO5 (by omega) rfl (ea_cons (ka := 75) (kb := 0) (R := IsEx (TxM 1732) (fun s : Str => IsV (.str s))) (ev_catT (ka := 75) (kb := 0) (N := 40) (M := 40 + 12 + 40 + 1600) st (ev_catT (ka := 0) (kb := 75) (N := 1600) st (ev_catT (ka := 0) (kb := 0) (N := 40) st (ev_catT (ka := 0) (kb := 0) (M := 40) (N := 12) st (ev_TxC (lt (by simp))) (ev_TxV (ev_opV (ka := 0) (kb := 0) (ev_var rfl) ev_c (v_ixL st (SqL.of (s3G _ _ gN)) (atI_nat (j := 0) g0))) on0) (by decide)) (ev_TxC (lt (by simp))) (by decide)) (trm (d := 2) (by decide) s3G rfl rfl) (by decide)) (ev_TxC (lt (by simp))) (by decide)) ea_nil) fun x G6 J6 px s6 hO6 => q_end ?_
      have hO7 : LcO (Src sa cl) G4 H4 (0 + 1 + 48 + 1 + (j + 1) * 75) D (fun s : Str => IsV (.str s)) (rows ++ [x]) G6 J6 := ⟨hO6.s.wk st (by omega), hO6.d, hO6.a⟩
      refine ⟨G6, sG.trans s6, hO7.s.s, rows ++ [x], _, rfl, hO7, by rw [List.length_append, lr]; rfl, fun q hq => ?_⟩
      rcases List.mem_append.mp hq with z | z
      · exact okr q z
      · obtain rfl := List.mem_singleton.mp z
        exact px
    · obtain ⟨rows, y5, rfl, hO5, lr, okr⟩ := hP
      obtain ⟨G6, s6, s56, pD, lp, e, _, gD, rD⟩ := LcO.pub st s4.s (by omega) hD hO5
      obtain rfl := V.ref.inj e
      obtain rfl : lp = rows.map V.str := rl_vals rD
      have mC : m * 75 ≤ 2 * 75 := Nat.mul_le_mul_right _ (by omega)
      have s36 : Same G3 G6 := s4.g.trans s6.g
      refine q_set s6.s (trm (d := 3) (by decide) s36 rfl rfl) fun v7 G7 H7 s7 r7 => ?_
      obtain ⟨tx0, htx0, rfl⟩ := r7
      have gD7 := s7.g _ _ gD
      show tSeq _ _ (Ends.mk _ _ _ _) [some (.ref p), some (.ref sa), some (.bl wh), some (.ref pN), some (.ref D), y5, some (.str tx0), none, none, none, none, none] _
      refine q_ifB (k := 0) st (fun σ' H' => ∃ G' tx, σ' = [some (.ref p), some (.ref sa), some (.bl wh), some (.ref pN), some (.ref D), y5, some (.str tx), none, none, none, none, none] ∧ Src sa cl 500 G' H' ∧ TxM 3624 tx) s7.s (et_B (ev_var rfl)) (fun σ' H' hJ => ?_) (fun H8 hu p8 k8 h8 => ?_) (fun H8 hu p8 k8 h8 => q_end (hu _ _ ⟨G7, tx0, rfl, st.wk h8 (by omega), htx0.up (by decide)⟩))
      · obtain ⟨G8, tx, rfl, h8, htx⟩ := hJ
        have tl := htx.2
        obtain ⟨W, hW⟩ : ∃ W, W = fl (scan tx ([], "")) := ⟨_, rfl⟩
        have eT : (toksP tx).map (·.1) = W ++ [("" : Str)] := by rw [hW]; exact toks_words tx
        have tok := toks_ok htx.1
        have wd : Wds 3624 3626 W := by
          have a := toks_sum tx
          have b := toks_cnt tx
          have c : (toksP tx).length = W.length + 1 := by
            have := congrArg List.length eT
            rw [List.length_map, List.length_append] at this
            exact this
          rw [eT, sumL_app] at a
          refine ⟨fun w hw => ?_, by omega, by omega⟩
          have hw' : w ∈ (toksP tx).map (·.1) := by rw [eT]; exact List.mem_append_left _ hw
          obtain ⟨q, hq, rfl⟩ := List.mem_map.mp hw'
          exact (tok q hq).2
        have eV : (toksP tx).map (fun q => V.str q.1) = W.map V.str ++ [V.str ("" : Str)] := by
          have := congrArg (List.map V.str) eT
          rw [List.map_map, List.map_append] at this
          exact this
        have cnt := toks_cnt tx
        refine q_set h8 (R := IsNew G8 (.lst (W.map V.str ++ [V.str ("" : Str)]))) (ev_lcFst (k := 0) (k2 := 0) (R0 := IsNX G8 (RL IsRwk (toksP tx))) (ev_callV st (ea_consV (ev_var rfl) ea_nilV) fun G' s' => ⟨tx, G8, rfl, by omega, s', rfl⟩) fun v G' s' h => ?_) fun v9 G9 H9 s9 r9 => ?_
        · obtain ⟨pT, xs, rfl, _, gT, rT⟩ := h
          rw [← eV]
          refine (ev_lcRL (f := fun q : Str × Nat => V.str q.1) (ss := toksP tx) st ev_c (SqL.of gT) rT (by omega) fun a x ha hx => ?_).imp fun v G3 s3 ⟨p', e1, e2, e3⟩ => ⟨p', e1, s'.free e2, e3⟩
          obtain ⟨ar, rfl, ga⟩ := hx
          exact ⟨[some (.ref p), some (.ref sa), some (.bl wh), some (.ref pN), some (.ref D), y5, some (.str tx), none, none, none, none, some (.ref ar)], fun G2 J a1 a2 Q q => q, rfl, fun G2 a2 => ev_opV (ka := 0) (kb := 0) (ev_var rfl) ev_c (v_ixL st (SqL.of (a2 _ _ ga)) (atI_nat (j := 0) rfl))⟩
        · obtain ⟨pW, rfl, fW, gW⟩ := r9
          have hW0 : H' pW = none := (s9.n _ _ gW).resolve_left fun z => by rw [fW] at z; cases z
          show tSeq _ _ (Ends.mk _ _ _ _) [some (.ref p), some (.ref sa), some (.bl wh), some (.ref pN), some (.ref D), y5, some (.str tx), some (.ref pW), none, none, none, none] _
          refine q_popG (ka := 0) st h8 hW0 (fun m G' J h => src_cut h) s9.s gW (ev_var rfl) fun G10 H10 s10 h10 => ?_
          have gW10 : upd G10 pW (.lst (W.map V.str)) pW = some (.lst (W.map V.str)) := upd_same
          generalize upd G10 pW (.lst (W.map V.str)) = G11 at h10 gW10
          refine q_forRB (Pm := fun m => 0 ≤ m ∧ m < 4) (k := 1) st h10 (ea_cons (ka := 1) (kb := 0) (ev_pick (ka := 0) (ea_consV (ev_var rfl) (ea_consV ev_c ea_nilV)) (by decide) (by decide)) ea_nil) (fun j => j * 4) (fun j σ' G' J => ∃ z5 pw Lw, σ' = [some (.ref p), some (.ref sa), some (.bl wh), some (.ref pN), some (.ref D), z5, some (.str tx), some (.ref pw), none, none, none, none] ∧ G' pw = some (.lst (Lw.map V.str)) ∧ Wds (3624 + 61 * j) (3626 + j) Lw) (by simp) (fun m hm => by omega) (fun H' k' h' => ⟨_, pW, W, rfl, gW10, wd⟩) (fun m j σ' G' J hm hj sG hS hP => ?_) (fun m σ' G' J hm sG hS hP => ?_)
          · obtain ⟨z5, pw, Lw, rfl, gw, wj⟩ := hP
            show tSeq _ _ (Ends.mk _ _ _ _) [some (.ref p), some (.ref sa), some (.bl wh), some (.ref pN), some (.ref D), some (.int (j : Nat)), some (.str tx), some (.ref pw), none, none, none, none] _
            refine q_set hS (ev_callSV (ka := 0) (kb := 4) (R := IsWds (3624 + 61 * j + 61) (3626 + j + 1)) (ea_consV (ev_var rfl) (ea_consV (ev_var rfl) ea_nilV)) fun G2 s2 => ⟨pw, Lw, _, _, rfl, s2 _ _ gw, wj, by omega, rfl, rfl⟩) fun v12 G12 H12 s12 r12 => q_end ?_
            obtain ⟨pw', Lw', rfl, gw', wj'⟩ := r12
            exact ⟨G12, sG.trans s12.g, st.wk s12.s (by omega), _, pw', Lw', rfl, gw', wj'.up (by omega) (by omega)⟩
          · obtain ⟨z5, pw, Lw, rfl, gw, wj⟩ := hP
            have wj := wj.up (B' := 3807) (N' := 3629) (by omega) (by omega)
            have mC4 : m * 4 ≤ 3 * 4 := Nat.mul_le_mul_right _ (by omega)
            have hS := st.wk hS (show _ ≤ 600 by omega)
            refine q_setI st hS (P := fun i => 36 ≤ i ∧ i ≤ 900) (ev_ifA (ka := 0) (kb := 1) (kc := 1) st (anyP (by decide) (by decide) rfl) (ev_c.imp fun v G2 s2 e => ⟨900, by decide, e⟩) (ev_op (ka := 0) (kb := 1) (Ra := IsV (.int 36)) (Rb := IsI fun r => 0 ≤ r ∧ r < 10) ev_c (ev_pick (ka := 0) (ea_consV (ev_var rfl) (ea_consV ev_c ea_nilV)) (by decide) (by decide)) fun x y G2 s2 hx hy => ?_)) fun my H13 hmy k13 h13 => ?_
            · obtain rfl := (show _ = _ from hx)
              obtain ⟨j, hj, rfl⟩ := hy
              exact rv_imp (v_add st) fun v _ _ e => ⟨36 + j, by omega, e⟩
            show tSeq _ _ (Ends.mk _ _ _ _) [some (.ref p), some (.ref sa), some (.bl wh), some (.ref pN), some (.ref D), z5, some (.str tx), some (.ref pw), some (.int my), none, none, none] _
            have vi : ∀ {m i : Nat} {σ : L2.St} {G2 : Hp} {x : Int} {Px : Int → Prop}, Px x → σ[i]? = some (some (.int x)) → Ev (Src sa cl) m 0 (tVar i) σ G2 (IsI Px) := fun hp e => (ev_var e).imp fun v G2 s2 h => ⟨_, hp, h⟩
            refine q_set h13 (ev_catT (ka := 0) (kb := 0) st (ev_catT (ka := 0) (kb := 0) st (ev_repT (ka := 0) (kb := 0) (P := fun i => 36 ≤ i ∧ i ≤ 900) st tl6 (by rw [litl20.1]; decide) (by rw [litl20.1]; decide) (fun i hi => by omega) ev_c (vi hmy rfl)) (ev_TxC (lt (by simp))) (by decide)) (ev_repT (ka := 0) (kb := 0) (P := fun i => 36 ≤ i ∧ i ≤ 900) st tl1 (by rw [litl20.2]; decide) (by rw [litl20.2]; decide) (fun i hi => by omega) ev_c (vi hmy rfl)) (by decide)) fun v14 G14 H14 s14 r14 => ?_
            obtain ⟨dp0, hdp0, rfl⟩ := r14
            have hdp0 : TxM 6340 dp0 := hdp0.up (by decide)
            have gw14 := s14.g _ _ gw
            show tSeq _ _ (Ends.mk _ _ _ _) [some (.ref p), some (.ref sa), some (.bl wh), some (.ref pN), some (.ref D), z5, some (.str tx), some (.ref pw), some (.int my), some (.str dp0), none, none] _
            have wk14 := st.wk s14.s (show _ ≤ 700 by omega)
            refine q_ifB (k := 1) st (fun σ' H' => ∃ G' dp y10, σ' = [some (.ref p), some (.ref sa), some (.bl wh), some (.ref pN), some (.ref D), z5, some (.str tx), some (.ref pw), some (.int my), some (.str dp), y10, none] ∧ Src sa cl 800 G' H' ∧ Same G14 G' ∧ TxM 12900 dp) wk14 (anyP (by decide) (by decide) rfl) (fun σ' H' hJ => ?_) (fun H15 hu p15 k15 h15 => ?_) (fun H15 hu p15 k15 h15 => q_end (hu _ _ ⟨G14, dp0, none, rfl, st.wk h15 (by omega), Same.refl _, hdp0.up (by decide)⟩))
            · obtain ⟨G16, dp, y10, rfl, h16, s16, hdp⟩ := hJ
              refine q_ifB (k := 0) st (fun σ' H' => ∃ G' dp, σ' = [some (.ref p), some (.ref sa), some (.bl wh), some (.ref pN), some (.ref D), z5, some (.str tx), some (.ref pw), some (.int my), some (.str dp), y10, none] ∧ Src sa cl 800 G' H' ∧ Same G14 G' ∧ TxM 15000 dp) h16 (et_B (ev_var rfl)) (fun σ' H' hJ => ?_) (fun H17 hu p17 k17 h17 => ?_) (fun H17 hu p17 k17 h17 => q_end (hu _ _ ⟨G16, dp, rfl, h17, s16, hdp.up (by decide)⟩))
              · obtain ⟨G18, dq, rfl, h18, s18, hdq⟩ := hJ
                have rgt : ∀ {m k : Nat} {te : TE} {σ : L2.St} {G' : Hp}, σ[2]? = some (some (.bl wh)) → Ev (Src sa cl) m k te σ G' (IsS (TxM 15000)) → Ev (Src sa cl) m k (tCall (spP PRgt) [] E0 (tCons te (tCons (tVar 2) tNil))) σ G' (IsV (.bl true)) := fun e2 e => ev_call st (ea_cons (kb := 0) e (ea_cons (ka := 0) (kb := 0) (ev_var e2) ea_nil)) fun vs G2 s2 h => by
                  obtain ⟨_, _, rfl, ⟨z, hz, rfl⟩, _, _, rfl, e2, e3⟩ := h
                  obtain rfl := (show _ = _ from e2)
                  obtain rfl := (show _ = [] from e3)
                  exact ⟨z, wh, rfl, hz, rfl⟩
                refine q_retV st h18 (x := .bl (true && true)) (ev_andV (ka := 3631) (kb := 0) st (rgt rfl (ev_callSV (ka := 0) (kb := 3631) (ea_consV (ev_var rfl) (ea_consV (ev_var rfl) ea_nilV)) fun G2 s2 => ⟨pw, Lw, 3807, 3629, rfl, s2 _ _ (s18 _ _ gw14), wj, by decide, rfl, rfl⟩)) fun _ => rgt rfl (ev_TxV (ev_var rfl) hdq)) fun H19 k19 h19 => q _
              · refine q_set h17 (ev_catT (ka := 0) (kb := 0) (N := 40) (M := 12940) st (ev_catT (ka := 0) (kb := 0) (M := 40) (N := 12900) st (ev_TxC (lt (by simp))) (ev_TxV (ev_var rfl) hdp) (by decide)) (ev_TxC (lt (by simp))) (by decide)) fun v18 G18 H18 s18 r18 => q_end ?_
                obtain ⟨dq, hdq, rfl⟩ := r18
                exact hu _ _ ⟨G18, dq, rfl, s18.s, s16.trans s18.g, hdq.up (by decide)⟩
            · refine q_setI st h15 (P := fun i => 30 ≤ i ∧ i ≤ 41) (ev_op (ka := 0) (kb := 1) (Ra := IsV (.int 30)) (Rb := IsI fun r => 0 ≤ r ∧ r < 12) ev_c (ev_pick (ka := 0) (ea_consV (ev_var rfl) (ea_consV ev_c ea_nilV)) (by decide) (by decide)) fun x y G2 s2 hx hy => ?_) fun ey H16 hey k16 h16 => ?_
              · obtain rfl := (show _ = _ from hx)
                obtain ⟨j, hj, rfl⟩ := hy
                exact rv_imp (v_add st) fun v _ _ e => ⟨30 + j, by omega, e⟩
              · show tSeq _ _ (Ends.mk _ _ _ _) [some (.ref p), some (.ref sa), some (.bl wh), some (.ref pN), some (.ref D), z5, some (.str tx), some (.ref pw), some (.int my), some (.str dp0), some (.int ey), none] _
                refine q_set h16 (ev_catT (ka := 0) (kb := 0) (N := 40) st (ev_catT (ka := 0) (kb := 0) (N := 6340) st (ev_catT (ka := 0) (kb := 0) (N := 40) st (ev_catT (ka := 0) (kb := 0) st (ev_catT (ka := 0) (kb := 0) (N := 40) st (ev_catT (ka := 0) (kb := 0) (M := 40) st (ev_TxC (lt (by simp))) (ev_repT (ka := 0) (kb := 0) (P := fun i => 30 ≤ i ∧ i ≤ 41) st tl6 (by rw [litl20.1]; decide) (by rw [litl20.1]; decide) (fun i hi => by omega) ev_c (vi hey rfl)) (by decide)) (ev_TxC (lt (by simp))) (by decide)) (ev_repT (ka := 0) (kb := 0) (P := fun i => 30 ≤ i ∧ i ≤ 41) st tl1 (by rw [litl20.2]; decide) (by rw [litl20.2]; decide) (fun i hi => by omega) ev_c (vi hey rfl)) (by decide)) (ev_TxC (lt (by simp))) (by decide)) (ev_TxV (ev_var rfl) hdp0) (by decide)) (ev_TxC (lt (by simp))) (by decide)) fun v17 G17 H17 s17 r17 => q_end ?_
                obtain ⟨dp, hdp, rfl⟩ := r17
                exact hu _ _ ⟨G17, dp, _, rfl, st.wk s17.s (by omega), s17.g, hdp.up (by decide)⟩
      · have lr2 : rows.length ≤ 2 := by omega
        have jn := TxM.join (M := 40) (s := " ") (lt (by simp)) okr
        have jl := sum_len_le (L := 1732) fun y hy => (okr y hy).2
        have bl : rows.length * 1732 ≤ 2 * 1732 := Nat.mul_le_mul_right _ lr2
        have b2 : rows.length * (1732 + 40) ≤ 2 * (1732 + 40) := Nat.mul_le_mul_right _ lr2
        have b3 : rows.length * (" " : Str).length ≤ 2 * 40 := Nat.mul_le_mul lr2 (lt (by simp)).2
        refine q_set h8 (ev_catT (ka := 0) (kb := 0) (N := 40) (M := 40 + 3544) st (ev_catT (ka := 0) (kb := 0) (M := 40) (N := 3544) st (ev_TxC (lt (by simp))) ((ev_join (ka := 0) (kb := 0) (ys := rows) st ev_c ((ev_var rfl).imp fun u G' s' e => ⟨D, e, SqL.of (s' _ _ gD7)⟩) (by omega)).imp fun v G' s' e => ⟨_, jn.up (by omega), e⟩) (by decide)) (ev_TxC (lt (by simp))) (by decide)) fun v9 G9 H9 s9 r9 => q_end ?_
        obtain ⟨tx, htx, rfl⟩ := r9
        exact hu _ _ ⟨G9, tx, rfl, st.wk s9.s (by omega), htx.up (by decide)⟩
end
end L2.DS
namespace L2.DS
open PySem PySem.Spec PyProof.Rows
abbrev s_BadText___init__ : Stmt := inClass (top 2) 0
theorem exi_BadText {fd : FuncData} {s : Shared} {x v : Value} (e1 : fd.params = defArgs s_BadText___init__) (e2 : fd.scope = defScope s_BadText___init__) (e3 : fd.defaults = .none) (e4 : fd.kwdefaults = .none) : BindsTo s fd ⟨[x, v], []⟩ [("self", x), ("at", v)] := by
  refine .of_eq ?_
  unfold bindArgs
  rw [e1, e3, e4]
  rfl
end L2.DS
/-! What the looks say: defs with a closure over their class, own errors. -/
namespace L2.DS
open PySem PySem.Spec PyProof.Rows
section
variable {P : Program} {K : Fg} {f D C : Addr} {x qual file z nm : Str} {st : Stmt}
theorem ckFile_ok {vs : Array Value} (h : ckFile file vs = true) : ∃ fi tf, vs[2]? = some (.str fi tf) ∧ (file == fi) = true := by
  unfold ckFile at h
  split at h
  · rename_i fi tf e
    exact ⟨fi, tf, e, h⟩
  · cases h
theorem ckFlds_ok {o : Option Obj} (h : ckFlds file o = true) : ∃ c1 oc1 vs sl1, o = some ⟨c1, oc1, .fields vs, sl1⟩ ∧ ∃ fi tf, vs[2]? = some (.str fi tf) ∧ (file == fi) = true := by
  unfold ckFlds at h
  split at h
  · rename_i c1 oc1 vs sl1
    exact ⟨c1, oc1, vs, sl1, rfl, ckFile_ok h⟩
  · cases h
theorem ckCode_ok {v : Value} (h : ckCode file K qual v = true) : ∃ cda, v = .ref cda ∧ PySem.W.codeIn K (.ref cda) qual = true ∧ ckFlds file (K.lookup cda) = true := by
  unfold ckCode at h
  split at h
  · rename_i cda
    exact ⟨cda, rfl, and2 h⟩
  · cases h
theorem ckCell_ok {o : Option Obj} (h : ckCell D o = true) : ∃ c2 oc2 sl2, o = some ⟨c2, oc2, .cell (some (.ref D)), sl2⟩ := by
  unfold ckCell at h
  split at h
  · rename_i c2 oc2 D' sl2
    rw [of_decide_eq_true h]
    exact ⟨c2, oc2, sl2, rfl⟩
  · cases h
theorem ckClo_ok {l : List (Str × Addr)} (h : ckClo K D l = true) : ∃ cc, l = [(("__class__" : Str), cc)] ∧ ckCell D (K.lookup cc) = true := by
  unfold ckClo at h
  split at h
  · rename_i y cc
    obtain ⟨a, b⟩ := and2 h
    rw [of_decide_eq_true a]
    exact ⟨cc, rfl, b⟩
  · cases h
/-- all that stands behind a def that says super() -/
theorem sup_of (e : fnU K f = some (x, qual, defArgs st, .stmts (defBody st), defScope st, mainGlobals, builtinsNs)) (c : ckSup file K f D qual = true) :
    ∃ (oc : Value) (od : Option Addr) (kV doc pm : Value) (an : Option Addr) (cda : Addr) (ct : Value) (osl : Array (Option Value)) (cc : Addr) (c1 : Value) (oc1 : Option Addr) (vs : Array Value) (sl1 : Array (Option Value)) (fi : Str) (tf : Tok) (c2 : Value) (oc2 : Option Addr) (sl2 : Array (Option Value)),
    K.lookup f = some ⟨oc, od, .func (PySem.W.fnX x qual (defArgs st) (defBody st) (defScope st) [("__class__", cc)] .none kV doc pm an (.ref cda) ct), osl⟩ ∧ PySem.W.codeIn K (.ref cda) qual = true ∧ K.lookup cda = some ⟨c1, oc1, .fields vs, sl1⟩ ∧ vs[2]? = some (.str fi tf) ∧ (file == fi) = true ∧
    K.lookup cc = some ⟨c2, oc2, .cell (some (.ref D)), sl2⟩ ∧ PySem.W.keepIn K (.ref f) = true ∧ PySem.W.fnIn K f = true ∧ PySem.W.typeIn K (.ref f) = some (.type "function") ∧ (fdA K f).kwdefaults = kV := by
  obtain ⟨oc, od, osl, cl, dV, kV, doc, pm, an, cdv, ct, l⟩ := fnU_ok e
  obtain ⟨k, c⟩ := and2 c
  obtain ⟨k1, c⟩ := and2 c
  obtain ⟨k2, c⟩ := and2 c
  have kw : (fdA K f).kwdefaults = kV := by
    unfold fdA
    rw [l]
  rw [l] at c
  obtain ⟨a1, c⟩ := and2 c
  obtain ⟨a2, a3⟩ := and2 c
  obtain rfl := isNon_ok a1
  obtain ⟨cc, rfl, b1⟩ := ckClo_ok a2
  obtain ⟨cda, rfl, b2, b3⟩ := ckCode_ok a3
  obtain ⟨c1, oc1, vs, sl1, d1, fi, tf, d2, d3⟩ := ckFlds_ok b3
  obtain ⟨c2, oc2, sl2, e1⟩ := ckCell_ok b1
  exact ⟨oc, od, kV, doc, pm, an, cda, ct, osl, cc, c1, oc1, vs, sl1, fi, tf, c2, oc2, sl2, l, b2, d1, d2, d3, e1, k, k1, of_decide_eq_true k2, kw⟩
/-- a plain def, piece by piece -/
theorem fnl_of (e : fnU K f = some (x, qual, defArgs st, .stmts (defBody st), defScope st, mainGlobals, builtinsNs)) (c : ckFn K f qual = true) : ∃ oc od kV doc pm an cdv ct osl, K.lookup f = some ⟨oc, od, .func (PySem.W.fnOf x qual (defArgs st) (defBody st) (defScope st) .none kV doc pm an cdv ct), osl⟩ ∧ PySem.W.codeIn K cdv qual = true ∧ PySem.W.keepIn K (.ref f) = true := by
  obtain ⟨fd, F⟩ := fun_of e c
  obtain ⟨oc, od, kV, doc, pm, an, cdv, ct, osl, rfl, l, c2⟩ := F.ex
  exact ⟨oc, od, kV, doc, pm, an, cdv, ct, osl, l, c2, F.kp⟩
theorem nsInt_of {i : Int} (h : ckInt K x i = true) : ∃ t, PySem.W.nsIn K mainGlobals x = some (some (.int i t)) := by
  unfold ckInt at h
  split at h
  · rename_i j t e
    obtain rfl := of_decide_eq_true h
    exact ⟨t, e⟩
  · cases h
theorem nsStr_of (h : ckStr K x z = true) : ∃ t, PySem.W.nsIn K mainGlobals x = some (some (.str z t)) := by
  unfold ckStr at h
  split at h
  · rename_i j t e
    obtain rfl := of_decide_eq_true h
    exact ⟨t, e⟩
  · cases h
end
end L2.DS
/-! The table of forms, as the top has left it. -/
namespace L2.DS
open PySem PySem.Spec PyProof.Rows
theorem SaysB.tabW {fs : List (Fg → Bool)} {dfs : List Df} {ts : List He.Tab} {w : World} {K : Fg} (c : SaysB fs dfs ts w K) (i : Nat) {t : He.Tab} (h : ts[i]? = some t := by rfl) : He.dicW K (t.1 K) = some (He.keysIn w.params t.2) := by
  have e : ts.map (fun t => He.dicW K (t.1 K)) = ts.map fun t => some (He.keysIn w.params t.2) := congrArg (fun z : AlB => z.2) c
  have e2 : (ts.map fun t => He.dicW K (t.1 K))[i]? = (ts.map fun t => some (He.keysIn w.params t.2))[i]? := by rw [e]
  rw [List.getElem?_map, List.getElem?_map, h] at e2
  exact Option.some.inj e2
theorem isStr_key {e : DictEntry} {x : Str} {h : Int} (he : He.keyOf e = some (x, h)) (z : Str) : (e.key.isStr z = true ↔ z = x) ∧ e.refKey = false := by
  unfold He.keyOf at he
  split at he
  · rename_i y t ek
    cases he
    refine ⟨?_, ?_⟩
    · rw [ek]
      refine (show (x == z) = true ↔ _ from ?_)
      rw [beq_iff_eq]
      exact ⟨fun e => e.symm, fun e => e.symm⟩
    · unfold DictEntry.refKey
      rw [ek]
  · cases he
theorem keys_find {P : Params} : ∀ {l : List DictEntry} {ks : List Str} (z : Str), l.map He.keyOf = He.keysIn P ks → (l.find? (·.key.isStr z)).isSome = decide (z ∈ ks) ∧ l.any (·.refKey) = false
  | [], [], z, _ => ⟨by simp, rfl⟩
  | [], k :: r, z, h => by cases h
  | e :: l, [], z, h => by cases h
  | e :: l, k :: r, z, h => by
    have h : He.keyOf e :: l.map He.keyOf = some (k, PyData.keyHash P k) :: He.keysIn P r := h
    injection h with h1 h2
    obtain ⟨a, b⟩ := keys_find z h2
    obtain ⟨c, d⟩ := isStr_key h1 z
    refine ⟨?_, by rw [List.any_cons, d, b]; rfl⟩
    rw [List.find?_cons]
    by_cases hz : z = k
    · rw [c.mpr hz]
      simp [hz]
    · have : e.key.isStr z = false := by
        cases q : e.key.isStr z with
        | false => rfl
        | true => exact absurd (c.mp q) hz
      rw [this]
      simp only [List.mem_cons, hz, false_or]
      exact a
theorem dicW_ns {K : Fg} {w : World} {a : Addr} {ks : List Str} (h : He.dicW K a = some (He.keysIn w.params ks)) (z : Str) : ∃ r, PySem.W.nsIn K a z = some r ∧ r.isSome = decide (z ∈ ks) := by
  unfold He.dicW at h
  split at h
  · rename_i c es n sl hl
    split at h
    · obtain ⟨a1, a2⟩ := keys_find z (Option.some.inj h)
      unfold PySem.W.nsIn
      rw [hl]
      dsimp only
      cases q : es.toList.find? (·.key.isStr z) with
      | none =>
        rw [q] at a1
        dsimp only
        rw [a2]
        exact ⟨none, rfl, a1⟩
      | some e =>
        rw [q] at a1
        exact ⟨some e.val, rfl, a1⟩
    · cases h
  · cases h
theorem forms_at {K : Fg} {w : World} {a : Addr} (h : He.dicW K a = some (He.keysIn w.params formKH)) : FormsAt K w a := ⟨He.dicW_ok h, dicW_ns h⟩
theorem pvs_strs : ∀ {ws : List Str} {vs : List Value}, PvsIs (ws.map .str) vs → Vals (ws.map V.str) vs
  | [], vs, h => by
    obtain rfl := (show vs = [] from h)
    exact .nil
  | w :: r, vs, h => by
    obtain ⟨v, t, rfl, ⟨tk, rfl⟩, h2⟩ := h
    exact .cons ⟨tk, rfl⟩ (pvs_strs h2)
theorem tupT_of {K : Fg} {u : Addr} {ws : List Str} (h : ckTup K u (ws.map .str) = true) (hl : ws.length ≤ 100) : TupTx K u ws := by
  obtain ⟨d, n, sl, vs, h1, h2⟩ := tup_of h
  have hv := pvs_strs h1
  refine fun H => .inr ⟨_, vs.toArray, n, h2, rfl, rfl, ?_, by simpa using hv⟩
  have := hv.length
  rw [List.length_map] at this
  show vs.toArray.size ≤ _
  rw [List.size_toArray, ← this]
  exact Nat.le_trans hl (by decide)
theorem tupTx_ok {K : Fg} {u : Addr} {ws : List Str} (h : ckTupT K u ws = true) (hl : ws.length ≤ 100 := by decide) : TupTx K u ws := tupT_of h hl
theorem tabT_of {K : Fg} {a : Addr} {z : Str} {ws : List Str} (h : ckTabT K a z ws = true) (hl : ws.length ≤ 100) : ∃ u : Addr, PySem.W.nsIn K a z = some (some (.ref u)) ∧ ∀ H, SqT K H u (ws.map V.str) := by
  unfold ckTabT at h
  split at h
  · rename_i u e
    exact ⟨u, e, tupT_of h hl⟩
  · cases h
def formWs (z : Str) : List Str := (fieldsW z).map Wi.word
theorem form_mem : ∀ z ∈ formK, (z, formWs z) ∈ formTab := by
  have k : formK.map (fun z => (z, formWs z)) = formTab := by rfl
  intro z hz
  rw [← k]
  exact List.mem_map_of_mem hz
theorem forms_tp {K : Fg} {a : Addr} (h : ckForms K a = true) : FormsTp K a := ⟨fun z hz => by
  obtain ⟨u, e, q⟩ := tabT_of (List.all_eq_true.mp h _ (form_mem z hz)) (by show (formWs z).length ≤ 100; unfold formWs; rw [List.length_map]; have := fields_len z; omega)
  refine ⟨u, e, fun H => ?_⟩
  have := q H
  unfold formWs at this
  rw [List.map_map] at this
  exact this⟩
end L2.DS
namespace L2.DS
open PySem PySem.Spec PyProof.Rows
theorem all_mk {l : PySem.W.OpenLaw} {w : World} {K : PySem.W.Frag} {h : Heap} {mg : Str → Option Value} {fa : Addr} {f__law_source : Addr} {od__law_source an__law_source : Option Addr} {sl__law_source : Array (Option Value)} {oc__law_source kV__law_source dc__law_source pm__law_source cd__law_source ct__law_source : Value} {f__law_pick : Addr} {od__law_pick an__law_pick : Option Addr} {sl__law_pick : Array (Option Value)} {oc__law_pick kV__law_pick dc__law_pick pm__law_pick cd__law_pick ct__law_pick : Value} {f_is_name : Addr} {od_is_name an_is_name : Option Addr} {sl_is_name : Array (Option Value)} {oc_is_name kV_is_name dc_is_name pm_is_name cd_is_name ct_is_name : Value} {f_is_count : Addr} {od_is_count an_is_count : Option Addr} {sl_is_count : Array (Option Value)} {oc_is_count kV_is_count dc_is_count pm_is_count cd_is_count ct_is_count : Value} {f_split_text : Addr} {od_split_text an_split_text : Option Addr} {sl_split_text : Array (Option Value)} {oc_split_text kV_split_text dc_split_text pm_split_text cd_split_text ct_split_text : Value} {f_read_all : Addr} {od_read_all an_read_all : Option Addr} {sl_read_all : Array (Option Value)} {oc_read_all kV_read_all dc_read_all pm_read_all cd_read_all ct_read_all : Value} {f_read_term : Addr} {od_read_term an_read_term : Option Addr} {sl_read_term : Array (Option Value)} {oc_read_term kV_read_term dc_read_term pm_read_term cd_read_term ct_read_term : Value} {f_read_procedures : Addr} {od_read_procedures an_read_procedures : Option Addr} {sl_read_procedures : Array (Option Value)} {oc_read_procedures kV_read_procedures dc_read_procedures pm_read_procedures cd_read_procedures ct_read_procedures : Value} {a_FORMS : Addr} {a_OTHER_WORDS : Addr} {tSm tFg tMo tMf : Tok} {A_BadText : Addr} {f_BadText___init__ cda_BadText___init__ cc_BadText___init__ : Addr} {od_BadText___init__ an_BadText___init__ : Option Addr} {sl_BadText___init__ : Array (Option Value)} {oc_BadText___init__ dc_BadText___init__ pm_BadText___init__ ct_BadText___init__ : Value} {q1_BadText___init__ q2_BadText___init__ : Value} {e1_BadText___init__ e2_BadText___init__ : Option Addr} {g1_BadText___init__ g2_BadText___init__ : Array (Option Value)} {vs_BadText___init__ : Array Value} {fi_BadText___init__ : Str} {tf_BadText___init__ : Tok} {CPil : Addr} {f_Pile___init__ : Addr} {od_Pile___init__ an_Pile___init__ : Option Addr} {sl_Pile___init__ : Array (Option Value)} {oc_Pile___init__ kV_Pile___init__ dc_Pile___init__ pm_Pile___init__ cd_Pile___init__ ct_Pile___init__ : Value} {f_Pile_wish : Addr} {od_Pile_wish an_Pile_wish : Option Addr} {sl_Pile_wish : Array (Option Value)} {oc_Pile_wish kV_Pile_wish dc_Pile_wish pm_Pile_wish cd_Pile_wish ct_Pile_wish : Value} {f_Pile_settle : Addr} {od_Pile_settle an_Pile_settle : Option Addr} {sl_Pile_settle : Array (Option Value)} {oc_Pile_settle kV_Pile_settle dc_Pile_settle pm_Pile_settle cd_Pile_settle ct_Pile_settle : Value} {f_Pile_meets_bracket : Addr} {od_Pile_meets_bracket an_Pile_meets_bracket : Option Addr} {sl_Pile_meets_bracket : Array (Option Value)} {oc_Pile_meets_bracket kV_Pile_meets_bracket dc_Pile_meets_bracket pm_Pile_meets_bracket cd_Pile_meets_bracket ct_Pile_meets_bracket : Value} {f_Pile_meets : Addr} {od_Pile_meets an_Pile_meets : Option Addr} {sl_Pile_meets : Array (Option Value)} {oc_Pile_meets kV_Pile_meets dc_Pile_meets pm_Pile_meets cd_Pile_meets ct_Pile_meets : Value} {f__law_name : Addr} {od__law_name an__law_name : Option Addr} {sl__law_name : Array (Option Value)} {oc__law_name kV__law_name dc__law_name pm__law_name cd__law_name ct__law_name : Value} {f__law_names : Addr} {od__law_names an__law_names : Option Addr} {sl__law_names : Array (Option Value)} {oc__law_names kV__law_names dc__law_names pm__law_names cd__law_names ct__law_names : Value} {f__law_term : Addr} {od__law_term an__law_term : Option Addr} {sl__law_term : Array (Option Value)} {oc__law_term kV__law_term dc__law_term pm__law_term cd__law_term ct__law_term : Value} {f__law_text : Addr} {od__law_text an__law_text : Option Addr} {sl__law_text : Array (Option Value)} {oc__law_text kV__law_text dc__law_text pm__law_text cd__law_text ct__law_text : Value} {f__law_tokens : Addr} {od__law_tokens an__law_tokens : Option Addr} {sl__law_tokens : Array (Option Value)} {oc__law_tokens kV__law_tokens dc__law_tokens pm__law_tokens cd__law_tokens ct__law_tokens : Value} {f__law_fits : Addr} {od__law_fits an__law_fits : Option Addr} {sl__law_fits : Array (Option Value)} {oc__law_fits kV__law_fits dc__law_fits pm__law_fits cd__law_fits ct__law_fits : Value} {f__law_read : Addr} {od__law_read an__law_read : Option Addr} {sl__law_read : Array (Option Value)} {oc__law_read kV__law_read dc__law_read pm__law_read cd__law_read ct__law_read : Value} {f__law_read_program : Addr} {od__law_read_program an__law_read_program : Option Addr} {sl__law_read_program : Array (Option Value)} {oc__law_read_program kV__law_read_program dc__law_read_program pm__law_read_program cd__law_read_program ct__law_read_program : Value} {f__law_bent : Addr} {od__law_bent an__law_bent : Option Addr} {sl__law_bent : Array (Option Value)} {oc__law_bent kV__law_bent dc__law_bent pm__law_bent cd__law_bent ct__law_bent : Value} {f__law_laid : Addr} {od__law_laid an__law_laid : Option Addr} {sl__law_laid : Array (Option Value)} {oc__law_laid kV__law_laid dc__law_laid pm__law_laid cd__law_laid ct__law_laid : Value} {f__law_right : Addr} {od__law_right an__law_right : Option Addr} {sl__law_right : Array (Option Value)} {oc__law_right kV__law_right dc__law_right pm__law_right cd__law_right ct__law_right : Value} {f_law : Addr} {od_law an_law : Option Addr} {sl_law : Array (Option Value)} {oc_law kV_law dc_law pm_law cd_law ct_law : Value} {A_DeedscaleError : Addr} (X : K.In h) (G : h.Ns mainGlobals mg) (hfa : mg "law" = some (.ref fa))
    (z_int : PySem.W.nsIn K mainGlobals "int" = some none)
    (z_abs : PySem.W.nsIn K mainGlobals "abs" = some none)
    (z_range : PySem.W.nsIn K mainGlobals "range" = some none)
    (z_len : PySem.W.nsIn K mainGlobals "len" = some none)
    (z_isinstance : PySem.W.nsIn K mainGlobals "isinstance" = some none)
    (z_bool : PySem.W.nsIn K mainGlobals "bool" = some none)
    (z_str : PySem.W.nsIn K mainGlobals "str" = some none)
    (z_list : PySem.W.nsIn K mainGlobals "list" = some none)
    (z_tuple : PySem.W.nsIn K mainGlobals "tuple" = some none)
    (z_dict : PySem.W.nsIn K mainGlobals "dict" = some none)
    (z_enumerate : PySem.W.nsIn K mainGlobals "enumerate" = some none)
    (z_zip : PySem.W.nsIn K mainGlobals "zip" = some none)
    (z_reversed : PySem.W.nsIn K mainGlobals "reversed" = some none)
    (z_ValueError : PySem.W.nsIn K mainGlobals "ValueError" = some none)
    (z_LookupError : PySem.W.nsIn K mainGlobals "LookupError" = some none)
    (z_KeyError : PySem.W.nsIn K mainGlobals "KeyError" = some none)
    (z_Exception : PySem.W.nsIn K mainGlobals "Exception" = some none)
    (z_super : PySem.W.nsIn K mainGlobals "super" = some none)
    (z_sum : PySem.W.nsIn K mainGlobals "sum" = some none)
    (z_any : PySem.W.nsIn K mainGlobals "any" = some none)
    (z_all : PySem.W.nsIn K mainGlobals "all" = some none)
    (z_sorted : PySem.W.nsIn K mainGlobals "sorted" = some none)
    (z_max : PySem.W.nsIn K mainGlobals "max" = some none)
    (z_min : PySem.W.nsIn K mainGlobals "min" = some none)
    (z_NotImplementedError : PySem.W.nsIn K mainGlobals "NotImplementedError" = some none)
    (z_set : PySem.W.nsIn K mainGlobals "set" = some none)
    (z_repr : PySem.W.nsIn K mainGlobals "repr" = some none)
    (opq : PySem.W.nsIn K cStatics "thirdparty.any" = some none)
    (top0 : (l.prog.main.scope.names.lookup ("super" : Str)).isSome = false)
    (a_f__law_source : PySem.W.nsIn K mainGlobals "_law_source" = some (some (.ref f__law_source)))
    (l__law_source : K.lookup f__law_source = some ⟨oc__law_source, od__law_source, .func (PySem.W.fnOf "_law_source" "_law_source" (defArgs s__law_source) (defBody s__law_source) (defScope s__law_source) .none kV__law_source dc__law_source pm__law_source an__law_source cd__law_source ct__law_source), sl__law_source⟩)
    (c__law_source : PySem.W.codeIn K cd__law_source "_law_source" = true)
    (k__law_source : PySem.W.keepIn K (.ref f__law_source) = true)
    (a_f__law_pick : PySem.W.nsIn K mainGlobals "_law_pick" = some (some (.ref f__law_pick)))
    (l__law_pick : K.lookup f__law_pick = some ⟨oc__law_pick, od__law_pick, .func (PySem.W.fnOf "_law_pick" "_law_pick" (defArgs s__law_pick) (defBody s__law_pick) (defScope s__law_pick) .none kV__law_pick dc__law_pick pm__law_pick an__law_pick cd__law_pick ct__law_pick), sl__law_pick⟩)
    (c__law_pick : PySem.W.codeIn K cd__law_pick "_law_pick" = true)
    (k__law_pick : PySem.W.keepIn K (.ref f__law_pick) = true)
    (a_f_is_name : PySem.W.nsIn K mainGlobals "is_name" = some (some (.ref f_is_name)))
    (l_is_name : K.lookup f_is_name = some ⟨oc_is_name, od_is_name, .func (PySem.W.fnOf "is_name" "is_name" (defArgs s_is_name) (defBody s_is_name) (defScope s_is_name) .none kV_is_name dc_is_name pm_is_name an_is_name cd_is_name ct_is_name), sl_is_name⟩)
    (c_is_name : PySem.W.codeIn K cd_is_name "is_name" = true)
    (k_is_name : PySem.W.keepIn K (.ref f_is_name) = true)
    (a_f_is_count : PySem.W.nsIn K mainGlobals "is_count" = some (some (.ref f_is_count)))
    (l_is_count : K.lookup f_is_count = some ⟨oc_is_count, od_is_count, .func (PySem.W.fnOf "is_count" "is_count" (defArgs s_is_count) (defBody s_is_count) (defScope s_is_count) .none kV_is_count dc_is_count pm_is_count an_is_count cd_is_count ct_is_count), sl_is_count⟩)
    (c_is_count : PySem.W.codeIn K cd_is_count "is_count" = true)
    (k_is_count : PySem.W.keepIn K (.ref f_is_count) = true)
    (a_f_split_text : PySem.W.nsIn K mainGlobals "split_text" = some (some (.ref f_split_text)))
    (l_split_text : K.lookup f_split_text = some ⟨oc_split_text, od_split_text, .func (PySem.W.fnOf "split_text" "split_text" (defArgs s_split_text) (defBody s_split_text) (defScope s_split_text) .none kV_split_text dc_split_text pm_split_text an_split_text cd_split_text ct_split_text), sl_split_text⟩)
    (c_split_text : PySem.W.codeIn K cd_split_text "split_text" = true)
    (k_split_text : PySem.W.keepIn K (.ref f_split_text) = true)
    (a_f_read_all : PySem.W.nsIn K mainGlobals "read_all" = some (some (.ref f_read_all)))
    (l_read_all : K.lookup f_read_all = some ⟨oc_read_all, od_read_all, .func (PySem.W.fnOf "read_all" "read_all" (defArgs s_read_all) (defBody s_read_all) (defScope s_read_all) .none kV_read_all dc_read_all pm_read_all an_read_all cd_read_all ct_read_all), sl_read_all⟩)
    (c_read_all : PySem.W.codeIn K cd_read_all "read_all" = true)
    (k_read_all : PySem.W.keepIn K (.ref f_read_all) = true)
    (a_f_read_term : PySem.W.nsIn K mainGlobals "read_term" = some (some (.ref f_read_term)))
    (l_read_term : K.lookup f_read_term = some ⟨oc_read_term, od_read_term, .func (PySem.W.fnOf "read_term" "read_term" (defArgs s_read_term) (defBody s_read_term) (defScope s_read_term) .none kV_read_term dc_read_term pm_read_term an_read_term cd_read_term ct_read_term), sl_read_term⟩)
    (c_read_term : PySem.W.codeIn K cd_read_term "read_term" = true)
    (k_read_term : PySem.W.keepIn K (.ref f_read_term) = true)
    (a_f_read_procedures : PySem.W.nsIn K mainGlobals "read_procedures" = some (some (.ref f_read_procedures)))
    (l_read_procedures : K.lookup f_read_procedures = some ⟨oc_read_procedures, od_read_procedures, .func (PySem.W.fnOf "read_procedures" "read_procedures" (defArgs s_read_procedures) (defBody s_read_procedures) (defScope s_read_procedures) .none kV_read_procedures dc_read_procedures pm_read_procedures an_read_procedures cd_read_procedures ct_read_procedures), sl_read_procedures⟩)
    (c_read_procedures : PySem.W.codeIn K cd_read_procedures "read_procedures" = true)
    (k_read_procedures : PySem.W.keepIn K (.ref f_read_procedures) = true)
    (a_a_FORMS : PySem.W.nsIn K mainGlobals "FORMS" = some (some (.ref a_FORMS)))
    (a_a_OTHER_WORDS : PySem.W.nsIn K mainGlobals "OTHER_WORDS" = some (some (.ref a_OTHER_WORDS)))
    (fAt : FormsAt K w a_FORMS)
    (fTp : FormsTp K a_FORMS)
    (oTx : TupTx K a_OTHER_WORDS otherKH)
    (gSm : PySem.W.nsIn K mainGlobals "SMALL" = some (some (.str smallL tSm)))
    (gFg : PySem.W.nsIn K mainGlobals "FIGURES" = some (some (.str figsL tFg)))
    (gMo : PySem.W.nsIn K mainGlobals "MOST_OPEN" = some (some (.int 40 tMo)))
    (gMf : PySem.W.nsIn K mainGlobals "MOST_FIGURES" = some (some (.int 60 tMf)))
    (xsp_ : PySem.W.specialIn K (.builtin "object.__class__") "__get__" = some (some (.builtin "getset_descriptor.__get__")))
    (xtk_ : PySem.W.takesIn K (.builtin "object.__class__") = some true)
    (a_A_BadText : PySem.W.nsIn K mainGlobals "BadText" = some (some (.ref A_BadText)))
    (xh_BadText : PySem.W.hasDictIn K A_BadText = true)
    (xe_BadText : PySem.W.subIn K (.ref A_BadText) (.type "BaseException") = some true)
    (xk_BadText : PySem.W.keepIn K (.ref A_BadText) = true)
    (xg_BadText : PySem.W.findIn K (.ref A_BadText) "__getattribute__" = some (some (.builtin "BaseException.__getattribute__")))
    (xgg_BadText : PySem.W.findIn K (.ref A_BadText) "__getattr__" = some none)
    (xcl_BadText : PySem.W.findIn K (.ref A_BadText) "__class__" = some (some (.builtin "object.__class__")))
    (xmo_BadText : PySem.W.mroIn K A_BadText (.type "object") = some true)
    (xt_BadText : PySem.W.typeIn K (.ref A_BadText) = some (.type "type"))
    (xte_BadText : PySem.W.exmOne K (.ref A_BadText) (.ref A_BadText) = some true)
    (xi_BadText : PySem.W.excInitIn K A_BadText (eTail "ValueError") "ValueError.__new__" = true)
    (xo_BadText : PySem.W.excOver K A_BadText (eTail "ValueError") = true)
    (xs_BadText : PySem.W.findIn K (.ref A_BadText) "__setattr__" = some (some (.builtin "object.__setattr__")))
    (xb_BadText : PySem.W.subIn K (.ref A_BadText) (.type "ValueError") = some true)
    (xn_BadText : PySem.W.findIn K (.ref A_BadText) "at" = some none)
    (xm_BadText : PySem.W.mroIn K A_BadText (.ref A_BadText) = some true)
    (xsup_BadText : PySem.W.ks_superIn K A_BadText A_BadText "__init__" = some (some (.builtin "ValueError.__init__")))
    (a_f_BadText___init__ : PySem.W.findIn K (.ref A_BadText) "__init__" = some (some (.ref f_BadText___init__)))
    (ty_BadText___init__ : PySem.W.typeIn K (.ref f_BadText___init__) = some (.type "function"))
    (l_BadText___init__ : K.lookup f_BadText___init__ = some ⟨oc_BadText___init__, od_BadText___init__, .func (PySem.W.fnX "__init__" "BadText.__init__" (defArgs s_BadText___init__) (defBody s_BadText___init__) (defScope s_BadText___init__) [("__class__", cc_BadText___init__)] .none .none dc_BadText___init__ pm_BadText___init__ an_BadText___init__ (.ref cda_BadText___init__) ct_BadText___init__), sl_BadText___init__⟩)
    (c_BadText___init__ : PySem.W.codeIn K (.ref cda_BadText___init__) "BadText.__init__" = true)
    (lc_BadText___init__ : K.lookup cda_BadText___init__ = some ⟨q1_BadText___init__, e1_BadText___init__, .fields vs_BadText___init__, g1_BadText___init__⟩)
    (hv_BadText___init__ : vs_BadText___init__[2]? = some (.str fi_BadText___init__ tf_BadText___init__))
    (hf_BadText___init__ : ((l.prog.main.file : Str) == fi_BadText___init__) = true)
    (lx_BadText___init__ : K.lookup cc_BadText___init__ = some ⟨q2_BadText___init__, e2_BadText___init__, .cell (some (.ref A_BadText)), g2_BadText___init__⟩)
    (a_CPil : PySem.W.nsIn K mainGlobals "Pile" = some (some (.ref CPil)))
    (pg_CPil : PySem.W.plainGet K CPil Str.empty = true)
    (hd_CPil : PySem.W.hasDictIn K CPil = true)
    (po_CPil : PySem.W.plainOver K CPil = true)
    (sa_CPil : PySem.W.findIn K (.ref CPil) "__setattr__" = some (some (.builtin "object.__setattr__")))
    (na_CPil_wishes : PySem.W.findIn K (.ref CPil) "wishes" = some none)
    (na_CPil_read_values : PySem.W.findIn K (.ref CPil) "read_values" = some none)
    (na_CPil_open_count : PySem.W.findIn K (.ref CPil) "open_count" = some none)
    (a_CPil_f_Pile___init__ : PySem.W.findIn K (.ref CPil) "__init__" = some (some (.ref f_Pile___init__)))
    (i_Pile___init__ : PySem.W.isFn K (.ref f_Pile___init__) = true)
    (l_Pile___init__ : K.lookup f_Pile___init__ = some ⟨oc_Pile___init__, od_Pile___init__, .func (PySem.W.fnOf "__init__" "Pile.__init__" (defArgs s_Pile___init__) (defBody s_Pile___init__) (defScope s_Pile___init__) .none kV_Pile___init__ dc_Pile___init__ pm_Pile___init__ an_Pile___init__ cd_Pile___init__ ct_Pile___init__), sl_Pile___init__⟩)
    (c_Pile___init__ : PySem.W.codeIn K cd_Pile___init__ "Pile.__init__" = true)
    (k_Pile___init__ : PySem.W.keepIn K (.ref f_Pile___init__) = true)
    (mk_CPil : PySem.W.makesIn K CPil = true)
    (kp_CPil : PySem.W.keepIn K (.ref CPil) = true)
    (a_CPil_f_Pile_wish : PySem.W.findIn K (.ref CPil) "wish" = some (some (.ref f_Pile_wish)))
    (i_Pile_wish : PySem.W.isFn K (.ref f_Pile_wish) = true)
    (l_Pile_wish : K.lookup f_Pile_wish = some ⟨oc_Pile_wish, od_Pile_wish, .func (PySem.W.fnOf "wish" "Pile.wish" (defArgs s_Pile_wish) (defBody s_Pile_wish) (defScope s_Pile_wish) .none kV_Pile_wish dc_Pile_wish pm_Pile_wish an_Pile_wish cd_Pile_wish ct_Pile_wish), sl_Pile_wish⟩)
    (c_Pile_wish : PySem.W.codeIn K cd_Pile_wish "Pile.wish" = true)
    (k_Pile_wish : PySem.W.keepIn K (.ref f_Pile_wish) = true)
    (a_CPil_f_Pile_settle : PySem.W.findIn K (.ref CPil) "settle" = some (some (.ref f_Pile_settle)))
    (i_Pile_settle : PySem.W.isFn K (.ref f_Pile_settle) = true)
    (l_Pile_settle : K.lookup f_Pile_settle = some ⟨oc_Pile_settle, od_Pile_settle, .func (PySem.W.fnOf "settle" "Pile.settle" (defArgs s_Pile_settle) (defBody s_Pile_settle) (defScope s_Pile_settle) .none kV_Pile_settle dc_Pile_settle pm_Pile_settle an_Pile_settle cd_Pile_settle ct_Pile_settle), sl_Pile_settle⟩)
    (c_Pile_settle : PySem.W.codeIn K cd_Pile_settle "Pile.settle" = true)
    (k_Pile_settle : PySem.W.keepIn K (.ref f_Pile_settle) = true)
    (a_CPil_f_Pile_meets_bracket : PySem.W.findIn K (.ref CPil) "meets_bracket" = some (some (.ref f_Pile_meets_bracket)))
    (i_Pile_meets_bracket : PySem.W.isFn K (.ref f_Pile_meets_bracket) = true)
    (l_Pile_meets_bracket : K.lookup f_Pile_meets_bracket = some ⟨oc_Pile_meets_bracket, od_Pile_meets_bracket, .func (PySem.W.fnOf "meets_bracket" "Pile.meets_bracket" (defArgs s_Pile_meets_bracket) (defBody s_Pile_meets_bracket) (defScope s_Pile_meets_bracket) .none kV_Pile_meets_bracket dc_Pile_meets_bracket pm_Pile_meets_bracket an_Pile_meets_bracket cd_Pile_meets_bracket ct_Pile_meets_bracket), sl_Pile_meets_bracket⟩)
    (c_Pile_meets_bracket : PySem.W.codeIn K cd_Pile_meets_bracket "Pile.meets_bracket" = true)
    (k_Pile_meets_bracket : PySem.W.keepIn K (.ref f_Pile_meets_bracket) = true)
    (a_CPil_f_Pile_meets : PySem.W.findIn K (.ref CPil) "meets" = some (some (.ref f_Pile_meets)))
    (i_Pile_meets : PySem.W.isFn K (.ref f_Pile_meets) = true)
    (l_Pile_meets : K.lookup f_Pile_meets = some ⟨oc_Pile_meets, od_Pile_meets, .func (PySem.W.fnOf "meets" "Pile.meets" (defArgs s_Pile_meets) (defBody s_Pile_meets) (defScope s_Pile_meets) .none kV_Pile_meets dc_Pile_meets pm_Pile_meets an_Pile_meets cd_Pile_meets ct_Pile_meets), sl_Pile_meets⟩)
    (c_Pile_meets : PySem.W.codeIn K cd_Pile_meets "Pile.meets" = true)
    (k_Pile_meets : PySem.W.keepIn K (.ref f_Pile_meets) = true)
    (a_f__law_name : PySem.W.nsIn K mainGlobals "_law_name" = some (some (.ref f__law_name)))
    (l__law_name : K.lookup f__law_name = some ⟨oc__law_name, od__law_name, .func (PySem.W.fnOf "_law_name" "_law_name" (defArgs s__law_name) (defBody s__law_name) (defScope s__law_name) .none kV__law_name dc__law_name pm__law_name an__law_name cd__law_name ct__law_name), sl__law_name⟩)
    (c__law_name : PySem.W.codeIn K cd__law_name "_law_name" = true)
    (k__law_name : PySem.W.keepIn K (.ref f__law_name) = true)
    (a_f__law_names : PySem.W.nsIn K mainGlobals "_law_names" = some (some (.ref f__law_names)))
    (l__law_names : K.lookup f__law_names = some ⟨oc__law_names, od__law_names, .func (PySem.W.fnOf "_law_names" "_law_names" (defArgs s__law_names) (defBody s__law_names) (defScope s__law_names) .none kV__law_names dc__law_names pm__law_names an__law_names cd__law_names ct__law_names), sl__law_names⟩)
    (c__law_names : PySem.W.codeIn K cd__law_names "_law_names" = true)
    (k__law_names : PySem.W.keepIn K (.ref f__law_names) = true)
    (a_f__law_term : PySem.W.nsIn K mainGlobals "_law_term" = some (some (.ref f__law_term)))
    (l__law_term : K.lookup f__law_term = some ⟨oc__law_term, od__law_term, .func (PySem.W.fnOf "_law_term" "_law_term" (defArgs s__law_term) (defBody s__law_term) (defScope s__law_term) .none kV__law_term dc__law_term pm__law_term an__law_term cd__law_term ct__law_term), sl__law_term⟩)
    (c__law_term : PySem.W.codeIn K cd__law_term "_law_term" = true)
    (k__law_term : PySem.W.keepIn K (.ref f__law_term) = true)
    (a_f__law_text : PySem.W.nsIn K mainGlobals "_law_text" = some (some (.ref f__law_text)))
    (l__law_text : K.lookup f__law_text = some ⟨oc__law_text, od__law_text, .func (PySem.W.fnOf "_law_text" "_law_text" (defArgs s__law_text) (defBody s__law_text) (defScope s__law_text) .none kV__law_text dc__law_text pm__law_text an__law_text cd__law_text ct__law_text), sl__law_text⟩)
    (c__law_text : PySem.W.codeIn K cd__law_text "_law_text" = true)
    (k__law_text : PySem.W.keepIn K (.ref f__law_text) = true)
    (a_f__law_tokens : PySem.W.nsIn K mainGlobals "_law_tokens" = some (some (.ref f__law_tokens)))
    (l__law_tokens : K.lookup f__law_tokens = some ⟨oc__law_tokens, od__law_tokens, .func (PySem.W.fnOf "_law_tokens" "_law_tokens" (defArgs s__law_tokens) (defBody s__law_tokens) (defScope s__law_tokens) .none kV__law_tokens dc__law_tokens pm__law_tokens an__law_tokens cd__law_tokens ct__law_tokens), sl__law_tokens⟩)
    (c__law_tokens : PySem.W.codeIn K cd__law_tokens "_law_tokens" = true)
    (k__law_tokens : PySem.W.keepIn K (.ref f__law_tokens) = true)
    (a_f__law_fits : PySem.W.nsIn K mainGlobals "_law_fits" = some (some (.ref f__law_fits)))
    (l__law_fits : K.lookup f__law_fits = some ⟨oc__law_fits, od__law_fits, .func (PySem.W.fnOf "_law_fits" "_law_fits" (defArgs s__law_fits) (defBody s__law_fits) (defScope s__law_fits) .none kV__law_fits dc__law_fits pm__law_fits an__law_fits cd__law_fits ct__law_fits), sl__law_fits⟩)
    (c__law_fits : PySem.W.codeIn K cd__law_fits "_law_fits" = true)
    (k__law_fits : PySem.W.keepIn K (.ref f__law_fits) = true)
    (a_f__law_read : PySem.W.nsIn K mainGlobals "_law_read" = some (some (.ref f__law_read)))
    (l__law_read : K.lookup f__law_read = some ⟨oc__law_read, od__law_read, .func (PySem.W.fnOf "_law_read" "_law_read" (defArgs s__law_read) (defBody s__law_read) (defScope s__law_read) .none kV__law_read dc__law_read pm__law_read an__law_read cd__law_read ct__law_read), sl__law_read⟩)
    (c__law_read : PySem.W.codeIn K cd__law_read "_law_read" = true)
    (k__law_read : PySem.W.keepIn K (.ref f__law_read) = true)
    (a_f__law_read_program : PySem.W.nsIn K mainGlobals "_law_read_program" = some (some (.ref f__law_read_program)))
    (l__law_read_program : K.lookup f__law_read_program = some ⟨oc__law_read_program, od__law_read_program, .func (PySem.W.fnOf "_law_read_program" "_law_read_program" (defArgs s__law_read_program) (defBody s__law_read_program) (defScope s__law_read_program) .none kV__law_read_program dc__law_read_program pm__law_read_program an__law_read_program cd__law_read_program ct__law_read_program), sl__law_read_program⟩)
    (c__law_read_program : PySem.W.codeIn K cd__law_read_program "_law_read_program" = true)
    (k__law_read_program : PySem.W.keepIn K (.ref f__law_read_program) = true)
    (a_f__law_bent : PySem.W.nsIn K mainGlobals "_law_bent" = some (some (.ref f__law_bent)))
    (l__law_bent : K.lookup f__law_bent = some ⟨oc__law_bent, od__law_bent, .func (PySem.W.fnOf "_law_bent" "_law_bent" (defArgs s__law_bent) (defBody s__law_bent) (defScope s__law_bent) .none kV__law_bent dc__law_bent pm__law_bent an__law_bent cd__law_bent ct__law_bent), sl__law_bent⟩)
    (c__law_bent : PySem.W.codeIn K cd__law_bent "_law_bent" = true)
    (k__law_bent : PySem.W.keepIn K (.ref f__law_bent) = true)
    (a_f__law_laid : PySem.W.nsIn K mainGlobals "_law_laid" = some (some (.ref f__law_laid)))
    (l__law_laid : K.lookup f__law_laid = some ⟨oc__law_laid, od__law_laid, .func (PySem.W.fnOf "_law_laid" "_law_laid" (defArgs s__law_laid) (defBody s__law_laid) (defScope s__law_laid) .none kV__law_laid dc__law_laid pm__law_laid an__law_laid cd__law_laid ct__law_laid), sl__law_laid⟩)
    (c__law_laid : PySem.W.codeIn K cd__law_laid "_law_laid" = true)
    (k__law_laid : PySem.W.keepIn K (.ref f__law_laid) = true)
    (a_f__law_right : PySem.W.nsIn K mainGlobals "_law_right" = some (some (.ref f__law_right)))
    (l__law_right : K.lookup f__law_right = some ⟨oc__law_right, od__law_right, .func (PySem.W.fnOf "_law_right" "_law_right" (defArgs s__law_right) (defBody s__law_right) (defScope s__law_right) .none kV__law_right dc__law_right pm__law_right an__law_right cd__law_right ct__law_right), sl__law_right⟩)
    (c__law_right : PySem.W.codeIn K cd__law_right "_law_right" = true)
    (k__law_right : PySem.W.keepIn K (.ref f__law_right) = true)
    (a_f_law : PySem.W.nsIn K mainGlobals "law" = some (some (.ref f_law)))
    (l_law : K.lookup f_law = some ⟨oc_law, od_law, .func (PySem.W.fnOf "law" "law" (defArgs s_law) (defBody s_law) (defScope s_law) .none kV_law dc_law pm_law an_law cd_law ct_law), sl_law⟩)
    (c_law : PySem.W.codeIn K cd_law "law" = true)
    (k_law : PySem.W.keepIn K (.ref f_law) = true)
    (a_A_DeedscaleError : PySem.W.nsIn K mainGlobals "DeedscaleError" = some (some (.ref A_DeedscaleError)))
    (kD_BadText : PySem.W.kitOne K (.ref A_BadText) (.ref A_DeedscaleError) = some true)
    : ∃ fd : FuncData, (∀ (s : Shared) (v : Value), BindsTo s fd ⟨[v], []⟩ [("_law_script", v)]) ∧ ∀ base : Heap, K.In base → base.Ns mainGlobals mg → FnOk l.prog w K mg base CX0 44 fa fd ["_law_script"] (sp_law K) := by
  have e := hfa.symm.trans (PySem.W.mg_of X G a_f_law)
  cases e
  refine ⟨PySem.W.fnOf "law" "law" (defArgs s_law) (defBody s_law) (defScope s_law) .none kV_law dc_law pm_law an_law cd_law ct_law, fun s v => .of_eq rfl, fun base _ _ => ?_⟩
  have Z : Bi mg := ⟨PySem.W.mg_none_of X G z_int, PySem.W.mg_none_of X G z_abs, PySem.W.mg_none_of X G z_range, PySem.W.mg_none_of X G z_len, PySem.W.mg_none_of X G z_isinstance, PySem.W.mg_none_of X G z_bool, PySem.W.mg_none_of X G z_str, PySem.W.mg_none_of X G z_list, PySem.W.mg_none_of X G z_tuple, PySem.W.mg_none_of X G z_dict, PySem.W.mg_none_of X G z_enumerate, PySem.W.mg_none_of X G z_zip, PySem.W.mg_none_of X G z_reversed, PySem.W.mg_none_of X G z_ValueError, PySem.W.mg_none_of X G z_LookupError, PySem.W.mg_none_of X G z_KeyError, PySem.W.mg_none_of X G z_Exception, PySem.W.mg_none_of X G z_super, PySem.W.mg_none_of X G z_sum, PySem.W.mg_none_of X G z_any, PySem.W.mg_none_of X G z_all, PySem.W.mg_none_of X G z_sorted, PySem.W.mg_none_of X G z_max, PySem.W.mg_none_of X G z_min, PySem.W.mg_none_of X G z_NotImplementedError, PySem.W.mg_none_of X G z_set, PySem.W.mg_none_of X G z_repr⟩
  have F__law_source := fun_mk (st := s__law_source) l__law_source c__law_source k__law_source
  have F__law_pick := fun_mk (st := s__law_pick) l__law_pick c__law_pick k__law_pick
  have b__law_source := F__law_source.binds (ps := ["_law_script"]) fun _ _ _ _ _ _ us hl => match us, hl with | [_], _ => rfl
  have c___law_source : Callee l.prog w K mg base "_law_source" CX0 1 ["_law_script"] [] (sp_source K) := ⟨f__law_source, _, [], PySem.W.mg_of X G a_f__law_source, k__law_source, ok_source Z F__law_source, b__law_source, .nil⟩
  have b__law_pick := F__law_pick.binds (ps := ["_law_source_here", "_law_many"]) fun _ _ _ _ _ _ us hl => match us, hl with | [_, _], _ => rfl
  have c___law_pick : Callee l.prog w K mg base "_law_pick" CX0 1 ["_law_source_here", "_law_many"] [] sp_pick := ⟨f__law_pick, _, [], PySem.W.mg_of X G a_f__law_pick, k__law_pick, ok_pick Z F__law_pick, b__law_pick, .nil⟩
  have F_is_name := fun_mk (st := s_is_name) l_is_name c_is_name k_is_name
  have F_is_count := fun_mk (st := s_is_count) l_is_count c_is_count k_is_count
  have F_split_text := fun_mk (st := s_split_text) l_split_text c_split_text k_split_text
  have F_read_all := fun_mk (st := s_read_all) l_read_all c_read_all k_read_all
  have F_read_term := fun_mk (st := s_read_term) l_read_term c_read_term k_read_term
  have F_read_procedures := fun_mk (st := s_read_procedures) l_read_procedures c_read_procedures k_read_procedures
  have X_BadText : ExcC K A_BadText := ⟨xg_BadText, xgg_BadText, xe_BadText, xh_BadText, xcl_BadText, xsp_, xtk_, xmo_BadText⟩
  have x_BadText : ExI l.prog K mg A_BadText f_BadText___init__ "at" "ValueError" "ValueError.__new__" "ValueError.__init__" := mk_exi (txt := "") ⟨xi_BadText, xo_BadText, xh_BadText, xs_BadText, xe_BadText, xb_BadText, xt_BadText, xk_BadText⟩ a_f_BadText___init__ ty_BadText___init__ xn_BadText xsup_BadText xm_BadText Z.z_super opq top0 l_BadText___init__ c_BadText___init__ lc_BadText___init__ hv_BadText___init__ hf_BadText___init__ lx_BadText___init__
    ⟨_, _, _, _, _, _, _, _, _, _, _, _, rfl, fun _ => rfl, fun _ _ => rfl, fun _ _ => rfl⟩ ⟨rfl, rfl, rfl, by decide +kernel⟩ ⟨rfl, rfl, rfl, rfl⟩ ⟨_, rfl, rfl⟩ (by decide +kernel) (by decide +kernel) fun fd s x v => exi_BadText
  have g_BadText : ExG K A_BadText "at" := ⟨xg_BadText, xgg_BadText, xe_BadText, xh_BadText, xn_BadText⟩
  have b_is_name := F_is_name.binds (ps := ["token"]) fun _ _ _ _ _ _ us hl => match us, hl with | [_], _ => rfl
  have c__is_name : Callee l.prog w K mg base "is_name" CX0 1 ["token"] [] (spP PNmB) := ⟨f_is_name, _, [], PySem.W.mg_of X G a_f_is_name, k_is_name, ok_is_name Z fAt oTx (PySem.W.mg_of X G a_a_FORMS) (PySem.W.mg_of X G a_a_OTHER_WORDS) (PySem.W.mg_of X G gSm) (PySem.W.mg_of X G gFg) F_is_name, b_is_name, .nil⟩
  have b_is_count := F_is_count.binds (ps := ["token"]) fun _ _ _ _ _ _ us hl => match us, hl with | [_], _ => rfl
  have c__is_count : Callee l.prog w K mg base "is_count" CX0 1 ["token"] [] (spP PCtB) := ⟨f_is_count, _, [], PySem.W.mg_of X G a_f_is_count, k_is_count, ok_is_count Z (PySem.W.mg_of X G gFg) (PySem.W.mg_of X G gMf) F_is_count, b_is_count, .nil⟩
  have b_split_text := F_split_text.binds (ps := ["text"]) fun _ _ _ _ _ _ us hl => match us, hl with | [_], _ => rfl
  have c__split_text : Callee l.prog w K mg base "split_text" CX0 1 ["text"] [] (spP PSpl) := ⟨f_split_text, _, [], PySem.W.mg_of X G a_f_split_text, k_split_text, ok_split Z F_split_text, b_split_text, .nil⟩
  have hC_CPil : Cls K CPil := ⟨pg_CPil, hd_CPil, po_CPil, sa_CPil⟩
  have hN_CPil : ∀ f ∈ (["wishes", "read_values", "open_count"] : List Str), NoAttr K CPil f := by
    intro f hf
    simp only [List.mem_cons, List.not_mem_nil, or_false] at hf
    rcases hf with rfl | rfl | rfl
    · exact na_CPil_wishes
    · exact na_CPil_read_values
    · exact na_CPil_open_count
  have hPil : PilC K CPil := ⟨hC_CPil, fun f hf => hN_CPil f hf⟩
  have F_Pile___init__ := fun_mk (st := s_Pile___init__) l_Pile___init__ c_Pile___init__ k_Pile___init__
  have b_Pile___init__ := F_Pile___init__.binds (ps := ["self", "wishes"]) fun _ _ _ _ _ _ us hl => match us, hl with | [_, _], _ => rfl
  have M_CPil : Mk K CPil f_Pile___init__ := ⟨mk_CPil, a_CPil_f_Pile___init__, i_Pile___init__, kp_CPil⟩
  have mk_Pil : Maker l.prog w K mg base "Pile" CPil CX0 1 ["self", "wishes"] [] (spI (PPil CPil)) := ⟨_, _, [], PySem.W.mg_of X G a_CPil, M_CPil, ok_pl_init Z hPil F_Pile___init__, b_Pile___init__, .nil⟩
  have F_Pile_wish := fun_mk (st := s_Pile_wish) l_Pile_wish c_Pile_wish k_Pile_wish
  have b_Pile_wish := F_Pile_wish.binds (ps := ["self", "wishes"]) fun _ _ _ _ _ _ us hl => match us, hl with | [_, _], _ => rfl
  have c_pl_wish : Method l.prog w K mg base CPil "wish" CX0 1 ["self", "wishes"] [] (sp_wish CPil) := ⟨f_Pile_wish, _, [], hC_CPil, ⟨a_CPil_f_Pile_wish, i_Pile_wish, k_Pile_wish⟩, ok_pl_wish Z hPil F_Pile_wish, b_Pile_wish, .nil⟩
  have F_Pile_settle := fun_mk (st := s_Pile_settle) l_Pile_settle c_Pile_settle k_Pile_settle
  have b_Pile_settle := F_Pile_settle.binds (ps := ["self"]) fun _ _ _ _ _ _ us hl => match us, hl with | [_], _ => rfl
  have c_pl_settle : Method l.prog w K mg base CPil "settle" CX0 1 ["self"] [] (sp_settle CPil) := ⟨f_Pile_settle, _, [], hC_CPil, ⟨a_CPil_f_Pile_settle, i_Pile_settle, k_Pile_settle⟩, ok_pl_settle Z hPil F_Pile_settle, b_Pile_settle, .nil⟩
  have F_Pile_meets_bracket := fun_mk (st := s_Pile_meets_bracket) l_Pile_meets_bracket c_Pile_meets_bracket k_Pile_meets_bracket
  have b_Pile_meets_bracket := F_Pile_meets_bracket.binds (ps := ["self", "word", "token"]) fun _ _ _ _ _ _ us hl => match us, hl with | [_, _, _], _ => rfl
  have c_pl_mb : Method l.prog w K mg base CPil "meets_bracket" CX0 2 ["self", "word", "token"] [] (sp_mb CPil) := ⟨f_Pile_meets_bracket, _, [], hC_CPil, ⟨a_CPil_f_Pile_meets_bracket, i_Pile_meets_bracket, k_Pile_meets_bracket⟩, ok_pl_mb Z hPil c_pl_wish F_Pile_meets_bracket, b_Pile_meets_bracket, .nil⟩
  have F_Pile_meets := fun_mk (st := s_Pile_meets) l_Pile_meets c_Pile_meets k_Pile_meets
  have b_Pile_meets := F_Pile_meets.binds (ps := ["self", "token"]) fun _ _ _ _ _ _ us hl => match us, hl with | [_, _], _ => rfl
  have c_pl_meets : Method l.prog w K mg base CPil "meets" CX0 3 ["self", "token"] [] (sp_meets CPil) := ⟨f_Pile_meets, _, [], hC_CPil, ⟨a_CPil_f_Pile_meets, i_Pile_meets, k_Pile_meets⟩, ok_pl_meets Z hPil fAt fTp (PySem.W.mg_of X G a_a_FORMS) (PySem.W.mg_of X G gMo) c_pl_settle c_pl_wish c_pl_mb c__is_name c__is_count F_Pile_meets, b_Pile_meets, .nil⟩
  have b_read_all := F_read_all.binds (ps := ["text", "wishes"]) fun _ _ _ _ _ _ us hl => match us, hl with | [_, _], _ => rfl
  have c__read_all : Callee l.prog w K mg base "read_all" (L2.CX l.prog w) 4 ["text", "wishes"] [] (sp_rall A_BadText) := ⟨f_read_all, _, [], PySem.W.mg_of X G a_f_read_all, k_read_all, ok_read_all Z hPil x_BadText (PySem.W.mg_of X G a_A_BadText) mk_Pil c__split_text c_pl_settle c_pl_meets F_read_all, b_read_all, .nil⟩
  have F__law_name := fun_mk (st := s__law_name) l__law_name c__law_name k__law_name
  have F__law_names := fun_mk (st := s__law_names) l__law_names c__law_names k__law_names
  have F__law_term := fun_mk (st := s__law_term) l__law_term c__law_term k__law_term
  have F__law_text := fun_mk (st := s__law_text) l__law_text c__law_text k__law_text
  have F__law_tokens := fun_mk (st := s__law_tokens) l__law_tokens c__law_tokens k__law_tokens
  have F__law_fits := fun_mk (st := s__law_fits) l__law_fits c__law_fits k__law_fits
  have F__law_read := fun_mk (st := s__law_read) l__law_read c__law_read k__law_read
  have F__law_read_program := fun_mk (st := s__law_read_program) l__law_read_program c__law_read_program k__law_read_program
  have F__law_bent := fun_mk (st := s__law_bent) l__law_bent c__law_bent k__law_bent
  have F__law_laid := fun_mk (st := s__law_laid) l__law_laid c__law_laid k__law_laid
  have F__law_right := fun_mk (st := s__law_right) l__law_right c__law_right k__law_right
  have F_law := fun_mk (st := s_law) l_law c_law k_law
  have b__law_name := F__law_name.binds (ps := ["_law_source_here"]) fun _ _ _ _ _ _ us hl => match us, hl with | [_], _ => rfl
  have c___law_name : Callee l.prog w K mg base "_law_name" CX0 3 ["_law_source_here"] [] (spS PNmS) := ⟨f__law_name, _, [], PySem.W.mg_of X G a_f__law_name, k__law_name, ok_lname19 Z c___law_pick F__law_name, b__law_name, .nil⟩
  have b__law_names := F__law_names.binds (ps := ["_law_source_here", "_law_many"]) fun _ _ _ _ _ _ us hl => match us, hl with | [_, _], _ => rfl
  have c___law_names : Callee l.prog w K mg base "_law_names" CX0 4 ["_law_source_here", "_law_many"] [] (spS PNms) := ⟨f__law_names, _, [], PySem.W.mg_of X G a_f__law_names, k__law_names, ok_lnames19 Z c___law_name F__law_names, b__law_names, .nil⟩
  have b__law_term := F__law_term.binds (ps := ["_law_source_here", "_law_deeds", "_law_procedures", "_law_ways", "_law_depth"]) fun _ _ _ _ _ _ us hl => match us, hl with | [_, _, _, _, _], _ => rfl
  have S_term := ok_lterm19 (w := w) (base := base) Z c___law_pick F__law_term (PySem.W.mg_of X G a_f__law_term) k__law_term b__law_term
  have c___law_term : Callee l.prog w K mg base "_law_term" CX0 6 ["_law_source_here", "_law_deeds", "_law_procedures", "_law_ways", "_law_depth"] [] (spS (PTrA 3)) := ⟨f__law_term, _, [], PySem.W.mg_of X G a_f__law_term, k__law_term, ((fnOk_ex (ι := Nat) (Pi := fun m => m ≤ 3) fun m hm => (S_term m).mono (by omega)).imp fun vs H Q E h => trA_of h), b__law_term, .nil⟩
  have b__law_text := F__law_text.binds (ps := ["_law_term_here"]) fun _ _ _ _ _ _ us hl => match us, hl with | [_], _ => rfl
  have c___law_text : Callee l.prog w K mg base "_law_text" CX0 4 ["_law_term_here"] [] (spP (PTxt 3)) := ⟨f__law_text, _, [], PySem.W.mg_of X G a_f__law_text, k__law_text, (ok_ltext19 Z F__law_text (PySem.W.mg_of X G a_f__law_text) k__law_text b__law_text 3 (by decide)), b__law_text, .nil⟩
  have b__law_tokens := F__law_tokens.binds (ps := ["_law_text_here"]) fun _ _ _ _ _ _ us hl => match us, hl with | [_], _ => rfl
  have c___law_tokens : Callee l.prog w K mg base "_law_tokens" CX0 1 ["_law_text_here"] [] (spP PLtk) := ⟨f__law_tokens, _, [], PySem.W.mg_of X G a_f__law_tokens, k__law_tokens, ok_ltoks20 Z F__law_tokens, b__law_tokens, .nil⟩
  have b__law_fits := F__law_fits.binds (ps := ["_law_token", "_law_wish"]) fun _ _ _ _ _ _ us hl => match us, hl with | [_, _], _ => rfl
  have c___law_fits : Callee l.prog w K mg base "_law_fits" CX0 1 ["_law_token", "_law_wish"] [] (spP PFit) := ⟨f__law_fits, _, [], PySem.W.mg_of X G a_f__law_fits, k__law_fits, ok_lfits20 Z F__law_fits, b__law_fits, .nil⟩
  have b__law_read := F__law_read.binds (ps := ["_law_tokens_here", "_law_at", "_law_depth"]) fun _ _ _ _ _ _ us hl => match us, hl with | [_, _, _], _ => rfl
  have S_read := ok_lread20 (w := w) (base := base) Z c___law_fits F__law_read (PySem.W.mg_of X G a_f__law_read) k__law_read b__law_read
  have c___law_read : Callee l.prog w K mg base "_law_read" CX0 42 ["_law_tokens_here", "_law_at", "_law_depth"] [] (spP (PLrd 40)) := ⟨f__law_read, _, [], PySem.W.mg_of X G a_f__law_read, k__law_read, (S_read 40 (by decide)), b__law_read, .nil⟩
  have c_read38 : Callee l.prog w K mg base "_law_read" CX0 40 ["_law_tokens_here", "_law_at", "_law_depth"] [] (spP (PLrd 38)) := ⟨_, _, [], PySem.W.mg_of X G a_f__law_read, k__law_read, S_read 38 (by decide), b__law_read, .nil⟩
  have b__law_read_program := F__law_read_program.binds (ps := ["_law_tokens_here"]) fun _ _ _ _ _ _ us hl => match us, hl with | [_], _ => rfl
  have c___law_read_program : Callee l.prog w K mg base "_law_read_program" CX0 41 ["_law_tokens_here"] [] (spP PLrp) := ⟨f__law_read_program, _, [], PySem.W.mg_of X G a_f__law_read_program, k__law_read_program, ok_lrp20 Z c___law_fits c_read38 F__law_read_program, b__law_read_program, .nil⟩
  have b_read_term := F_read_term.binds (ps := ["text"]) fun _ _ _ _ _ _ us hl => match us, hl with | [_], _ => rfl
  have c__read_term : Callee l.prog w K mg base "read_term" (L2.CX l.prog w) 5 ["text"] [] (sp_rtrm A_BadText) := ⟨f_read_term, _, [], PySem.W.mg_of X G a_f_read_term, k_read_term, ok_read_term Z c__read_all F_read_term, b_read_term, .nil⟩
  have b_read_procedures := F_read_procedures.binds (ps := ["text"]) fun _ _ _ _ _ _ us hl => match us, hl with | [_], _ => rfl
  have c__read_procedures : Callee l.prog w K mg base "read_procedures" (L2.CX l.prog w) 5 ["text"] [] (sp_rprc A_BadText) := ⟨f_read_procedures, _, [], PySem.W.mg_of X G a_f_read_procedures, k_read_procedures, ok_read_procedures Z c__read_all F_read_procedures, b_read_procedures, .nil⟩
  have b__law_bent := F__law_bent.binds (ps := ["_law_source_here", "_law_words"]) fun _ _ _ _ _ _ us hl => match us, hl with | [_, _], _ => rfl
  have c___law_bent : Callee l.prog w K mg base "_law_bent" CX0 2 ["_law_source_here", "_law_words"] [] (spS PBnt) := ⟨f__law_bent, _, [], PySem.W.mg_of X G a_f__law_bent, k__law_bent, ok_lbent20 Z c___law_pick F__law_bent, b__law_bent, .nil⟩
  have b__law_laid := F__law_laid.binds (ps := ["_law_source_here", "_law_words"]) fun _ _ _ _ _ _ us hl => match us, hl with | [_, _], _ => rfl
  have c___law_laid : Callee l.prog w K mg base "_law_laid" CX0 2 ["_law_source_here", "_law_words"] [] (spS PLaid) := ⟨f__law_laid, _, [], PySem.W.mg_of X G a_f__law_laid, k__law_laid, ok_llaid20 Z c___law_pick F__law_laid, b__law_laid, .nil⟩
  have b__law_right := F__law_right.binds (ps := ["_law_text_here", "_law_whole"]) fun _ _ _ _ _ _ us hl => match us, hl with | [_, _], _ => rfl
  have c___law_right : Callee l.prog w K mg base "_law_right" CX0 43 ["_law_text_here", "_law_whole"] [] (spP PRgt) := ⟨f__law_right, _, [], PySem.W.mg_of X G a_f__law_right, k__law_right, ok_lright20 Z (PySem.W.mg_of X G a_A_BadText) (PySem.W.mg_of X G a_A_DeedscaleError) X_BadText g_BadText xte_BadText kD_BadText c___law_tokens c___law_read c___law_read_program c__read_term c__read_procedures F__law_right, b__law_right, .nil⟩
  exact ok_law20 Z c___law_source c___law_pick c___law_names c___law_term c___law_text c___law_tokens c___law_bent c___law_laid c___law_right F_law
theorem facts_mk {w : World} {K : Fg} {h : Heap} {mg : Str → Option Value} {fa : Addr} (X : K.In h) (G : h.Ns mainGlobals mg) (hfa : mg "law" = some (.ref fa)) (c : SaysB fsH dfsH tabsH w K) :
    ∃ fd : FuncData, (∀ (s : Shared) (v : Value), BindsTo s fd ⟨[v], []⟩ [("_law_script", v)]) ∧ ∀ base : Heap, K.In base → base.Ns mainGlobals mg → FnOk (PySem.Challenge.rw_deedscale_k20_texts_refused).prog w K mg base CX0 44 fa fd ["_law_script"] (sp_law K) := by
  have h0 : ckH0 K = true := c.fact 0
  obtain ⟨q0, h0⟩ := and2 h0
  obtain ⟨q1, h0⟩ := and2 h0
  obtain ⟨q2, h0⟩ := and2 h0
  obtain ⟨q3, h0⟩ := and2 h0
  obtain ⟨q4, h0⟩ := and2 h0
  obtain ⟨q5, h0⟩ := and2 h0
  obtain ⟨q6, h0⟩ := and2 h0
  obtain ⟨q7, h0⟩ := and2 h0
  obtain ⟨q8, h0⟩ := and2 h0
  obtain ⟨q9, h0⟩ := and2 h0
  obtain ⟨q10, h0⟩ := and2 h0
  have q11 := h0
  have h1 : ckH1 K = true := c.fact 1
  obtain ⟨q12, h1⟩ := and2 h1
  obtain ⟨q13, h1⟩ := and2 h1
  obtain ⟨q14, h1⟩ := and2 h1
  obtain ⟨q15, h1⟩ := and2 h1
  obtain ⟨q16, h1⟩ := and2 h1
  obtain ⟨q17, h1⟩ := and2 h1
  obtain ⟨q18, h1⟩ := and2 h1
  obtain ⟨q19, h1⟩ := and2 h1
  obtain ⟨q20, h1⟩ := and2 h1
  obtain ⟨q21, h1⟩ := and2 h1
  obtain ⟨q22, h1⟩ := and2 h1
  have q23 := h1
  have h2 : ckH2 K = true := c.fact 2
  obtain ⟨q24, h2⟩ := and2 h2
  obtain ⟨q25, h2⟩ := and2 h2
  obtain ⟨q26, h2⟩ := and2 h2
  obtain ⟨q27, h2⟩ := and2 h2
  obtain ⟨q28, h2⟩ := and2 h2
  obtain ⟨q29, h2⟩ := and2 h2
  obtain ⟨q30, h2⟩ := and2 h2
  obtain ⟨q31, h2⟩ := and2 h2
  obtain ⟨q32, h2⟩ := and2 h2
  obtain ⟨q33, h2⟩ := and2 h2
  obtain ⟨q34, h2⟩ := and2 h2
  have q35 := h2
  have h3 : ckH3 K = true := c.fact 3
  obtain ⟨q36, h3⟩ := and2 h3
  obtain ⟨q37, h3⟩ := and2 h3
  obtain ⟨q38, h3⟩ := and2 h3
  obtain ⟨q39, h3⟩ := and2 h3
  obtain ⟨q40, h3⟩ := and2 h3
  obtain ⟨q41, h3⟩ := and2 h3
  obtain ⟨q42, h3⟩ := and2 h3
  obtain ⟨q43, h3⟩ := and2 h3
  obtain ⟨q44, h3⟩ := and2 h3
  obtain ⟨q45, h3⟩ := and2 h3
  obtain ⟨q46, h3⟩ := and2 h3
  have q47 := h3
  have h4 : ckH4 K = true := c.fact 4
  obtain ⟨q48, h4⟩ := and2 h4
  obtain ⟨q49, h4⟩ := and2 h4
  obtain ⟨q50, h4⟩ := and2 h4
  obtain ⟨q51, h4⟩ := and2 h4
  obtain ⟨q52, h4⟩ := and2 h4
  obtain ⟨q53, h4⟩ := and2 h4
  obtain ⟨q54, h4⟩ := and2 h4
  obtain ⟨q55, h4⟩ := and2 h4
  obtain ⟨q56, h4⟩ := and2 h4
  obtain ⟨q57, h4⟩ := and2 h4
  obtain ⟨q58, h4⟩ := and2 h4
  have q59 := h4
  have h5 : ckH5 K = true := c.fact 5
  obtain ⟨q60, h5⟩ := and2 h5
  obtain ⟨q61, h5⟩ := and2 h5
  obtain ⟨q62, h5⟩ := and2 h5
  obtain ⟨q63, h5⟩ := and2 h5
  obtain ⟨q64, h5⟩ := and2 h5
  obtain ⟨q65, h5⟩ := and2 h5
  obtain ⟨q66, h5⟩ := and2 h5
  obtain ⟨q67, h5⟩ := and2 h5
  obtain ⟨q68, h5⟩ := and2 h5
  obtain ⟨q69, h5⟩ := and2 h5
  obtain ⟨q70, h5⟩ := and2 h5
  have q71 := h5
  have h6 : ckH6 K = true := c.fact 6
  obtain ⟨q72, h6⟩ := and2 h6
  obtain ⟨q73, h6⟩ := and2 h6
  obtain ⟨q74, h6⟩ := and2 h6
  obtain ⟨q75, h6⟩ := and2 h6
  obtain ⟨q76, h6⟩ := and2 h6
  obtain ⟨q77, h6⟩ := and2 h6
  obtain ⟨q78, h6⟩ := and2 h6
  obtain ⟨q79, h6⟩ := and2 h6
  obtain ⟨q80, h6⟩ := and2 h6
  obtain ⟨q81, h6⟩ := and2 h6
  obtain ⟨q82, h6⟩ := and2 h6
  have q83 := h6
  have h7 : ckH7 K = true := c.fact 7
  obtain ⟨q84, h7⟩ := and2 h7
  obtain ⟨q85, h7⟩ := and2 h7
  obtain ⟨q86, h7⟩ := and2 h7
  obtain ⟨q87, h7⟩ := and2 h7
  obtain ⟨q88, h7⟩ := and2 h7
  obtain ⟨q89, h7⟩ := and2 h7
  obtain ⟨q90, h7⟩ := and2 h7
  obtain ⟨q91, h7⟩ := and2 h7
  obtain ⟨q92, h7⟩ := and2 h7
  obtain ⟨q93, h7⟩ := and2 h7
  obtain ⟨q94, h7⟩ := and2 h7
  have q95 := h7
  have h8 : ckH8 K = true := c.fact 8
  obtain ⟨q96, h8⟩ := and2 h8
  obtain ⟨q97, h8⟩ := and2 h8
  obtain ⟨q98, h8⟩ := and2 h8
  obtain ⟨q99, h8⟩ := and2 h8
  obtain ⟨q100, h8⟩ := and2 h8
  obtain ⟨q101, h8⟩ := and2 h8
  obtain ⟨q102, h8⟩ := and2 h8
  obtain ⟨q103, h8⟩ := and2 h8
  obtain ⟨q104, h8⟩ := and2 h8
  obtain ⟨q105, h8⟩ := and2 h8
  obtain ⟨q106, h8⟩ := and2 h8
  have q107 := h8
  have h9 : ckH9 K = true := c.fact 9
  obtain ⟨q108, h9⟩ := and2 h9
  obtain ⟨q109, h9⟩ := and2 h9
  obtain ⟨q110, h9⟩ := and2 h9
  obtain ⟨q111, h9⟩ := and2 h9
  obtain ⟨q112, h9⟩ := and2 h9
  obtain ⟨q113, h9⟩ := and2 h9
  obtain ⟨q114, h9⟩ := and2 h9
  obtain ⟨q115, h9⟩ := and2 h9
  obtain ⟨q116, h9⟩ := and2 h9
  obtain ⟨q117, h9⟩ := and2 h9
  obtain ⟨q118, h9⟩ := and2 h9
  have q119 := h9
  have h10 : ckH10 K = true := c.fact 10
  obtain ⟨q120, h10⟩ := and2 h10
  obtain ⟨q121, h10⟩ := and2 h10
  obtain ⟨q122, h10⟩ := and2 h10
  obtain ⟨q123, h10⟩ := and2 h10
  have q124 := h10
  obtain ⟨oc__law_source, od__law_source, kV__law_source, dc__law_source, pm__law_source, an__law_source, cd__law_source, ct__law_source, sl__law_source, l__law_source, c__law_source, k__law_source⟩ := fnl_of (st := s__law_source) (c.fn 0) q0
  obtain ⟨oc__law_pick, od__law_pick, kV__law_pick, dc__law_pick, pm__law_pick, an__law_pick, cd__law_pick, ct__law_pick, sl__law_pick, l__law_pick, c__law_pick, k__law_pick⟩ := fnl_of (st := s__law_pick) (c.fn 1) q1
  obtain ⟨oc_is_name, od_is_name, kV_is_name, dc_is_name, pm_is_name, an_is_name, cd_is_name, ct_is_name, sl_is_name, l_is_name, c_is_name, k_is_name⟩ := fnl_of (st := s_is_name) (c.fn 2) q2
  obtain ⟨oc_is_count, od_is_count, kV_is_count, dc_is_count, pm_is_count, an_is_count, cd_is_count, ct_is_count, sl_is_count, l_is_count, c_is_count, k_is_count⟩ := fnl_of (st := s_is_count) (c.fn 3) q3
  obtain ⟨oc_split_text, od_split_text, kV_split_text, dc_split_text, pm_split_text, an_split_text, cd_split_text, ct_split_text, sl_split_text, l_split_text, c_split_text, k_split_text⟩ := fnl_of (st := s_split_text) (c.fn 4) q4
  obtain ⟨oc_read_all, od_read_all, kV_read_all, dc_read_all, pm_read_all, an_read_all, cd_read_all, ct_read_all, sl_read_all, l_read_all, c_read_all, k_read_all⟩ := fnl_of (st := s_read_all) (c.fn 5) q5
  obtain ⟨oc_read_term, od_read_term, kV_read_term, dc_read_term, pm_read_term, an_read_term, cd_read_term, ct_read_term, sl_read_term, l_read_term, c_read_term, k_read_term⟩ := fnl_of (st := s_read_term) (c.fn 6) q6
  obtain ⟨oc_read_procedures, od_read_procedures, kV_read_procedures, dc_read_procedures, pm_read_procedures, an_read_procedures, cd_read_procedures, ct_read_procedures, sl_read_procedures, l_read_procedures, c_read_procedures, k_read_procedures⟩ := fnl_of (st := s_read_procedures) (c.fn 7) q7
  obtain ⟨oc_BadText___init__, od_BadText___init__, kV_BadText___init__, dc_BadText___init__, pm_BadText___init__, an_BadText___init__, cda_BadText___init__, ct_BadText___init__, sl_BadText___init__, cc_BadText___init__, q1_BadText___init__, e1_BadText___init__, vs_BadText___init__, g1_BadText___init__, fi_BadText___init__, tf_BadText___init__, q2_BadText___init__, e2_BadText___init__, g2_BadText___init__, l_BadText___init__, c_BadText___init__, lc_BadText___init__, hv_BadText___init__, hf_BadText___init__, lx_BadText___init__, k_BadText___init__, fi2_BadText___init__, ty_BadText___init__, kw0_BadText___init__⟩ := sup_of (st := s_BadText___init__) (c.fn 8) q8
  obtain rfl := kw0_BadText___init__.symm.trans (isNon_ok q9)
  obtain ⟨oc_Pile___init__, od_Pile___init__, kV_Pile___init__, dc_Pile___init__, pm_Pile___init__, an_Pile___init__, cd_Pile___init__, ct_Pile___init__, sl_Pile___init__, l_Pile___init__, c_Pile___init__, k_Pile___init__⟩ := fnl_of (st := s_Pile___init__) (c.fn 9) q10
  obtain ⟨oc_Pile_wish, od_Pile_wish, kV_Pile_wish, dc_Pile_wish, pm_Pile_wish, an_Pile_wish, cd_Pile_wish, ct_Pile_wish, sl_Pile_wish, l_Pile_wish, c_Pile_wish, k_Pile_wish⟩ := fnl_of (st := s_Pile_wish) (c.fn 10) q11
  obtain ⟨oc_Pile_settle, od_Pile_settle, kV_Pile_settle, dc_Pile_settle, pm_Pile_settle, an_Pile_settle, cd_Pile_settle, ct_Pile_settle, sl_Pile_settle, l_Pile_settle, c_Pile_settle, k_Pile_settle⟩ := fnl_of (st := s_Pile_settle) (c.fn 11) q12
  obtain ⟨oc_Pile_meets_bracket, od_Pile_meets_bracket, kV_Pile_meets_bracket, dc_Pile_meets_bracket, pm_Pile_meets_bracket, an_Pile_meets_bracket, cd_Pile_meets_bracket, ct_Pile_meets_bracket, sl_Pile_meets_bracket, l_Pile_meets_bracket, c_Pile_meets_bracket, k_Pile_meets_bracket⟩ := fnl_of (st := s_Pile_meets_bracket) (c.fn 12) q13
  obtain ⟨oc_Pile_meets, od_Pile_meets, kV_Pile_meets, dc_Pile_meets, pm_Pile_meets, an_Pile_meets, cd_Pile_meets, ct_Pile_meets, sl_Pile_meets, l_Pile_meets, c_Pile_meets, k_Pile_meets⟩ := fnl_of (st := s_Pile_meets) (c.fn 13) q14
  obtain ⟨oc__law_name, od__law_name, kV__law_name, dc__law_name, pm__law_name, an__law_name, cd__law_name, ct__law_name, sl__law_name, l__law_name, c__law_name, k__law_name⟩ := fnl_of (st := s__law_name) (c.fn 14) q15
  obtain ⟨oc__law_names, od__law_names, kV__law_names, dc__law_names, pm__law_names, an__law_names, cd__law_names, ct__law_names, sl__law_names, l__law_names, c__law_names, k__law_names⟩ := fnl_of (st := s__law_names) (c.fn 15) q16
  obtain ⟨oc__law_term, od__law_term, kV__law_term, dc__law_term, pm__law_term, an__law_term, cd__law_term, ct__law_term, sl__law_term, l__law_term, c__law_term, k__law_term⟩ := fnl_of (st := s__law_term) (c.fn 16) q17
  obtain ⟨oc__law_text, od__law_text, kV__law_text, dc__law_text, pm__law_text, an__law_text, cd__law_text, ct__law_text, sl__law_text, l__law_text, c__law_text, k__law_text⟩ := fnl_of (st := s__law_text) (c.fn 17) q18
  obtain ⟨oc__law_tokens, od__law_tokens, kV__law_tokens, dc__law_tokens, pm__law_tokens, an__law_tokens, cd__law_tokens, ct__law_tokens, sl__law_tokens, l__law_tokens, c__law_tokens, k__law_tokens⟩ := fnl_of (st := s__law_tokens) (c.fn 18) q19
  obtain ⟨oc__law_fits, od__law_fits, kV__law_fits, dc__law_fits, pm__law_fits, an__law_fits, cd__law_fits, ct__law_fits, sl__law_fits, l__law_fits, c__law_fits, k__law_fits⟩ := fnl_of (st := s__law_fits) (c.fn 19) q20
  obtain ⟨oc__law_read, od__law_read, kV__law_read, dc__law_read, pm__law_read, an__law_read, cd__law_read, ct__law_read, sl__law_read, l__law_read, c__law_read, k__law_read⟩ := fnl_of (st := s__law_read) (c.fn 20) q21
  obtain ⟨oc__law_read_program, od__law_read_program, kV__law_read_program, dc__law_read_program, pm__law_read_program, an__law_read_program, cd__law_read_program, ct__law_read_program, sl__law_read_program, l__law_read_program, c__law_read_program, k__law_read_program⟩ := fnl_of (st := s__law_read_program) (c.fn 21) q22
  obtain ⟨oc__law_bent, od__law_bent, kV__law_bent, dc__law_bent, pm__law_bent, an__law_bent, cd__law_bent, ct__law_bent, sl__law_bent, l__law_bent, c__law_bent, k__law_bent⟩ := fnl_of (st := s__law_bent) (c.fn 22) q23
  obtain ⟨oc__law_laid, od__law_laid, kV__law_laid, dc__law_laid, pm__law_laid, an__law_laid, cd__law_laid, ct__law_laid, sl__law_laid, l__law_laid, c__law_laid, k__law_laid⟩ := fnl_of (st := s__law_laid) (c.fn 23) q24
  obtain ⟨oc__law_right, od__law_right, kV__law_right, dc__law_right, pm__law_right, an__law_right, cd__law_right, ct__law_right, sl__law_right, l__law_right, c__law_right, k__law_right⟩ := fnl_of (st := s__law_right) (c.fn 24) q25
  obtain ⟨oc_law, od_law, kV_law, dc_law, pm_law, an_law, cd_law, ct_law, sl_law, l_law, c_law, k_law⟩ := fnl_of (st := s_law) (c.fn 25) q26
  have z_int := of_decide_eq_true q27
  have z_abs := of_decide_eq_true q28
  have z_range := of_decide_eq_true q29
  have z_len := of_decide_eq_true q30
  have z_isinstance := of_decide_eq_true q31
  have z_bool := of_decide_eq_true q32
  have z_str := of_decide_eq_true q33
  have z_list := of_decide_eq_true q34
  have z_tuple := of_decide_eq_true q35
  have z_dict := of_decide_eq_true q36
  have z_enumerate := of_decide_eq_true q37
  have z_zip := of_decide_eq_true q38
  have z_reversed := of_decide_eq_true q39
  have z_ValueError := of_decide_eq_true q40
  have z_LookupError := of_decide_eq_true q41
  have z_KeyError := of_decide_eq_true q42
  have z_Exception := of_decide_eq_true q43
  have z_super := of_decide_eq_true q44
  have z_sum := of_decide_eq_true q45
  have z_any := of_decide_eq_true q46
  have z_all := of_decide_eq_true q47
  have z_sorted := of_decide_eq_true q48
  have z_max := of_decide_eq_true q49
  have z_min := of_decide_eq_true q50
  have z_NotImplementedError := of_decide_eq_true q51
  have z_set := of_decide_eq_true q52
  have z_repr := of_decide_eq_true q53
  have opq := of_decide_eq_true q54
  have top0 : (PySem.Challenge.pw_deedscale_k20_texts_refused.main.scope.names.lookup ("super" : Str)).isSome = false := rfl
  have a_f__law_source := of_decide_eq_true q55
  have a_f__law_pick := of_decide_eq_true q56
  have a_f_is_name := of_decide_eq_true q57
  have a_f_is_count := of_decide_eq_true q58
  have a_f_split_text := of_decide_eq_true q59
  have a_f_read_all := of_decide_eq_true q60
  have a_f_read_term := of_decide_eq_true q61
  have a_f_read_procedures := of_decide_eq_true q62
  have a_a_FORMS := of_decide_eq_true q63
  have a_a_OTHER_WORDS := of_decide_eq_true q64
  have fAt : FormsAt K w (He.ga K "FORMS") := forms_at (c.tabW 0)
  have fTp := forms_tp q65
  have oTx := tupTx_ok q66
  obtain ⟨tSm, gSm⟩ := nsStr_of q67
  obtain ⟨tFg, gFg⟩ := nsStr_of q68
  obtain ⟨tMo, gMo⟩ := nsInt_of q69
  obtain ⟨tMf, gMf⟩ := nsInt_of q70
  have xsp_ := of_decide_eq_true q71
  have xtk_ := of_decide_eq_true q72
  have a_A_BadText := of_decide_eq_true q73
  have xh_BadText := q74
  have xe_BadText := of_decide_eq_true q75
  have xk_BadText := q76
  have xg_BadText := of_decide_eq_true q77
  have xgg_BadText := of_decide_eq_true q78
  have xcl_BadText := of_decide_eq_true q79
  have xmo_BadText := of_decide_eq_true q80
  have xt_BadText := of_decide_eq_true q81
  have xte_BadText := of_decide_eq_true q82
  have xi_BadText := q83
  have xo_BadText := q84
  have xs_BadText := of_decide_eq_true q85
  have xb_BadText := of_decide_eq_true q86
  have xn_BadText := of_decide_eq_true q87
  have xm_BadText := of_decide_eq_true q88
  have xsup_BadText := of_decide_eq_true q89
  have a_f_BadText___init__ := of_decide_eq_true q90
  have a_CPil := of_decide_eq_true q91
  have pg_CPil := q92
  have hd_CPil := q93
  have po_CPil := q94
  have sa_CPil := of_decide_eq_true q95
  have na_CPil_wishes := of_decide_eq_true q96
  have na_CPil_read_values := of_decide_eq_true q97
  have na_CPil_open_count := of_decide_eq_true q98
  have a_CPil_f_Pile___init__ := of_decide_eq_true q99
  have i_Pile___init__ := q100
  have mk_CPil := q101
  have kp_CPil := q102
  have a_CPil_f_Pile_wish := of_decide_eq_true q103
  have i_Pile_wish := q104
  have a_CPil_f_Pile_settle := of_decide_eq_true q105
  have i_Pile_settle := q106
  have a_CPil_f_Pile_meets_bracket := of_decide_eq_true q107
  have i_Pile_meets_bracket := q108
  have a_CPil_f_Pile_meets := of_decide_eq_true q109
  have i_Pile_meets := q110
  have a_f__law_name := of_decide_eq_true q111
  have a_f__law_names := of_decide_eq_true q112
  have a_f__law_term := of_decide_eq_true q113
  have a_f__law_text := of_decide_eq_true q114
  have a_f__law_tokens := of_decide_eq_true q115
  have a_f__law_fits := of_decide_eq_true q116
  have a_f__law_read := of_decide_eq_true q117
  have a_f__law_read_program := of_decide_eq_true q118
  have a_f__law_bent := of_decide_eq_true q119
  have a_f__law_laid := of_decide_eq_true q120
  have a_f__law_right := of_decide_eq_true q121
  have a_f_law := of_decide_eq_true q122
  have a_A_DeedscaleError := of_decide_eq_true q123
  have kD_BadText := of_decide_eq_true q124
  exact all_mk (l := PySem.Challenge.rw_deedscale_k20_texts_refused) X G hfa z_int z_abs z_range z_len z_isinstance z_bool z_str z_list z_tuple z_dict z_enumerate z_zip z_reversed z_ValueError z_LookupError z_KeyError z_Exception z_super z_sum z_any z_all z_sorted z_max z_min z_NotImplementedError z_set z_repr opq top0 a_f__law_source l__law_source c__law_source k__law_source a_f__law_pick l__law_pick c__law_pick k__law_pick a_f_is_name l_is_name c_is_name k_is_name a_f_is_count l_is_count c_is_count k_is_count a_f_split_text l_split_text c_split_text k_split_text a_f_read_all l_read_all c_read_all k_read_all a_f_read_term l_read_term c_read_term k_read_term a_f_read_procedures l_read_procedures c_read_procedures k_read_procedures a_a_FORMS a_a_OTHER_WORDS fAt fTp oTx gSm gFg gMo gMf xsp_ xtk_ a_A_BadText xh_BadText xe_BadText xk_BadText xg_BadText xgg_BadText xcl_BadText xmo_BadText xt_BadText xte_BadText xi_BadText xo_BadText xs_BadText xb_BadText xn_BadText xm_BadText xsup_BadText a_f_BadText___init__ ty_BadText___init__ l_BadText___init__ c_BadText___init__ lc_BadText___init__ hv_BadText___init__ hf_BadText___init__ lx_BadText___init__ a_CPil pg_CPil hd_CPil po_CPil sa_CPil na_CPil_wishes na_CPil_read_values na_CPil_open_count a_CPil_f_Pile___init__ i_Pile___init__ l_Pile___init__ c_Pile___init__ k_Pile___init__ mk_CPil kp_CPil a_CPil_f_Pile_wish i_Pile_wish l_Pile_wish c_Pile_wish k_Pile_wish a_CPil_f_Pile_settle i_Pile_settle l_Pile_settle c_Pile_settle k_Pile_settle a_CPil_f_Pile_meets_bracket i_Pile_meets_bracket l_Pile_meets_bracket c_Pile_meets_bracket k_Pile_meets_bracket a_CPil_f_Pile_meets i_Pile_meets l_Pile_meets c_Pile_meets k_Pile_meets a_f__law_name l__law_name c__law_name k__law_name a_f__law_names l__law_names c__law_names k__law_names a_f__law_term l__law_term c__law_term k__law_term a_f__law_text l__law_text c__law_text k__law_text a_f__law_tokens l__law_tokens c__law_tokens k__law_tokens a_f__law_fits l__law_fits c__law_fits k__law_fits a_f__law_read l__law_read c__law_read k__law_read a_f__law_read_program l__law_read_program c__law_read_program k__law_read_program a_f__law_bent l__law_bent c__law_bent k__law_bent a_f__law_laid l__law_laid c__law_laid k__law_laid a_f__law_right l__law_right c__law_right k__law_right a_f_law l_law c_law k_law a_A_DeedscaleError kD_BadText
end L2.DS
open PySem PySem.W PySem.Calls PyProof.Rows
set_option maxRecDepth 100000 in
set_option maxHeartbeats 0 in
theorem PySem.Challenge.cw_deedscale_k20_texts_refused_holds : PySem.Challenge.rw_deedscale_k20_texts_refused.Holds := by
  w_on; o_law
  refine HandSHeadRun.head_any (r := L2.DS.RH) (q := L2.DS.qH) (H := L2.DS.hookB 8000 L2.DS.fsH L2.DS.dfsH L2.DS.tabsH) (ob := L2.DS.obH) (M := 9000) (loose := L2.DS.namesH) (d := HandSHeadRun.topDef L2.DS.RH.prog 31) (kwd := []) L2.DS.obH_eq
    (by kernel_rfl) (fun s => by kernel_rfl) L2.DS.runH (by kernel_rfl) (by kernel_rfl) (by kernel_rfl) (by rfl) (by first | assumption | decide +kernel) (by decide +kernel) ⟨rfl, rfl, rfl, rfl, rfl, by decide +kernel⟩ ?hw ?hc
  case hw => w_witness2
  case hc =>
    refine L2.walk_ofE (l := PySem.Challenge.rw_deedscale_k20_texts_refused) (n := 63) (k := 44) (x := "_law_script") (CX := L2.CX0) rfl (by decide) (by kernel_rfl) ⟨rfl, by decide, by decide⟩ ?F (fun _ _ _ _ z => z)
    intro w mg fa h Y G hmg0
    obtain ⟨K, KX, c⟩ := Y
    have hmg : mg ("law" : PySem.Str) = some (.ref fa) := by
      have e : (HandSHeadRun.topDef L2.DS.RH.prog 31).name = ("law" : PySem.Str) := by kernel_rfl
      rw [← e]
      exact hmg0
    obtain ⟨fd, hb, hF⟩ := L2.DS.facts_mk KX G hmg c
    exact ⟨K, fd, L2.DS.sp_law K, KX, hb, fun H a ns hl _ hS => ⟨a, ns, rfl, hS, hl, fun _ => rfl⟩, hF⟩
#print axioms PySem.Challenge.cw_deedscale_k20_texts_refused_holds
