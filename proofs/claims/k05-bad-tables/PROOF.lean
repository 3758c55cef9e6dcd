import PyProof.Rows.All
import Wide.All
import OpenK.AllK
import Wide.FinOn
import KE.KStateDown
import HandS.Words
import KE.KExcInit
import HandS.Defaults
import HandS.Head0
import HandS.Head1
import HandS.Head2
import HandS.HeadHook1
import HandS.HeadHook2
import HandS.HeadHook3
import PySem.Challenge.RW_deedscale_k05_bad_tables
import KE.KExcSuper
import HandS.ForMost
import HandS.ForExc
import HandS.ExcInit
import HandS.ClsMeth
import HandS.More
import HandS.Wide
import HandS.Flow
import HandS.IsInst
import HandS.Dict
import HandS.Star
import HandS.DictComp
import HandS.FStr
import HandS.Walk
import HandS.MakeKwOnly
import HandS.WordsExc
import HandS.Conv
import KE.KIndexOf
import PyProof.SeqIndex
import HandS.ExcIs
import HandS.ExcOwn
import HandS.Text
import HandS.ExcValue
import PyProof.StrOps2
import HandS.Deep
import PyProof.StrBlock2
import PyProof.StrBlockL
import HandS.Iter
import PyProof.Rows.StrMul
import HandS.CallLocal
import HandS.TupAny
import HandS.SlotsOwn
import HandS.Property
import HandS.Codes
import KE.KFmtOwn
import KE.KOpsOwn
import PyProof.InstEq
import HandS.ReplaceLit
import HandS.ReplaceDef
import HandS.ReplaceList
import PyProof.Rows.StrSplitJoin
import HandS.TryOnly
import KE.KCallOwn
import HandS.TupLe
import HandS.RaiseMore
import HandS.StrMore
import HandS.HeadEnd
set_option Elab.async false
set_option linter.all false
set_option maxRecDepth 100000
set_option maxHeartbeats 4000000
/-! The head by one run of the kernel, with a look of one's own: facts as Bools of what the top has left, functions and tables by their texts. -/
namespace L2.DS
open PySem PySem.Spec PyProof.Rows
abbrev Fg := PySem.W.Frag
/-- a function as its text has it -/
abbrev FnU : Type := Option (Str × Str × Arguments × FuncBody × Scope × Addr × Addr)
def fnU (K : Fg) (f : Addr) : FnU := match K.lookup f with
  | some ⟨_, _, .func fd, _⟩ => some (fd.name, fd.qualname, fd.params, fd.body, fd.scope, fd.globals, fd.builtins)
  | _ => none
def fdA (K : Fg) (f : Addr) : FuncData := match K.lookup f with
  | some ⟨_, _, .func fd, _⟩ => fd
  | _ => default
structure Df where
  at_ : Fg → Addr
  name : Str
  qual : Str
  st : Stmt
def Df.val (d : Df) : FnU := some (d.name, d.qual, defArgs d.st, .stmts (defBody d.st), defScope d.st, mainGlobals, builtinsNs)
/-- all that is reached of some addresses: each once, told by a mask -/
def reachG (g : Addr → Option Obj) : Nat → List Addr → Nat → Fg
  | 0, _, _ => []
  | n + 1, as, M => match as with
    | [] => []
    | a :: q => match Nat.beq (Nat.mod (Nat.shiftRight M a) 2) 1 with
      | true => reachG g n q M
      | false => match g a with
        | none => reachG g n q M
        | some o => HandSHeadRun.frNat (Nat.lor M (Nat.shiftLeft 1 a)) fun M' => (a, o) :: reachG g n (He.refsD o ++ q) M'
theorem reachG_in {g : Addr → Option Obj} : ∀ {n : Nat} {as : List Addr} {M : Nat} {a : Addr} {o : Obj}, (a, o) ∈ reachG g n as M → g a = some o
  | 0, _, _, _, _, h => by cases h
  | n + 1, [], _, _, _, h => by cases h
  | n + 1, b :: q, M, a, o, h => by
    unfold reachG at h
    dsimp only at h
    split at h
    · exact reachG_in h
    · cases hb : g b with
      | none =>
        rw [hb] at h
        exact reachG_in h
      | some ob =>
        rw [hb] at h
        dsimp only at h
        rw [HandSHeadRun.frNat_eq] at h
        rcases List.mem_cons.mp h with e | e
        · cases e
          exact hb
        · exact reachG_in e
theorem look_mem {K : Fg} {a : Addr} {o : Obj} : K.lookup a = some o → (a, o) ∈ K := fun h => by
  induction K with
  | nil => cases h
  | cons p r ih =>
    obtain ⟨b, u⟩ := p
    rw [List.lookup_cons] at h
    split at h
    · rename_i e
      cases h
      rw [beq_iff_eq.mp e]
      exact List.mem_cons_self
    · exact List.mem_cons_of_mem _ (ih h)
def fragB (n : Nat) (g : Addr → Option Obj) : Fg := reachG g n [mainGlobals, cStatics] 0
theorem fragB_in {n : Nat} {h : Heap} : (fragB n h.get?).In h := fun _ _ e => reachG_in (look_mem e)
/-! ### the look -/
abbrev AlB : Type := (Bool × List FnU) × List (Option (List (Option (Str × Int))))
def obsB (fs : List (Fg → Bool)) (dfs : List Df) (ts : List He.Tab) (K : Fg) : AlB := ((fs.all fun f => f K, dfs.map fun d => fnU K (d.at_ K)), ts.map fun t => He.dicW K (t.1 K))
def valB (dfs : List Df) (ts : List He.Tab) (w : World) : AlB := ((true, dfs.map Df.val), ts.map fun t => some (He.keysIn w.params t.2))
def SaysB (fs : List (Fg → Bool)) (dfs : List Df) (ts : List He.Tab) (w : World) (K : Fg) : Prop := obsB fs dfs ts K = valB dfs ts w
def obsBG (n : Nat) (fs : List (Fg → Bool)) (dfs : List Df) (ts : List He.Tab) (g : Addr → Option Obj) : AlB := obsB fs dfs ts (fragB n g)
def hookB (n : Nat) (fs : List (Fg → Bool)) (dfs : List Df) (ts : List He.Tab) : PySem.W.Hook where
  α := AlB
  obs := fun s => obsBG n fs dfs ts s.heap.get?
  val := fun w => valB dfs ts w
  says := fun w h => ∃ K : Fg, K.In h ∧ SaysB fs dfs ts w K
  of := fun _ _ e => ⟨_, fragB_in, e⟩
  keeps := fun _ _ _ ⟨K, hK, c⟩ k => ⟨K, PySem.W.Frag.In.keeps hK k, c⟩
theorem obsBG_eq {n : Nat} {fs : List (Fg → Bool)} {dfs : List Df} {ts : List He.Tab} {g : Addr → Option Obj} {s : Shared} (h : ∀ a, g a = s.heap.get? a) : obsBG n fs dfs ts g = (hookB n fs dfs ts).obs s := by
  have e : g = s.heap.get? := funext h
  rw [e] <;> rfl
section
variable {fs : List (Fg → Bool)} {dfs : List Df} {ts : List He.Tab} {w : World} {K : Fg}
theorem SaysB.all (c : SaysB fs dfs ts w K) : (fs.all fun f => f K) = true := congrArg (fun z : AlB => z.1.1) c
theorem SaysB.fact (c : SaysB fs dfs ts w K) (i : Nat) {f : Fg → Bool} (h : fs[i]? = some f := by rfl) : f K = true := List.all_eq_true.mp c.all f (List.mem_of_getElem? h)
theorem SaysB.fn (c : SaysB fs dfs ts w K) (i : Nat) {d : Df} (h : dfs[i]? = some d := by rfl) : fnU K (d.at_ K) = d.val := by
  have e : dfs.map (fun d => fnU K (d.at_ K)) = dfs.map Df.val := congrArg (fun z : AlB => z.1.2) c
  have e2 : (dfs.map fun d => fnU K (d.at_ K))[i]? = (dfs.map Df.val)[i]? := by rw [e]
  rw [List.getElem?_map, List.getElem?_map, h] at e2
  exact Option.some.inj e2
theorem SaysB.tab (c : SaysB fs dfs ts w K) (i : Nat) {t : He.Tab} (h : ts[i]? = some t := by rfl) : ∃ es n, KDict K w (t.1 K) es n := by
  have e : ts.map (fun t => He.dicW K (t.1 K)) = ts.map fun t => some (He.keysIn w.params t.2) := congrArg (fun z : AlB => z.2) c
  have e2 : (ts.map fun t => He.dicW K (t.1 K))[i]? = (ts.map fun t => some (He.keysIn w.params t.2))[i]? := by rw [e]
  rw [List.getElem?_map, List.getElem?_map, h] at e2
  exact He.dicW_ok (Option.some.inj e2)
end
/-! ### checks -/
def isNon : Value → Bool
  | .none => true
  | _ => false
theorem isNon_ok {v : Value} (h : isNon v = true) : v = .none := by
  cases v <;> first | rfl | cases h
/-- a plain def: no closure, no defaults -/
def ckFn (K : Fg) (f : Addr) (qual : Str) : Bool := PySem.W.keepIn K (.ref f) && (match K.lookup f with
  | some ⟨_, _, .func fd, _⟩ => fd.closure.isEmpty && (isNon fd.defaults && PySem.W.codeIn K fd.code qual)
  | _ => false)
/-- a def with whole numbers as defaults -/
def intV (i : Int) : Value → Bool
  | .int j _ => decide (i = j)
  | _ => false
def ckDflL (i : Int) : List Value → Bool
  | [u] => intV i u
  | _ => false
def ckDflT (i : Int) : Option Obj → Bool
  | some ⟨_, _, .seq its _, _⟩ => ckDflL i its.toList
  | _ => false
def ckDfl (K : Fg) (i : Int) : Value → Bool
  | .ref T => ckDflT i (K.lookup T)
  | _ => false
def ckFnI (K : Fg) (f : Addr) (qual : Str) (i : Int) : Bool := PySem.W.keepIn K (.ref f) && (match K.lookup f with
  | some ⟨_, _, .func fd, _⟩ => fd.closure.isEmpty && (PySem.W.codeIn K fd.code qual && ckDfl K i fd.defaults)
  | _ => false)
/-- a def with a closure over its class -/
def ckFile (file : Str) (vs : Array Value) : Bool := match (vs[2]? : Option Value) with
  | some (.str fi _) => file == fi
  | _ => false
def ckCell (D : Addr) : Option Obj → Bool
  | some ⟨_, _, .cell (some (.ref D')), _⟩ => decide (D' = D)
  | _ => false
def ckClo (K : Fg) (D : Addr) : List (Str × Addr) → Bool
  | [(x, cc)] => decide (x = ("__class__" : Str)) && ckCell D (K.lookup cc)
  | _ => false
def ckFlds (file : Str) : Option Obj → Bool
  | some ⟨_, _, .fields vs, _⟩ => ckFile file vs
  | _ => false
def ckCode (file : Str) (K : Fg) (qual : Str) : Value → Bool
  | .ref cda => PySem.W.codeIn K (.ref cda) qual && ckFlds file (K.lookup cda)
  | _ => false
def ckSup (file : Str) (K : Fg) (f D : Addr) (qual : Str) : Bool := PySem.W.keepIn K (.ref f) && (PySem.W.fnIn K f && (decide (PySem.W.typeIn K (.ref f) = some (.type "function")) && (match K.lookup f with
  | some ⟨_, _, .func fd, _⟩ => isNon fd.defaults && (ckClo K D fd.closure && ckCode file K qual fd.code)
  | _ => false)))
def ckCls (K : Fg) (D : Addr) : Bool := match K.lookup D with
  | some ⟨_, _, .cls _, _⟩ => true
  | _ => false
def ckStr (K : Fg) (x z : Str) : Bool := match PySem.W.nsIn K mainGlobals x with
  | some (some (.str y _)) => decide (y = z)
  | _ => false
/-! ### what they say -/
section
variable {K : Fg} {f D : Addr} {x qual file z : Str} {st : Stmt} {i : Int}
theorem fnU_ok (e : fnU K f = some (x, qual, defArgs st, .stmts (defBody st), defScope st, mainGlobals, builtinsNs)) : ∃ oc od osl cl dV kV doc pm an cdv ct, K.lookup f = some ⟨oc, od, .func ⟨x, qual, defArgs st, .stmts (defBody st), defScope st, mainGlobals, cl, dV, kV, doc, pm, an, cdv, ct, builtinsNs⟩, osl⟩ := by
  unfold fnU at e
  split at e
  · rename_i oc od fd osl h
    obtain ⟨n1, n2, n3, n4, n5, n6, n7, n8, n9, n10, n11, n12, n13, n14, n15⟩ := fd
    have eu : (some (n1, n2, n3, n4, n5, n6, n15) : FnU) = some (x, qual, defArgs st, .stmts (defBody st), defScope st, mainGlobals, builtinsNs) := e
    simp only [Prod.mk.injEq, Option.some.injEq] at eu
    obtain ⟨u1, u2, u3, u4, u5, u6, u7⟩ := eu
    subst u1 u2 u3 u4 u5 u6 u7
    exact ⟨oc, od, osl, n7, n8, n9, n10, n11, n12, n13, n14, h⟩
  · cases e
theorem and2 {a b : Bool} (h : (a && b) = true) : a = true ∧ b = true := Bool.and_eq_true_iff.mp h
theorem fun_of (e : fnU K f = some (x, qual, defArgs st, .stmts (defBody st), defScope st, mainGlobals, builtinsNs)) (c : ckFn K f qual = true) : ∃ fd, Fun K x qual st f fd := by
  obtain ⟨oc, od, osl, cl, dV, kV, doc, pm, an, cdv, ct, l⟩ := fnU_ok e
  obtain ⟨k, c⟩ := and2 c
  rw [l] at c
  obtain ⟨c1, c⟩ := and2 (show (cl.isEmpty && (isNon dV && PySem.W.codeIn K cdv qual)) = true from c)
  obtain ⟨c2, c3⟩ := and2 c
  obtain rfl := List.isEmpty_iff.mp c1
  obtain rfl := isNon_ok c2
  exact ⟨_, ⟨oc, od, kV, doc, pm, an, cdv, ct, osl, rfl, l, c3⟩, k⟩
theorem funI_of (e : fnU K f = some (x, qual, defArgs st, .stmts (defBody st), defScope st, mainGlobals, builtinsNs)) (c : ckFnI K f qual i = true) : ∃ fd, FunD K x qual (defArgs st) (defBody st) (defScope st) [.int i] [] f fd := by
  obtain ⟨oc, od, osl, cl, dV, kV, doc, pm, an, cdv, ct, l⟩ := fnU_ok e
  obtain ⟨k, c⟩ := and2 c
  rw [l] at c
  obtain ⟨c1, c⟩ := and2 c
  obtain ⟨c2, c3⟩ := and2 c
  obtain rfl := List.isEmpty_iff.mp c1
  refine ⟨_, ⟨oc, od, dV, kV, doc, pm, an, cdv, ct, osl, rfl, l, c2, ?_, .inl rfl⟩, k⟩
  cases dV with
  | ref T =>
    have c4 : ckDflT i (K.lookup T) = true := c3
    cases lT : K.lookup T with
    | none =>
      rw [lT] at c4
      cases c4
    | some o =>
      obtain ⟨o1, o2, o3, o4⟩ := o
      rw [lT] at c4
      cases o3 with
      | seq its n =>
        have c5 : ckDflL i its.toList = true := c4
        refine .inr ⟨by simp, T, _, its.toList, n, rfl, lT, by simp, ?_⟩
        match hl : its.toList, c5 with
        | [u], c6 =>
          refine .cons ?_ .nil
          have c7 : intV i u = true := c6
          cases u with
          | int j t => exact ⟨t, by rw [of_decide_eq_true c7]⟩
          | _ => cases c7
      | _ => cases c4
  | _ => cases c3
end
end L2.DS
namespace L2.DS
open PySem PySem.Spec PyProof.Rows
def topH (i : Nat) : Stmt := PySem.Challenge.pw_deedscale_k05_bad_tables.main.body.getD i (.Pass ⟨0, 0, 0, 0⟩)
def dfsH : List Df := ([⟨fun K => He.ma K (He.ga K "Scale") "__init__", "__init__", "Scale.__init__", inClass (topH 7) 0⟩, ⟨fun K => He.ga K "is_table_name", "is_table_name", "is_table_name", topH 8⟩, ⟨fun K => He.ga K "table_places", "table_places", "table_places", topH 9⟩, ⟨fun K => He.ma K (He.ga K "TableScale") "make_then", "make_then", "TableScale.make_then", inClass (topH 10) 1⟩, ⟨fun K => He.ma K (He.ga K "TableScale") "make_join", "make_join", "TableScale.make_join", inClass (topH 10) 2⟩, ⟨fun K => He.ma K (He.ga K "TableScale") "__init__", "__init__", "TableScale.__init__", inClass (topH 10) 0⟩, ⟨fun K => He.ga K "_law_source", "_law_source", "_law_source", topH 12⟩, ⟨fun K => He.ga K "_law_pick", "_law_pick", "_law_pick", topH 13⟩, ⟨fun K => He.ga K "_law_table_names", "_law_table_names", "_law_table_names", topH 14⟩, ⟨fun K => He.ga K "_law_right_name", "_law_right_name", "_law_right_name", topH 15⟩, ⟨fun K => He.ga K "_law_right", "_law_right", "_law_right", topH 16⟩, ⟨fun K => He.ga K "_law_odd", "_law_odd", "_law_odd", topH 17⟩, ⟨fun K => He.ga K "_law_change", "_law_change", "_law_change", topH 18⟩, ⟨fun K => He.ga K "law", "law", "law", topH 19⟩] : List Df)
def ckH0 (K : Fg) : Bool := ckFnI K (He.ma K (He.ga K "Scale") "__init__") "Scale.__init__" 1 && (ckFn K (He.ga K "is_table_name") "is_table_name" && (ckFn K (He.ga K "table_places") "table_places" && (ckFn K (He.ma K (He.ga K "TableScale") "make_then") "TableScale.make_then" && (ckFn K (He.ma K (He.ga K "TableScale") "make_join") "TableScale.make_join" && (ckSup PySem.Challenge.pw_deedscale_k05_bad_tables.main.file K (He.ma K (He.ga K "TableScale") "__init__") (He.ga K "TableScale") "TableScale.__init__" && (ckFn K (He.ga K "_law_source") "_law_source" && (ckFn K (He.ga K "_law_pick") "_law_pick" && (ckFn K (He.ga K "_law_table_names") "_law_table_names" && (ckFn K (He.ga K "_law_right_name") "_law_right_name" && (ckFn K (He.ga K "_law_right") "_law_right" && (ckFn K (He.ga K "_law_odd") "_law_odd")))))))))))
def ckH1 (K : Fg) : Bool := ckFn K (He.ga K "_law_change") "_law_change" && (ckFn K (He.ga K "law") "law" && (decide (PySem.W.nsIn K mainGlobals "int" = some none) && (decide (PySem.W.nsIn K mainGlobals "abs" = some none) && (decide (PySem.W.nsIn K mainGlobals "range" = some none) && (decide (PySem.W.nsIn K mainGlobals "len" = some none) && (decide (PySem.W.nsIn K mainGlobals "isinstance" = some none) && (decide (PySem.W.nsIn K mainGlobals "bool" = some none) && (decide (PySem.W.nsIn K mainGlobals "str" = some none) && (decide (PySem.W.nsIn K mainGlobals "list" = some none) && (decide (PySem.W.nsIn K mainGlobals "tuple" = some none) && (decide (PySem.W.nsIn K mainGlobals "dict" = some none))))))))))))
def ckH2 (K : Fg) : Bool := decide (PySem.W.nsIn K mainGlobals "enumerate" = some none) && (decide (PySem.W.nsIn K mainGlobals "zip" = some none) && (decide (PySem.W.nsIn K mainGlobals "reversed" = some none) && (decide (PySem.W.nsIn K mainGlobals "ValueError" = some none) && (decide (PySem.W.nsIn K mainGlobals "LookupError" = some none) && (decide (PySem.W.nsIn K mainGlobals "KeyError" = some none) && (decide (PySem.W.nsIn K mainGlobals "Exception" = some none) && (decide (PySem.W.nsIn K mainGlobals "super" = some none) && (decide (PySem.W.nsIn K mainGlobals "sum" = some none) && (decide (PySem.W.nsIn K mainGlobals "any" = some none) && (decide (PySem.W.nsIn K mainGlobals "all" = some none) && (decide (PySem.W.nsIn K mainGlobals "sorted" = some none))))))))))))
def ckH3 (K : Fg) : Bool := decide (PySem.W.nsIn K mainGlobals "max" = some none) && (decide (PySem.W.nsIn K mainGlobals "min" = some none) && (decide (PySem.W.nsIn K mainGlobals "NotImplementedError" = some none) && (decide (PySem.W.nsIn K mainGlobals "set" = some none) && (decide (PySem.W.nsIn K mainGlobals "repr" = some none) && (decide (PySem.W.nsIn K cStatics "thirdparty.any" = some none) && (decide (PySem.W.nsIn K mainGlobals "Scale" = some (some (.ref (He.ga K "Scale")))) && (decide (PySem.W.nsIn K mainGlobals "TableScale" = some (some (.ref (He.ga K "TableScale")))) && ((PySem.W.plainGet K (He.ga K "TableScale") Str.empty) && ((PySem.W.hasDictIn K (He.ga K "TableScale")) && ((PySem.W.plainOver K (He.ga K "TableScale")) && (decide (PySem.W.findIn K (.ref (He.ga K "TableScale")) "__setattr__" = some (some (.builtin "object.__setattr__"))))))))))))))
def ckH4 (K : Fg) : Bool := decide (PySem.W.findIn K (.ref (He.ga K "TableScale")) "written_joins" = some none) && (decide (PySem.W.findIn K (.ref (He.ga K "TableScale")) "written_products" = some none) && (decide (PySem.W.findIn K (.ref (He.ga K "TableScale")) "label" = some none) && (decide (PySem.W.findIn K (.ref (He.ga K "TableScale")) "size" = some none) && (decide (PySem.W.findIn K (.ref (He.ga K "TableScale")) "never_at" = some none) && (decide (PySem.W.findIn K (.ref (He.ga K "TableScale")) "still_at" = some none) && (decide (PySem.W.findIn K (.ref (He.ga K "TableScale")) "depth" = some none) && (decide (PySem.W.findIn K (.ref (He.ga K "TableScale")) "worth_names" = some none) && (decide (PySem.W.findIn K (.ref (He.ga K "TableScale")) "worth_places" = some none) && (decide (PySem.W.findIn K (.ref (He.ga K "TableScale")) "product_table" = some none) && (decide (PySem.W.findIn K (.ref (He.ga K "TableScale")) "join_table" = some none) && (decide (PySem.W.findIn K (.ref (He.ga K "Scale")) "__init__" = some (some (.ref (He.ma K (He.ga K "Scale") "__init__")))))))))))))))
def ckH5 (K : Fg) : Bool := (PySem.W.fnIn K (He.ma K (He.ga K "Scale") "__init__")) && (decide (PySem.W.typeIn K (.ref (He.ma K (He.ga K "Scale") "__init__")) = some (.type "function")) && (ckStr K "SIGNS" "abcdefghijklmnopqrstuvwxyz0123456789" && (decide (PySem.W.nsIn K mainGlobals "is_table_name" = some (some (.ref (He.ga K "is_table_name")))) && (decide (PySem.W.nsIn K mainGlobals "table_places" = some (some (.ref (He.ga K "table_places")))) && (decide (PySem.W.findIn K (.ref (He.ga K "TableScale")) "make_then" = some (some (.ref (He.ma K (He.ga K "TableScale") "make_then")))) && ((PySem.W.isFn K (.ref (He.ma K (He.ga K "TableScale") "make_then"))) && (decide (PySem.W.findIn K (.ref (He.ga K "TableScale")) "make_join" = some (some (.ref (He.ma K (He.ga K "TableScale") "make_join")))) && ((PySem.W.isFn K (.ref (He.ma K (He.ga K "TableScale") "make_join"))) && (decide (PySem.W.findIn K (.ref (He.ga K "TableScale")) "__init__" = some (some (.ref (He.ma K (He.ga K "TableScale") "__init__")))) && (ckCls K (He.ga K "TableScale") && (decide (PySem.W.mroIn K (He.ga K "TableScale") (.ref (He.ga K "TableScale")) = some true))))))))))))
def ckH6 (K : Fg) : Bool := decide (PySem.W.ks_superIn K (He.ga K "TableScale") (He.ga K "TableScale") "__init__" = some (some (.ref (He.ma K (He.ga K "Scale") "__init__")))) && ((PySem.W.makesIn K (He.ga K "TableScale")) && ((PySem.W.isFn K (.ref (He.ma K (He.ga K "TableScale") "__init__"))) && ((PySem.W.keepIn K (.ref (He.ga K "TableScale"))) && (decide (PySem.W.nsIn K mainGlobals "_law_source" = some (some (.ref (He.ga K "_law_source")))) && (decide (PySem.W.nsIn K mainGlobals "_law_pick" = some (some (.ref (He.ga K "_law_pick")))) && (decide (PySem.W.nsIn K mainGlobals "_law_table_names" = some (some (.ref (He.ga K "_law_table_names")))) && (decide (PySem.W.nsIn K mainGlobals "_law_right_name" = some (some (.ref (He.ga K "_law_right_name")))) && (decide (PySem.W.nsIn K mainGlobals "_law_right" = some (some (.ref (He.ga K "_law_right")))) && (decide (PySem.W.nsIn K mainGlobals "_law_odd" = some (some (.ref (He.ga K "_law_odd")))) && (decide (PySem.W.nsIn K mainGlobals "_law_change" = some (some (.ref (He.ga K "_law_change")))) && (decide (PySem.W.nsIn K mainGlobals "law" = some (some (.ref (He.ga K "law")))))))))))))))
def ckH7 (K : Fg) : Bool := decide (PySem.W.specialIn K (.builtin "object.__class__") "__get__" = some (some (.builtin "getset_descriptor.__get__"))) && (decide (PySem.W.takesIn K (.builtin "object.__class__") = some true) && (decide (PySem.W.nsIn K mainGlobals "BadScale" = some (some (.ref (He.ga K "BadScale")))) && ((PySem.W.hasDictIn K (He.ga K "BadScale")) && (decide (PySem.W.subIn K (.ref (He.ga K "BadScale")) (.type "BaseException") = some true) && ((PySem.W.keepIn K (.ref (He.ga K "BadScale"))) && (decide (PySem.W.findIn K (.ref (He.ga K "BadScale")) "__getattribute__" = some (some (.builtin "BaseException.__getattribute__"))) && (decide (PySem.W.findIn K (.ref (He.ga K "BadScale")) "__getattr__" = some none) && (decide (PySem.W.findIn K (.ref (He.ga K "BadScale")) "__class__" = some (some (.builtin "object.__class__"))) && (decide (PySem.W.mroIn K (He.ga K "BadScale") (.type "object") = some true) && (decide (PySem.W.typeIn K (.ref (He.ga K "BadScale")) = some (.type "type")) && (decide (PySem.W.exmOne K (.ref (He.ga K "BadScale")) (.ref (He.ga K "BadScale")) = some true))))))))))))
def ckH8 (K : Fg) : Bool := (PySem.W.excIn K (He.ga K "BadScale") [.type "ValueError", .type "Exception", .type "BaseException", .type "object"] "ValueError.__new__") && (decide (PySem.W.nsIn K mainGlobals "DeedscaleError" = some (some (.ref (He.ga K "DeedscaleError")))) && (decide (PySem.W.kitOne K (.ref (He.ga K "BadScale")) (.ref (He.ga K "DeedscaleError")) = some true) && (decide (PySem.W.nsIn K mainGlobals "MixedScales" = some (some (.ref (He.ga K "MixedScales")))) && (decide (PySem.W.kitOne K (.ref (He.ga K "BadScale")) (.ref (He.ga K "MixedScales")) = some false) && (decide (PySem.W.kitOne K (.ref (He.ga K "BadScale")) (.type "ValueError") = some true))))))
def fsH : List (Fg → Bool) := ([ckH0, ckH1, ckH2, ckH3, ckH4, ckH5, ckH6, ckH7, ckH8] : List (Fg → Bool))
def tabsH : List He.Tab := ([] : List He.Tab)
abbrev RH : PySem.W.OpenRow := PySem.W.OpenLaw.row PySem.Challenge.rw_deedscale_k05_bad_tables
abbrev qH : Program := PySem.W.view RH.prog [19]
def namesH : List Str := (["_wall", "__name__", "DeedscaleError", "BadScale", "MixedScales", "SIGNS", "Scale", "is_table_name", "table_places", "TableScale", "_law_source", "_law_pick", "_law_table_names", "_law_right_name", "_law_right", "_law_odd", "_law_change"] : List Str)
def obH (s : PySem.W.SharedT) : AlB := obsBG 8000 fsH dfsH tabsH (HandSHeadRun.getT s)
theorem obH_eq (s : PySem.W.SharedT) : obH s = (hookB 8000 fsH dfsH tabsH).obs s.abs := obsBG_eq (HandSHeadRun.getT_eq s)
theorem runH (w : World) : HandSHeadRun.RunEq RH qH (hookB 8000 fsH dfsH tabsH) obH 9000 namesH w := by
  intro os
  kernel_rfl
end L2.DS
/-! Defs whose body says super().__init__(..): their frame bears a cell of the class. -/
namespace L2.DS
open PySem PySem.Spec PyProof.Rows
/-! ### the frame -/
abbrev envS (qual : Str) (scope : Scope) (L f : Addr) (cd : Value) (cc : Addr) : Env :=
  PySem.W.envX qual scope L f cd (cellsFrom (L + 1) scope.names [("__class__", cc)])
theorem cells_acc : ∀ (names : List (Str × NameKind)) (n : Nat) (acc : List (Str × Addr)), cellsFrom n names acc = cellsFrom n names [] ++ acc
  | [], _, _ => rfl
  | (x, kd) :: r, n, acc => by
    unfold cellsFrom
    split
    · rw [cells_acc r (n + 1) ((x, n) :: acc), cells_acc r (n + 1) [(x, n)], List.append_assoc]
      rfl
    · exact cells_acc r n acc
/-- the scope of such a def: N its names, the parameters ps first -/
structure ScS (N ps : List Str) (sc : Scope) : Prop where
  kind : sc.kind = .function
  co : sc.isCoroutine = false
  gen : sc.isGenerator = false
  nd : N.Nodup
  pre : N.take ps.length = ps
  par : ∀ x ∈ ps, sc.names.lookup x = some .local ∨ sc.names.lookup x = some .cell
  fre : ∀ y ∈ sc.names, y.2 = .free → y.1 = ("__class__" : Str)
  cls : sc.names.lookup ("__class__" : Str) = some .free
  ncl : ∀ y ∈ sc.names, y.2 = .cell → y.1 ≠ ("__class__" : Str)
  sup : sc.names.lookup ("super" : Str) = some .globalImplicit
/-- which names a list of cells made at the entry has -/
theorem own_name : ∀ (names : List (Str × NameKind)) (n : Nat) (acc : List (Str × Addr)) (x : Str) (c : Addr), (x, c) ∈ cellsFrom n names acc → (x, c) ∈ acc ∨ (x, NameKind.cell) ∈ names
  | [], _, _, _, _, h => .inl h
  | (y, kd) :: r, n, acc, x, c, h => by
    unfold cellsFrom at h
    split at h
    · rename_i hk
      rcases own_name r (n + 1) _ x c h with q | q
      · rcases List.mem_cons.mp q with e | q
        · cases e
          refine .inr (List.mem_cons.mpr (.inl ?_))
          rw [show kd = NameKind.cell from beq_iff_eq.mp hk]
        · exact .inl q
      · exact .inr (List.mem_cons_of_mem _ q)
    · rcases own_name r n acc x c h with q | q
      · exact .inl q
      · exact .inr (List.mem_cons_of_mem _ q)
section
variable {M : Model} {A : Around} {E : Value → Shared → Prop} {s₀ s : Shared} {m cm : Str → Option Value} {env : Env} {own : List (Str × Addr)}
theorem put_local {n : Str} {v : Value} {Q : Unit → Shared → Prop} (x : InCallC s₀ env.locals m own cm s) (hk : env.scope.kind = .function) (hl : env.kindOf n = some .local)
    (h : ∀ s', InCallC s₀ env.locals (fun y => if y = n then some v else m y) own cm s' → Q () s') : wpAny M A (storeName env n v) Q E s := by
  refine wpAny_storeName_local hl x.toInCall.ns (fun g ng sg => h _ ⟨⟨?c1, ng, fun b o e => ?c2, x.toInCall.fresh⟩, fun k c hc => ?c3, x.apart, x.above⟩) (by rw [hk]; rfl)
  case c1 =>
    obtain ⟨h1, tk, rfl⟩ := x.toInCall.same
    exact ⟨g, _, rfl⟩
  case c2 =>
    have lt := Nat.lt_of_lt_of_le (Heap.lt_size e) x.toInCall.fresh
    exact sg.extBut b o (Nat.ne_of_lt lt) (x.toInCall.keep b o e)
  case c3 =>
    have gt := x.above k c (PySem.mem_of_lookup hc)
    exact (x.cell k c hc).sameBut sg (Nat.ne_of_gt gt)
theorem put_cell {n : Str} {c : Addr} {v : Value} {Q : Unit → Shared → Prop} (x : InCallC s₀ env.locals m own cm s) (hk : env.scope.kind = .function) (hl : env.kindOf n = some .cell)
    (hc : env.cells.lookup n = some c) (ho : own.lookup n = some c) (h : ∀ s', InCallC s₀ env.locals m own (fun y => if y = n then some v else cm y) s' → Q () s') :
    wpAny M A (storeName env n v) Q E s := by
  have gt := x.above n c (PySem.mem_of_lookup ho)
  refine wpAny_storeName_cell hk hl hc (x.cell n c ho) fun g cg sg => h _ ⟨⟨?c1, x.toInCall.ns.sameBut sg (Nat.ne_of_lt gt), fun b o e => ?c2, x.toInCall.fresh⟩, fun k c' hk' => ?c3, x.apart, x.above⟩
  case c1 =>
    obtain ⟨h1, tk, rfl⟩ := x.toInCall.same
    exact ⟨g, _, rfl⟩
  case c2 =>
    have lt := Nat.lt_of_lt_of_le (Heap.lt_size e) x.toInCall.fresh
    exact sg.extBut b o (Nat.ne_of_lt (Nat.lt_trans lt gt)) (x.toInCall.keep b o e)
  case c3 =>
    by_cases hkn : k = n
    · subst hkn
      rw [ho] at hk'
      cases hk'
      simpa using cg
    · rw [if_neg hkn]
      refine (x.cell k c' hk').sameBut sg fun e => hkn ?_
      have h1 := PySem.mem_of_lookup ho
      rw [← e] at h1
      exact name_of_addr x.apart (PySem.mem_of_lookup hk') h1
theorem put_all (f : Str × Value → PUnit → Sem (ForInStep PUnit)) (hf : ∀ n v u, f (n, v) u = (do storeName env n v; pure (.yield ⟨⟩))) (hk : env.scope.kind = .function)
    (sub : ∀ n c, own.lookup n = some c → env.cells.lookup n = some c) :
    ∀ (bs : List (Str × Value)) (m cm : Str → Option Value) (s : Shared) (Q : PUnit → Shared → Prop), InCallC s₀ env.locals m own cm s →
      (∀ x ∈ bs, env.kindOf x.1 = some .local ∨ (env.kindOf x.1 = some .cell ∧ (own.lookup x.1).isSome = true)) →
      (∀ s', InCallC s₀ env.locals (bindL env.kindOf bs m) own (bindC env.kindOf bs cm) s' → Q ⟨⟩ s') → wpAny M A (forIn bs ⟨⟩ f) Q E s
  | [], m, cm, s, Q, x, _, h => by
    rw [List.forIn_nil]
    exact wpAny_pure (h s x)
  | (n, v) :: r, m, cm, s, Q, x, kd, h => by
    rw [List.forIn_cons, hf]
    have kr := fun y (hy : y ∈ r) => kd y (List.mem_cons_of_mem _ hy)
    unfold bindL bindC at h
    rcases kd (n, v) List.mem_cons_self with hl | ⟨hl, hc⟩
    · rw [if_pos hl, if_pos hl] at h
      exact wpAny_bind (wpAny_bind (put_local x hk hl fun s' x' => wpAny_pure (put_all f hf hk sub r _ _ s' Q x' kr h)))
    · obtain ⟨c, hc⟩ := Option.isSome_iff_exists.mp hc
      have hnl : ¬ env.kindOf n = some .local := fun z => by
        rw [hl] at z
        cases z
      rw [if_neg hnl, if_neg hnl] at h
      exact wpAny_bind (wpAny_bind (put_cell x hk hl (sub n c hc) hc fun s' x' => wpAny_pure (put_all f hf hk sub r _ _ s' Q x' kr h)))
end
section
variable {M : Model} {A : Around} {E : Value → Shared → Prop} {s : Shared}
theorem new_envS {scope : Scope} {binds : List (Str × Value)} {qual : Str} {f cc : Addr} {cd : Value} {Q : Env → Shared → Prop} (hk : scope.kind = .function)
    (kd : ∀ x ∈ binds, scope.names.lookup x.1 = some .local ∨ (scope.names.lookup x.1 = some .cell ∧ ((cellsFrom (s.heap.objs.size + 1) scope.names []).lookup x.1).isSome = true))
    (hQ : ∀ s', InCallC s s.heap.objs.size (bindL (envS qual scope s.heap.objs.size f cd cc).kindOf binds fun _ => none) (cellsFrom (s.heap.objs.size + 1) scope.names [])
      (bindC (envS qual scope s.heap.objs.size f cd cc).kindOf binds fun _ => none) s' → Q (envS qual scope s.heap.objs.size f cd cc) s') :
    wpAny M A (newFunctionEnv scope mainGlobals [("__class__", cc)] binds (qual ++ ".<locals>.") (some f) cd none builtinsNs) Q E s := by
  simp only [newFunctionEnv, Option.isSome_none, Bool.false_eq_true, if_false]
  refine wpAny_bind (wpAny_alloc ?_)
  refine wpAny_bind (wpAny_layCells _ (fun nm kd cells => by cases e : kd == NameKind.cell <;> simp [e]) _ _ _ _ ?_)
  have ok := cellsFrom_ok scope.names (s.heap.push { cls := .type "frame", data := .dict #[] }) (s.heap.objs.size + 1) [] ⟨fun _ _ z => (nomatch z), List.Pairwise.nil⟩ (by rw [Heap.size_push]; exact Nat.le_refl _)
  rw [Heap.size_push] at ok
  rw [show (Shared.heap { s with heap := s.heap.push { cls := .type "frame", data := .dict #[] } }).objs.size = s.heap.objs.size + 1 from Heap.size_push ..]
  refine wpAny_bind (put_all (s₀ := s) (env := envS qual scope s.heap.objs.size f cd cc) (own := cellsFrom (s.heap.objs.size + 1) scope.names []) _ (fun _ _ _ => rfl) hk (fun n c e => ?_) binds (fun _ => none) (fun _ => none) _ _
    ⟨⟨⟨_, _, rfl⟩, (Heap.Ns.new s.heap (.type "frame")).keeps (pushCells_keeps _ _), fun b o e => pushCells_keeps _ _ b o (Heap.get?_push_of_some _ e), Nat.le_refl _⟩, fun n c z => (ok.empty n c (PySem.mem_of_lookup z)).1, ok.apart, fun n c z => (ok.empty n c z).2⟩ kd fun s' x => wpAny_pure (hQ s' x))
  show (cellsFrom (s.heap.objs.size + 1) scope.names [("__class__", cc)]).lookup n = some c
  rw [cells_acc, List.lookup_append, e]
  rfl
end
/-! ### the context -/
def cxS (CX : CXT) (P : Program) (w : World) (K : PySem.W.Frag) (mg : Str → Option Value) (base : Heap) (N : List Str) (qual : Str) (scope : Scope) (f : Addr) (cd : Value) (cc : Addr) (A : Around) (outer : List Env) (s : Shared) (H : Hp) (E : XK) : Cx where
  prog := P
  w := w
  K := K
  mg := mg
  base := base
  A := A.deeper (envS qual scope s.heap.objs.size f cd cc)
  N := N
  s_0 := s
  H_0 := H
  env := envS qual scope s.heap.objs.size f cd cc
  outer := outer
  stack := envS qual scope s.heap.objs.size f cd cc :: outer
  ex := []
  calm := true
  fn := fun x => !(x == ("__class__" : Str))
  pn := []
  xe := fun e s' => wpAny (model P w) (A.deeper (envS qual scope s.heap.objs.size f cd cc)) (leaving (envS qual scope s.heap.objs.size f cd cc) e) (fun _ s2 => CX outer H s E e s2) (fun e' s2 => CX outer H s E e' s2) s'
theorem cell_in {sc : Scope} {n : Nat} {x : Str} (h : sc.names.lookup x = some .cell) : ∃ c, (cellsFrom n sc.names []).lookup x = some c :=
  Option.isSome_iff_exists.mp (PySem.W.cellsFrom_some sc.names n [] (.inl h))
section
variable {CX : CXT} {P : Program} {w : World} {K : PySem.W.Frag} {mg : Str → Option Value} {base : Heap} {N ps : List Str} {qual : Str} {scope : Scope} {f cc D : Addr} {cd : Value} {A : Around} {outer : List Env} {s s1 : Shared} {H : Hp} {E : XK} {us : List Value} {vs : List V}
theorem look_ownS {L : Nat} {x : Str} {c : Addr} (h : (cellsFrom (L + 1) scope.names [("__class__", cc)]).lookup x = some c) (S : ScS N ps scope) :
    ((cellsFrom (L + 1) scope.names []).lookup x = some c ∧ x ≠ ("__class__" : Str)) ∨ (x = ("__class__" : Str) ∧ c = cc) := by
  rw [cells_acc, List.lookup_append] at h
  cases e : (cellsFrom (L + 1) scope.names []).lookup x with
  | some c1 =>
    rw [e] at h
    have h : c1 = c := Option.some.inj h
    subst h
    refine .inl ⟨rfl, ?_⟩
    rcases own_name _ _ _ _ _ (PySem.mem_of_lookup e) with q | q
    · cases q
    · exact S.ncl _ q rfl
  | none =>
    rw [e] at h
    have h : List.lookup x [(("__class__" : Str), cc)] = some c := h
    by_cases hx : x = ("__class__" : Str)
    · subst hx
      refine .inr ⟨rfl, ?_⟩
      have q : List.lookup ("__class__" : Str) [(("__class__" : Str), cc)] = some cc := by simp [List.lookup]
      rw [q] at h
      exact (Option.some.inj h).symm
    · have hb : (x == ("__class__" : Str)) = false := by simpa using hx
      have q : List.lookup x [(("__class__" : Str), cc)] = none := by simp [List.lookup, hb]
      rw [q] at h
      cases h
theorem look_clsS {L : Nat} (S : ScS N ps scope) : (cellsFrom (L + 1) scope.names [("__class__", cc)]).lookup ("__class__" : Str) = some cc := by
  rw [cells_acc, List.lookup_append]
  cases e : (cellsFrom (L + 1) scope.names []).lookup ("__class__" : Str) with
  | none => simp [List.lookup]
  | some c1 =>
    rcases own_name _ _ _ _ _ (PySem.mem_of_lookup e) with q | q
    · cases q
    · exact absurd rfl (S.ncl _ q rfl)
theorem inv_startS (S : ScS N ps scope) (hd : A.handled = none) (e0 : Env0 P w K mg base A outer s H) (hl : vs.length = ps.length) (r : Vals vs us)
    {ccl : Value} {ccd : Option Addr} {csl : Array (Option Value)} (hcc : K.lookup cc = some ⟨ccl, ccd, .cell (some (.ref D)), csl⟩)
    (x : InCallC s s.heap.objs.size (bindL (envS qual scope s.heap.objs.size f cd cc).kindOf (ps.zip us) fun _ => none) (cellsFrom (s.heap.objs.size + 1) scope.names []) (bindC (envS qual scope s.heap.objs.size f cd cc).kindOf (ps.zip us) fun _ => none) s1) :
    Inv (cxS CX P w K mg base N qual scope f cd cc A outer s H E) [] (start N vs) H s1 := by
  have hpl : ps.length ≤ N.length := by
    have z := congrArg List.length S.pre
    rw [List.length_take] at z
    omega
  obtain ⟨h1, tk, rfl, hk⟩ := x.done
  have bcc : base.get? cc = some ⟨ccl, ccd, .cell (some (.ref D)), csl⟩ := e0.mod.kin _ _ hcc
  have scc := (e0.bs _ _ bcc).1
  have Hcc : H cc = none := (e0.bs _ _ bcc).2
  have ltc : cc < s.heap.objs.size := Heap.lt_size scc
  have noA : ∀ b : Addr, b ∉ (cxS CX P w K mg base N qual scope f cd cc A outer s H E).ex := fun b z => absurd (show b ∈ ([] : List Addr) from z) (by simp)
  have abv : ∀ y c, (cellsFrom (s.heap.objs.size + 1) scope.names []).lookup y = some c → s.heap.objs.size < c := fun y c e => x.above y c (PySem.mem_of_lookup e)
  have own2 : ∀ y c, (cxS CX P w K mg base N qual scope f cd cc A outer s H E).env.cells.lookup y = some c → ((cellsFrom (s.heap.objs.size + 1) scope.names []).lookup y = some c ∧ y ≠ ("__class__" : Str)) ∨ (y = ("__class__" : Str) ∧ c = cc) := fun y c e => look_ownS e S
  refine ⟨⟨e0.mod, S.kind, rfl, rfl, Nat.le_refl _, fun y z c a b => ?_, fun y hy => ?_, fun y c hf h => ?_, fun _ => hd, Around.frames_deeper e0.frames, .inr ⟨rfl, rfl⟩, fun b z => absurd z (noA b), e0.bs, e0.bsz, fun b _ _ => noA b, fun b z => absurd z (noA b), e0.funs, e0.frf⟩,
    rfl, e0.bare, Un.kept hk, ⟨_, x.toInCall.ns, fun i y v a b c => ?_⟩, fun y c e => ?_, e0.hok.fresh (Nat.le_refl _), fun y c e => ?_, fun p hp => absurd (show p ∈ ([] : List (Addr × Obj)) from hp) (by simp), e0.hok.kept hk, ?_⟩
  · rcases own2 y c a with ⟨a, _⟩ | ⟨a, a2⟩ <;> rcases own2 z c b with ⟨b, _⟩ | ⟨b, b2⟩
    · exact name_of_addr x.apart (PySem.mem_of_lookup a) (PySem.mem_of_lookup b)
    · have ab := abv y c a
      rw [b2] at ab
      exact absurd (Nat.lt_trans ltc ab) (Nat.lt_irrefl _)
    · have ab := abv z c b
      rw [a2] at ab
      exact absurd (Nat.lt_trans ltc ab) (Nat.lt_irrefl _)
    · rw [a, b]
  · have hy : scope.names.lookup y = some .cell ∨ scope.names.lookup y = some .free := hy
    show ∃ c, (cellsFrom (s.heap.objs.size + 1) scope.names [("__class__", cc)]).lookup y = some c
    rcases hy with hy | hy
    · obtain ⟨c, e⟩ := cell_in (n := s.heap.objs.size + 1) hy
      refine ⟨c, ?_⟩
      rw [cells_acc, List.lookup_append, e]
      rfl
    · have ey := S.fre _ (PySem.mem_of_lookup hy) rfl
      exact ⟨cc, by rw [show y = ("__class__" : Str) from ey]; exact look_clsS S⟩
  · rcases own2 y c h with ⟨a, _⟩ | ⟨a, _⟩
    · exact Nat.le_of_lt (abv y c a)
    · have hf : (!(y == ("__class__" : Str))) = true := hf
      rw [a] at hf
      simp at hf
  · have a : N[i]? = some y := a
    by_cases hi : i < ps.length
    · have hp : ps[i]? = some y := by
        rw [← S.pre, List.getElem?_take_of_lt hi]
        exact a
      have hv : vs[i]? = some v := by
        unfold start at b
        rw [List.getElem?_append_left (by rw [List.length_map]; omega), List.getElem?_map] at b
        cases e : vs[i]? with
        | none =>
          rw [e] at b
          cases b
        | some q =>
          rw [e] at b
          cases b
          rfl
      obtain ⟨u, hu, rv⟩ := r.get hv
      have ndP : ps.Nodup := by
        have q := S.nd.sublist (List.take_sublist ps.length N)
        rw [S.pre] at q
        exact q
      refine ⟨u, rv, ?_⟩
      rcases S.par y (List.mem_of_getElem? hp) with q | q
      · exact .inl ⟨q, bindL_get ndP hp hu q⟩
      · obtain ⟨c, hc⟩ := cell_in (n := s.heap.objs.size + 1) q
        refine .inr ⟨.inl q, c, ?_, ?_⟩
        · show (cellsFrom (s.heap.objs.size + 1) scope.names [("__class__", cc)]).lookup y = some c
          rw [cells_acc, List.lookup_append, hc]
          rfl
        · have z := x.cell y c hc
          rw [bindC_get ndP hp hu (show (envS qual scope s.heap.objs.size f cd cc).kindOf y ≠ some .local from fun k => by
            have k : scope.names.lookup y = some .local := k
            rw [q] at k
            cases k)] at z
          exact z
    · unfold start at b
      rw [List.getElem?_append_right (by rw [List.length_map]; omega), List.getElem?_replicate] at b
      split at b <;> cases b
  · rcases own2 y c e with ⟨a, _⟩ | ⟨_, a⟩
    · exact ⟨_, x.cell y c a⟩
    · rw [a]
      exact ⟨_, _, hk _ _ scc, rfl⟩
  · rcases own2 y c e with ⟨a, _⟩ | ⟨_, a⟩
    · exact e0.hok.fresh (Nat.le_of_lt (abv y c a))
    · rw [a]
      exact Hcc
  · unfold start
    show _ = N.length
    rw [List.length_append, List.length_map, List.length_replicate]
    omega
end
/-! ### a body in its own activation -/
structure PSA (X : Cx) (body sts : List Stmt) (t : TS) : Prop where
  run : ∀ (pins : List (Addr × Obj)) (s : Shared) (σ : L2.St) (H : Hp) (D : Ends), Inv X pins σ H s → t D σ H → PySem.wpAt (model X.prog X.w) X.A (.func body X.env) (execs sts X.env) (SP X pins D) X.xe s
/-- what super() asks of the running def, of a class D: its cell, its code, its first parameter ar -/
structure SupAt (X : Cx) (D : Addr) (ar : Str) : Prop where
  kc : X.env.kindOf ("__class__" : Str) = some .free
  ks : X.env.kindOf ("super" : Str) = some .globalImplicit
  fn : ∃ f of fd a, X.env.func = some f ∧ X.K.lookup f = some of ∧ of.data = .func fd ∧ (fd.params.posonlyargs ++ fd.params.args).head? = some a ∧ a.arg = ar
  code : ∃ cda oc vs file tf, X.env.code = .ref cda ∧ X.K.lookup cda = some oc ∧ oc.data = .fields vs ∧ vs[2]? = some (.str file tf) ∧ ((X.prog.main.file : Str) == file) = true
  top : (X.prog.main.scope.names.lookup ("super" : Str)).isSome = false
  cell : ∃ cc oc, X.env.cells.lookup ("__class__" : Str) = some cc ∧ X.K.lookup cc = some oc ∧ oc.data = .cell (some (.ref D))
  cls : ∃ oD cd, X.K.lookup D = some oD ∧ oD.data = .cls cd
  mg : X.mg "super" = none
  opq : PySem.W.nsIn X.K cStatics "thirdparty.any" = some none
section
variable {X : Cx} {body sts : List Stmt} {st : Stmt} {t u : TS} {D : Addr} {ar : Str}
theorem psa_end (h : PSs X sts t) : PSA X body sts t := ⟨fun pins s σ H D I q => wpAt_of_wpAny (h.run pins s σ H D I q)⟩
theorem psa_cons (h : PS X st t) (hr : PSA X body sts u) : PSA X body (st :: sts) (tSeq t u) := by
  refine ⟨fun pins s σ H D I q => ks_wpAt_execs_cons (wpAt_of_wpAny (thn (h.run pins s σ H _ I q) fun f s' hs => ?_))⟩
  cases f with
  | next =>
    obtain ⟨σ', H', I', q'⟩ := hs
    exact hr.run pins s' σ' H' D I' q'
  | ret v => exact hs
  | brk => exact hs
  | cont => exact hs
/-! ### super() itself: a new object of class super -/
/-- the name of the first parameter: a local or a cell -/
def Own1 (sc : Scope) (x : Str) : Prop := sc.names.lookup x = some .local ∨ sc.names.lookup x = some .cell
theorem super_new {pins : List (Addr × Obj)} {s : Shared} {σ : L2.St} {H : Hp} {Q : Value → Shared → Prop} {p0 p1 : Pos} {attr : Str} {whole : Sem Value} {x C : Addr} {ox : Obj} {odx : Option Obj} (S : SupAt X D ar) (I : Inv X pins σ H s)
    (hat : (attr == ("__class__" : Str)) = false) (hN : X.N[0]? = some ar) (hv : Own1 X.env.scope ar) (hσ : σ[0]? = some (some (.ref x))) (J : PySem.W.InstAt s.heap x ox C odx) (hsub : PySem.W.mroIn X.K C (.ref D) = some true)
    (h : ∀ so h', s.heap.objs.size = so → h'.get? so = some (PySem.W.ks_superObj D x C) → (∀ y o, s.heap.get? y = some o → h'.get? y = some o) → Q (.ref so) { s with heap := h' }) :
    PySem.wpAt (model X.prog X.w) X.A (.func body X.env) (attributeBase (.Call (.Name "super" p0) [] [] p1) attr X.env whole) Q X.xe s := by
  obtain ⟨f, of, fd, a, f1, f2, f3, f4, f5⟩ := S.fn
  obtain ⟨cda, oc, vs, file, tf, c1, c2, c3, c4, c5⟩ := S.code
  obtain ⟨cc, occ, e1, e2, e3⟩ := S.cell
  obtain ⟨oD, cdD, d1, d2⟩ := S.cls
  obtain ⟨mb, b1, b2⟩ := I.mod.blt
  have KX := I.kIn
  refine ks_wpAt_super_base S.ks S.kc hat f1 (KX _ _ f2) f3 f4 c1 (KX _ _ c2) c3 c4 c5 S.top ?_
  refine PySem.W.ks_loadName_global I.ok.kind S.ks (Calls.loadGlobal_builtin (mg := X.mg) (mb := mb) (by rw [I.ok.glob]; exact I.mod.glob.keeps I.bk) S.mg (by rw [I.ok.blt]; exact b1.keeps I.bk) ((b2 _ (by decide)).trans (by decide +kernel)) ⟨rfl, ?_⟩)
  refine wpAny_loadName_free I.ok.kind S.kc e1 ⟨occ, KX _ _ e2, e3⟩ ?_
  obtain ⟨m, hn, hl⟩ := I.loc
  have hvis : Vis X.env.scope ar := hv.elim .inl fun z => .inr (.inl z)
  obtain ⟨u, ru, l⟩ := hl 0 ar (.ref x) hN hσ hvis
  obtain rfl : u = Value.ref x := ru
  have fin : wpAny (model X.prog X.w) X.A (isType (.ref D)) (fun b s₄ => b = true ∧ wpAny (model X.prog X.w) X.A (call (.type "super") [.ref D, .ref x]) Q X.xe s₄) X.xe s := by
    refine ks_wpAny_isType_cls (KX _ _ d1) d2 ⟨rfl, ?_⟩
    obtain ⟨hh, g, d, t, os⟩ := s
    refine ks_wpAny_call_super (KX _ _ d1) d2 J.at_ J.cls (fun c e => ?_) (PySem.W.looks_mroIn KX hsub) (fun h' e k => h _ h' rfl e k)
    have z := J.no
    unfold PySem.W.notCls at z
    rw [e] at z
    exact Bool.noConfusion z
  rw [f5]
  rcases l with ⟨hk, hm⟩ | ⟨hk, c, hc, hcell⟩
  · exact wpAny_loadName_local I.ok.kind hk hn hm fin
  · have hk : X.env.kindOf ar = some .cell := by
      rcases hv with z | z
      · rcases hk with k | k
        · exact k
        · exact absurd ((show X.env.scope.names.lookup ar = some .free from k).symm.trans z) (by simp)
      · exact z
    exact wpAny_loadName_cell I.ok.kind hk hc hcell fin
/-! ### super().__init__(e, ..), the def found being one of the text -/
def tSup (K : PySem.W.Frag) (D f2 : Addr) (sp : Sp) (dvs : List V) (E : XK) (ta : TA) : TS := fun Dn σ H => ∃ x C dx fs, σ[0]? = some (some (.ref x)) ∧ H x = some (.ins C dx fs) ∧
  PySem.W.mroIn K C (.ref D) = some true ∧ PySem.W.ks_superIn K C D "__init__" = some (some (.ref f2)) ∧ ta σ H fun vs H1 => sp (.ref x :: (vs ++ dvs)) H1 (fun _ H2 => Dn.nx σ H2) E
theorem psa_sup {CX : CXT} {k : Nat} {f2 : Addr} {fd : FuncData} {ps : List Str} {sp : Sp} {dvs : List V} {ds : List Value} {E : XK} {e : Expr} {es : List Expr} {ta : TA} {p0 p1 ap pos pos' : Pos} {pl : Sem Bool} (S : SupAt X D ar)
    (hN : X.N[0]? = some ar) (hv : Own1 X.env.scope ar) (F : FnOk X.prog X.w X.K X.mg X.base CX k f2 fd ps sp) (hr : Room k X.A) (hb : Binds X.K fd ps ds) (hd : Vals dvs ds) (hx : Passes CX X E)
    (hf : PySem.W.fnIn X.K f2 = true) (ht : PySem.W.typeIn X.K (.ref f2) = some (.type "function")) (ha : PA X (e :: es) ta) (hr2 : PSA X body sts u)
    (he : eval (.Call (.Attribute (.Call (.Name "super" p0) [] [] p1) "__init__" ap) (e :: es) [] pos) X.env = (do
      let ov ← attributeBase (.Call (.Name "super" p0) [] [] p1) "__init__" X.env (eval (.Call (.Name "super" p0) [] [] p1) X.env)
      standAt ap.atName
      let (f, first) ← holding [ov] (getMethod ov "__init__" pl)
      callWith pos f first (backTo pos (starEach (e :: es) X.env)) []) := by rfl)
    (hst : starEach (e :: es) X.env = (false, eval e X.env) :: starEach es X.env := by rfl) (hpl : (backTo pos (starEach es X.env)).any (·.1) = false := by rfl)
    (hs : swapsWith (.Call (.Attribute (.Call (.Name "super" p0) [] [] p1) "__init__" ap) (e :: es) [] pos) none pos'.line X.env = pure false := by rfl) :
    PSA X body (.Expr (.Call (.Attribute (.Call (.Name "super" p0) [] [] p1) "__init__" ap) (e :: es) [] pos) pos' :: sts) (tSeq (tSup X.K D f2 sp dvs E ta) u) := by
  refine ⟨fun pins s σ H Dn I q => ks_wpAt_execs_cons (ks_wpAt_Expr_any (ks_wpAt_MethodCall ?_ he) I.quiet hs)⟩
  obtain ⟨x, C, dx, fs, hσ, hx1, hm, hsi, q⟩ := q
  obtain ⟨mA, O, _⟩ := ins_get I.hok hx1
  obtain ⟨odx, J, _⟩ := O.look
  refine super_new S I (by decide) hN hv hσ J hm fun so h' eso k1 k2 => ?_
  have I1 : Inv X pins σ H { s with heap := h' } := I.kept (t' := s.toks) k2
  obtain ⟨mA1, O1, _⟩ := ins_get I1.hok hx1
  obtain ⟨ody, J1, _⟩ := O1.look
  have KX := I1.kIn
  cases hc : PySem.W.clsIn X.K C with
  | none =>
    unfold PySem.W.ks_superIn at hsi
    rw [hc] at hsi
    cases hsi
  | some cd =>
    unfold PySem.W.ks_superIn at hsi
    rw [hc] at hsi
    obtain ⟨of, hof, hofc⟩ : ∃ of, h'.get? f2 = some of ∧ of.cls = .type "function" := by
      have z : (X.K.lookup f2).map (·.cls) = some (.type "function") := ht
      cases y : X.K.lookup f2 with
      | none =>
        rw [y] at z
        cases z
      | some of =>
        rw [y] at z
        exact ⟨of, KX _ _ y, Option.some.inj z⟩
    refine ks_wpAny_getMethod_super k1 (PySem.W.looks_opaque KX S.opq) (l₀ := cd.mro) (fun A' Q' E' s' kk qq => wpAny_bind ((PySem.W.looks_clsIn KX hc) A' _ E' s' kk (wpAny_pure qq))) rfl KX hsi hof hofc (PySem.W.ks_ne KX J1 hc) (by decide) ?_
    have I2 := ClX.met_new (g := f2) (C := x) I1
    refine ClX.callwith_cm I2 (ClX.base_none I1 (Nat.le_refl _)) hf (thn (ha.run pos _ _ σ H _ I2 q) fun us s3 ⟨vs, H2, I3, rv, q2⟩ => ⟨⟨ClX.pin_at I3, I3.kIn⟩, ?_⟩) hst hpl
    have r2 : Vals (V.ref x :: (vs ++ dvs)) (Value.ref x :: (us ++ ds)) := .cons rfl (rv.append hd)
    have hl : (Value.ref x :: us ++ ds).length = ps.length := by
      have z := r2.length
      rw [F.len _ _ _ _ q2] at z
      exact z.symm
    refine wpAny_call (PySem.W.method_call (ClX.pin_at I3) (codeAny_mono (F.run X.A X.stack _ _ ⟨Value.ref x :: us, []⟩ (Value.ref x :: (us ++ ds)) _ _ E hr I3.env0 (hb _ (Value.ref x :: us) I3.kIn hl) r2 q2) fun r s' hq => ?_))
    cases r with
    | error er => exact hx _ σ _ _ er s' (ClX.unpin I3) hq
    | ok fl =>
      cases fl with
      | ret v =>
        obtain ⟨v', H', I4, _, q3⟩ := (ClX.unpin I3).after hq
        exact hr2.run _ s' σ H' Dn I4 q3
      | next => exact False.elim hq
      | brk => exact False.elim hq
      | cont => exact False.elim hq
end
end L2.DS
/-! Own exceptions whose __init__ says super().__init__('text'); self.f = f. -/
namespace L2.DS
open PySem PySem.Spec PyProof.Rows
abbrev eTail (B : String) : List Value := [.type B, .type "Exception", .type "BaseException", .type "object"]
/-! ### C(e) -/
/-! ### n.f, n the error that an except suite holds -/
end L2.DS
/-! The rule for a def that says super().__init__. -/
namespace L2.DS
open PySem PySem.Spec PyProof.Rows
structure FunS (prog : Program) (K : PySem.W.Frag) (x qual : Str) (st : Stmt) (f : Addr) (fd : FuncData) (D : Addr) : Prop where
  ex : ∃ (oc : Value) (od : Option Addr) (dV kV doc pm : Value) (an : Option Addr) (cda : Addr) (ct : Value) (osl : Array (Option Value)) (cc : Addr) (ol : Obj) (vs : Array Value) (file : Str) (tf : Tok) (ccl : Value) (ccd : Option Addr) (csl : Array (Option Value)),
    fd = PySem.W.fnX x qual (defArgs st) (defBody st) (defScope st) [("__class__", cc)] dV kV doc pm an (.ref cda) ct ∧ K.lookup f = some ⟨oc, od, .func fd, osl⟩ ∧ PySem.W.codeIn K (.ref cda) qual = true ∧
    K.lookup cda = some ol ∧ ol.data = .fields vs ∧ vs[2]? = some (.str file tf) ∧ ((prog.main.file : Str) == file) = true ∧ K.lookup cc = some ⟨ccl, ccd, .cell (some (.ref D)), csl⟩
  cls : ∃ oD cd, K.lookup D = some oD ∧ oD.data = .cls cd
  kp : PySem.W.keepIn K (.ref f) = true
  fi : PySem.W.fnIn K f = true
  ty : PySem.W.typeIn K (.ref f) = some (.type "function")
section
variable {P : Program} {w : World} {K : PySem.W.Frag} {mg : Str → Option Value} {base : Heap}
theorem FunS.okX {x qual : Str} {st : Stmt} {f D : Addr} {fd : FuncData} {N ps : List Str} {k : Nat} {sp : Sp} {ar : Str} {a : Arg} (F : FunS P K x qual st f fd D) (S : ScS N ps (defScope st)) (hmg : mg "super" = none)
    (opq : PySem.W.nsIn K cStatics "thirdparty.any" = some none) (top : (P.main.scope.names.lookup ("super" : Str)).isSome = false) (har : ((defArgs st).posonlyargs ++ (defArgs st).args).head? = some a) (har2 : a.arg = ar)
    (len : ∀ vs H Q E, sp vs H Q E → vs.length = ps.length)
    (hbody : ∀ (cdv : Value) (cc : Addr) (A : Around) (outer : List Env) (s : Shared) (H : Hp) (vs : List V) (Q : VK) (E : XK), Room k (A.deeper (envS qual (defScope st) s.heap.objs.size f cdv cc)) → sp vs H Q E →
      SupAt (cxS (L2.CX P w) P w K mg base N qual (defScope st) f cdv cc A outer s H E) D ar →
      ∃ t, PSA (cxS (L2.CX P w) P w K mg base N qual (defScope st) f cdv cc A outer s H E) (defBody st) (defBody st) t ∧ t { nx := fun _ H' => Q .non H', rt := Q } (start N vs) H) : FnOk P w K mg base (L2.CX P w) (k + 1) f fd ps sp := by
  obtain ⟨oc, od, dV, kV, doc, pm, an, cda, ct, osl, cc, ol, vs, file, tf, ccl, ccd, csl, rfl, l1, l2, l3, l4, l5, l6, l7⟩ := F.ex
  refine ⟨len, fun A outer s H args us ws Q E hr e0 hb r hsp => ?_⟩
  have hl := len _ _ _ _ hsp
  have kb : ∀ b o, base.get? b = some o → s.heap.get? b = some o := fun b o e => (e0.bs b o e).1
  have KX : K.In s.heap := e0.mod.kin.keeps kb
  have lim : s.heap.NoLimit := e0.mod.nolimit.keeps kb
  refine codeAny_call_function hr.depth (KX _ _ l1) rfl S.co S.gen rfl (PySem.W.codeRec_of KX l2) (hb _ _ _ _ ?_)
  refine new_envS S.kind (fun y hy => ?_) fun s1 x1 => ⟨lim.keeps x1.toInCall.keep, ks_codeAny_funcAt ?_⟩
  · obtain ⟨n, v⟩ := y
    rcases S.par n (List.of_mem_zip hy).1 with q | q
    · exact .inl q
    · exact .inr ⟨q, PySem.W.cellsFrom_some _ _ _ (.inl q)⟩
  · have I := inv_startS (CX := L2.CX P w) (E := E) (N := N) (qual := qual) (f := f) (cd := .ref cda) S hr.hd e0 hl r l7 x1
    have SA : SupAt (cxS (L2.CX P w) P w K mg base N qual (defScope st) f (.ref cda) cc A outer s H E) D ar :=
      ⟨S.cls, S.sup, ⟨f, _, _, a, rfl, l1, rfl, har, har2⟩, ⟨cda, ol, vs, file, tf, rfl, l3, l4, l5, l6⟩, top, ⟨cc, _, look_clsS S, l7, rfl⟩, F.cls, hmg, opq⟩
    obtain ⟨t, ht, hq⟩ := hbody (.ref cda) cc A outer s H ws Q E (hr.deeper _) hsp SA
    refine ks_wpAt_mono (ht.run [] s1 (start N ws) H _ I hq) (fun fl s' hs => ?_) fun _ _ z => z
    have fin : ∀ {σ' : L2.St} {H' : Hp} {v : V} {u : Value}, Inv (cxS (L2.CX P w) P w K mg base N qual (defScope st) f (.ref cda) cc A outer s H E) [] σ' H' s' → RelV v u → Q v H' → CE outer P w H s Q u s' :=
      fun {σ' H' v u} J rv q => ⟨v, H', J.os, J.bare, J.base, J.hok, rv, q⟩
    cases fl with
    | ret u =>
      obtain ⟨v, σ', H', J, rv, q⟩ := hs
      exact fin J rv q
    | next =>
      obtain ⟨σ', H', J, q⟩ := hs
      exact fin (v := V.non) (u := Value.none) J rfl q
    | brk =>
      obtain ⟨_, _, _, q⟩ := hs
      exact q.elim
    | cont =>
      obtain ⟨_, _, _, q⟩ := hs
      exact q.elim
end
end L2.DS
/-! What a reading evaluates to: G what stands still, H the heap, S n what is known of both (n: how often numbers were drawn). -/
namespace L2.DS
open PySem PySem.Spec PyProof.Rows
/-- what is known of what stands still and of the heap; what may change under it -/
structure SR where
  s : Nat → Hp → Hp → Prop
  m : Addr → Prop
instance : CoeFun SR (fun _ => Nat → Hp → Hp → Prop) := ⟨SR.s⟩
/-- all stays but what may change -/
structure Kp (S : SR) (H H' : Hp) : Prop where
  k : ∀ b o, ¬ S.m b → H b = some o → H' b = some o
  v : ∀ b, H' b = none → H b = none
theorem Kp.refl {S : SR} (H : Hp) : Kp S H H := ⟨fun _ _ _ h => h, fun _ h => h⟩
theorem Kp.trans {S : SR} {H H1 H2 : Hp} (a : Kp S H H1) (b : Kp S H1 H2) : Kp S H H2 := ⟨fun c o h e => b.k c o h (a.k c o h e), fun c h => a.v c (b.v c h)⟩
theorem Kp.of {S : SR} {H H' : Hp} (s : Same H H') : Kp S H H' := ⟨fun b o _ e => s b o e, fun b h => s.free h⟩
structure Stp (S : SR) (n : Nat) (G H G' H' : Hp) : Prop where
  g : Same G G'
  k : Kp S H H'
  s : S n G' H'
  n : ∀ b o, G' b = some o → G b = some o ∨ H b = none
theorem Stp.refl {S : SR} {n : Nat} {G H : Hp} (s : S n G H) : Stp S n G H G H := ⟨Same.refl _, Kp.refl _, s, fun _ _ h => .inl h⟩
theorem Stp.trans {S : SR} {n m : Nat} {G H G1 H1 G2 H2 : Hp} (a : Stp S n G H G1 H1) (b : Stp S m G1 H1 G2 H2) : Stp S m G H G2 H2 := ⟨a.g.trans b.g, a.k.trans b.k, b.s, fun c o e => by
  rcases b.n c o e with q | q
  · exact a.n c o q
  · exact .inr (a.k.v c q)⟩
theorem Stp.up {S : SR} {n a b : Nat} {G H G1 H1 : Hp} (h : Stp S (n + a + b) G H G1 H1) : Stp S (n + (a + b)) G H G1 H1 := by
  rw [← Nat.add_assoc]
  exact h
abbrev HR := V → Hp → Prop
/-- H' grows out of H, G' out of G: what is new in G' is new in H' -/
structure Grow (G H G' H' : Hp) : Prop where
  g : Same G G'
  h : Same H H'
  s : Same G' H'
  n : ∀ b o, G' b = some o → G b = some o ∨ H b = none
theorem Grow.refl {G H : Hp} (s : Same G H) : Grow G H G H := ⟨Same.refl _, Same.refl _, s, fun _ _ h => .inl h⟩
theorem Grow.trans {G H G1 H1 G2 H2 : Hp} (a : Grow G H G1 H1) (b : Grow G1 H1 G2 H2) : Grow G H G2 H2 :=
  ⟨a.g.trans b.g, a.h.trans b.h, b.s, fun c o e => by
    rcases b.n c o e with q | q
    · exact a.n c o q
    · exact .inr (a.h.free q)⟩
theorem Grow.new {G H : Hp} {p : Addr} (s : Same G H) (hp : H p = none) (o : HO) : Grow G H (upd G p o) (upd H p o) :=
  ⟨fun b u e => by rw [upd_ne (ne_of_none e (s.free hp))]; exact e, fun b u e => by rw [upd_ne (ne_of_none e hp)]; exact e, fun b u e => by
    by_cases hb : b = p
    · subst hb
      rw [upd_same] at e ⊢
      exact e
    · rw [upd_ne hb] at e ⊢
      exact s b u e, fun b u e => by
    by_cases hb : b = p
    · rw [hb]
      exact .inr hp
    · rw [upd_ne hb] at e
      exact .inl e⟩
/-- a new thing that nobody tells of -/
theorem Grow.hid {G H : Hp} {p : Addr} (s : Same G H) (hp : H p = none) (o : HO) : Grow G H G (upd H p o) :=
  ⟨Same.refl _, fun b u e => by rw [upd_ne (ne_of_none e hp)]; exact e, fun b u e => by rw [upd_ne (ne_of_none e (s.free hp))]; exact s b u e, fun b u e => .inl e⟩
structure Stab (S : SR) : Prop where
  sub : ∀ {n G H}, S n G H → Same G H
  wk : ∀ {n m G H}, S n G H → n ≤ m → S m G H
  grow : ∀ {n G H G' H'}, S n G H → Grow G H G' H' → S n G' H'
  anti : ∀ {n m G H G' H'}, S n G H → S m G' H' → Same G G' → S m G H'
  /-- what is new may change while nobody tells of it -/
  chg : ∀ {n m G H G' H' D o}, S n G H → H D = none → S m G' H' → G' D = none → S m G' (upd H' D o)
  pub : ∀ {n m G H G' H' D o}, S n G H → H D = none → S m G' H' → G' D = none → H' D = some o → S m (upd G' D o) H'
  fre : ∀ {n G H D}, S n G H → H D = none → ¬ S.m D
/-- nothing but growth -/
def SP0 (G0 H0 : Hp) : SR := ⟨fun _ G H => Grow G0 H0 G H, fun _ => False⟩
theorem Stp.same {G0 H0 : Hp} {n : Nat} {G H G' H' : Hp} (s : Stp (SP0 G0 H0) n G H G' H') : Same H H' := fun b o e => s.k.k b o (fun z => z) e
theorem Stab.new {S : SR} (st : Stab S) {n : Nat} {G H : Hp} {p : Addr} {o : HO} (s : S n G H) (hp : H p = none) : Stp S n G H (upd G p o) (upd H p o) :=
  have g := Grow.new (st.sub s) hp o
  ⟨g.g, Kp.of g.h, st.grow s g, g.n⟩
theorem Stab.gro {S : SR} (st : Stab S) {n : Nat} {G H G' H' : Hp} (s : S n G H) (g : Grow G H G' H') : Stp S n G H G' H' := ⟨g.g, Kp.of g.h, st.grow s g, g.n⟩
theorem stab0 (G0 H0 : Hp) : Stab (SP0 G0 H0) where
  sub := fun h => h.s
  wk := fun h _ => h
  grow := fun h g => Grow.trans h g
  anti := fun {n m G H G' H'} h h' s => ⟨h.g, h'.h, s.trans h'.s, fun b o e => h'.n b o (s b o e)⟩
  chg := fun {n m G H G' H' D o} h d h' g => ⟨h'.g, fun b u e => by
      rw [upd_ne (ne_of_none e (h.h.free d))]
      exact h'.h b u e, fun b u e => by
      rw [upd_ne (ne_of_none e g)]
      exact h'.s b u e, h'.n⟩
  pub := fun {n m G H G' H' D o} h d h' g e => ⟨fun b u z => by
      rw [upd_ne (ne_of_none z (h'.g.free g))]
      exact h'.g b u z, h'.h, fun b u z => by
      by_cases hb : b = D
      · rw [hb, upd_same] at z
        rw [hb, ← z]
        exact e
      · rw [upd_ne hb] at z
        exact h'.s b u z, fun b u z => by
      by_cases hb : b = D
      · rw [hb]
        exact .inr (h.h.free d)
      · rw [upd_ne hb] at z
        exact h'.n b u z⟩
  fre := fun _ _ z => z
/-! ### results -/
class Mon (R : HR) : Prop where
  mon : ∀ {v : V} {G G' : Hp}, Same G G' → R v G → R v G'
def IsV (x : V) : HR := fun v _ => v = x
def IsI (P : Int → Prop) : HR := fun v _ => ∃ i, P i ∧ v = .int i
def IsB (P : Bool → Prop) : HR := fun v _ => ∃ b, P b ∧ v = .bl b
def IsS (P : Str → Prop) : HR := fun v _ => ∃ b, P b ∧ v = .str b
def IsL (K : PySem.W.Frag) (xs : List V) : HR := fun v G => ∃ p, v = .ref p ∧ SqL K G p xs
def IsT (K : PySem.W.Frag) (xs : List V) : HR := fun v G => ∃ p, v = .ref p ∧ SqT K G p xs
def IsD (K : PySem.W.Frag) (d : PyData) : HR := fun v G => Dp K G v d
abbrev HRs := List V → Hp → Prop
class Mons (R : HRs) : Prop where
  mon : ∀ {v : List V} {G G' : Hp}, Same G G' → R v G → R v G'
def RNil : HRs := fun vs _ => vs = []
def RCons (R : HR) (RA : HRs) : HRs := fun vs G => ∃ v r, vs = v :: r ∧ R v G ∧ RA r G
def IsVs (ws : List V) : HRs := fun vs _ => vs = ws
/-- a list, a tuple of things of which RA tells -/
def IsLA (K : PySem.W.Frag) (RA : HRs) : HR := fun v G => ∃ p xs, v = .ref p ∧ SqL K G p xs ∧ RA xs G
def IsTA (K : PySem.W.Frag) (RA : HRs) : HR := fun v G => ∃ p xs, v = .ref p ∧ SqT K G p xs ∧ RA xs G
theorem same_t {K : PySem.W.Frag} {H H' : Hp} {a : Addr} {xs : List V} (e : Same H H') (h : SqT K H a xs) : SqT K H' a xs := by
  rcases h with (h | ⟨o, h⟩) | h
  · exact .inl (.inl (e _ _ h))
  · exact .inl (.inr ⟨o, e _ _ h⟩)
  · exact .inr h
mutual
theorem dp_mon {K : PySem.W.Frag} {G G' : Hp} (s : Same G G') : ∀ {v : V} {d : PyData}, Dp K G v d → Dp K G' v d
  | _, _, .non => .non
  | _, _, .bl b => .bl b
  | _, _, .int i => .int i
  | _, _, .str x => .str x
  | _, _, .lst h hs => .lst (s.seq h) (dps_mon s hs)
  | _, _, .tup h hs => .tup (same_t s h) (dps_mon s hs)
theorem dps_mon {K : PySem.W.Frag} {G G' : Hp} (s : Same G G') : ∀ {vs : List V} {ds : List PyData}, DpAll K G vs ds → DpAll K G' vs ds
  | _, _, .nil => .nil
  | _, _, .cons h hs => .cons (dp_mon s h) (dps_mon s hs)
end
instance (x : V) : Mon (IsV x) := ⟨fun _ h => h⟩
instance (P : Int → Prop) : Mon (IsI P) := ⟨fun _ h => h⟩
instance (P : Bool → Prop) : Mon (IsB P) := ⟨fun _ h => h⟩
instance (P : Str → Prop) : Mon (IsS P) := ⟨fun _ h => h⟩
instance (K xs) : Mon (IsL K xs) := ⟨fun s ⟨p, e, h⟩ => ⟨p, e, s.seq h⟩⟩
instance (K xs) : Mon (IsT K xs) := ⟨fun s ⟨p, e, h⟩ => ⟨p, e, same_t s h⟩⟩
instance (K d) : Mon (IsD K d) := ⟨fun s h => dp_mon s h⟩
instance : Mons RNil := ⟨fun _ h => h⟩
instance (ws) : Mons (IsVs ws) := ⟨fun _ h => h⟩
instance (R RA) [Mon R] [Mons RA] : Mons (RCons R RA) := ⟨fun s ⟨v, r, e, h, h'⟩ => ⟨v, r, e, Mon.mon s h, Mons.mon s h'⟩⟩
instance (K RA) [Mons RA] : Mon (IsLA K RA) := ⟨fun s ⟨p, xs, e, h, h'⟩ => ⟨p, xs, e, s.seq h, Mons.mon s h'⟩⟩
instance (K RA) [Mons RA] : Mon (IsTA K RA) := ⟨fun s ⟨p, xs, e, h, h'⟩ => ⟨p, xs, e, same_t s h, Mons.mon s h'⟩⟩
/-! ### what evaluates to what -/
variable (S : SR)
def Ev (n k : Nat) (te : TE) (σ : L2.St) (G : Hp) (R : HR) : Prop := ∀ G1 H1, Same G G1 → S n G1 H1 → ∀ Q : VK, (∀ v G2 H2, Stp S (n + k) G1 H1 G2 H2 → R v G2 → Q v H2) → te σ H1 Q
def EvT (n k : Nat) (tt : TT) (σ : L2.St) (G : Hp) (P : Bool → Prop) : Prop := ∀ G1 H1, Same G G1 → S n G1 H1 → ∀ Q : Bool → Hp → Prop, (∀ b G2 H2, Stp S (n + k) G1 H1 G2 H2 → P b → Q b H2) → tt σ H1 Q
def EvA (n k : Nat) (ta : TA) (σ : L2.St) (G : Hp) (RA : HRs) : Prop := ∀ G1 H1, Same G G1 → S n G1 H1 → ∀ Q : List V → Hp → Prop, (∀ v G2 H2, Stp S (n + k) G1 H1 G2 H2 → RA v G2 → Q v H2) → ta σ H1 Q
/-- operations by values -/
def RV (r : R2) (x y : V) (G : Hp) (R : HR) : Prop := ∀ n G1 H1, Same G G1 → S n G1 H1 → ∀ Q : VK, (∀ v G2 H2, Stp S n G1 H1 G2 H2 → R v G2 → Q v H2) → r x y H1 Q
def RU (r : V → Hp → VK → Prop) (x : V) (G : Hp) (R : HR) : Prop := ∀ n G1 H1, Same G G1 → S n G1 H1 → ∀ Q : VK, (∀ v G2 H2, Stp S n G1 H1 G2 H2 → R v G2 → Q v H2) → r x H1 Q
def RC (r : List V → Hp → VK → Prop) (xs : List V) (G : Hp) (R : HR) : Prop := ∀ n G1 H1, Same G G1 → S n G1 H1 → ∀ Q : VK, (∀ v G2 H2, Stp S n G1 H1 G2 H2 → R v G2 → Q v H2) → r xs H1 Q
variable {S}
section
variable {n k ka kb kc : Nat} {te ta tb : TE} {tt tu : TT} {t tr : TA} {σ : L2.St} {G G' : Hp} {R Ra Rb : HR} {RA : HRs} {P P' : Bool → Prop} {x y : V} {r : R2}
theorem Ev.mono (h : Ev S n k te σ G R) (s : Same G G') : Ev S n k te σ G' R := fun G1 H1 a b Q q => h G1 H1 (s.trans a) b Q q
theorem EvT.mono (h : EvT S n k tt σ G P) (s : Same G G') : EvT S n k tt σ G' P := fun G1 H1 a b Q q => h G1 H1 (s.trans a) b Q q
theorem EvA.mono (h : EvA S n k t σ G RA) (s : Same G G') : EvA S n k t σ G' RA := fun G1 H1 a b Q q => h G1 H1 (s.trans a) b Q q
theorem Ev.imp (h : Ev S n k te σ G R) (i : ∀ v G', Same G G' → R v G' → Rb v G') : Ev S n k te σ G Rb := fun G1 H1 a b Q q => h G1 H1 a b Q fun v G2 H2 s e => q v G2 H2 s (i v G2 (a.trans s.g) e)
theorem EvT.imp (h : EvT S n k tt σ G P) (i : ∀ b, P b → P' b) : EvT S n k tt σ G P' := fun G1 H1 a b Q q => h G1 H1 a b Q fun v G2 H2 s e => q v G2 H2 s (i v e)
theorem Stp.wk (st : Stab S) {m : Nat} {H G1 H1 : Hp} (s : Stp S n G H G1 H1) (h : n ≤ m) : Stp S m G H G1 H1 := ⟨s.g, s.k, st.wk s.s h, s.n⟩
theorem Ev.wk (st : Stab S) (h : Ev S n ka te σ G R) (hk : ka ≤ kb) : Ev S n kb te σ G R := fun G1 H1 a b Q q => h G1 H1 a b Q fun v G2 H2 s e => q v G2 H2 (s.wk st (by omega)) e
theorem ev_var {i : Nat} (h : σ[i]? = some (some x)) : Ev S n 0 (tVar i) σ G (IsV x) := fun G1 H1 _ s Q q => ⟨x, h, q x G1 H1 (Stp.refl s) rfl⟩
theorem ev_c : Ev S n 0 (tC x) σ G (IsV x) := fun G1 H1 _ s Q q => q x G1 H1 (Stp.refl s) rfl
theorem ev_op [Mon Ra] (ha : Ev S n ka ta σ G Ra) (hb : Ev S (n + ka) kb tb σ G Rb) (hr : ∀ x y G', Same G G' → Ra x G' → Rb y G' → RV S r x y G' R) : Ev S n (ka + kb) (tOp r ta tb) σ G R := fun G1 H1 a s Q q =>
  ha G1 H1 a s _ fun x G2 H2 s2 rx => hb G2 H2 (a.trans s2.g) s2.s _ fun y G3 H3 s3 ry =>
    hr x y G3 ((a.trans s2.g).trans s3.g) (Mon.mon s3.g rx) ry _ G3 H3 (Same.refl _) s3.s Q fun v G4 H4 s4 e => q v G4 H4 ((s2.trans s3).trans s4).up e
/-- both operands known -/
theorem ev_opV (ha : Ev S n ka ta σ G (IsV x)) (hb : Ev S (n + ka) kb tb σ G (IsV y)) (hr : RV S r x y G R) : Ev S n (ka + kb) (tOp r ta tb) σ G R :=
  ev_op ha hb fun u v G' s e1 e2 => by
    rw [show u = x from e1, show v = y from e2]
    exact fun n G1 H1 a s' Q q => hr n G1 H1 (s.trans a) s' Q q
theorem ev_un [Mon Ra] {r : V → Hp → VK → Prop} (ha : Ev S n ka ta σ G Ra) (hr : ∀ x G', Same G G' → Ra x G' → RU S r x G' R) : Ev S n ka (tUn r ta) σ G R := fun G1 H1 a s Q q =>
  ha G1 H1 a s _ fun x G2 H2 s2 rx => hr x G2 (a.trans s2.g) rx _ G2 H2 (Same.refl _) s2.s Q fun v G4 H4 s4 e => q v G4 H4 (s2.trans s4) e
theorem ev_unV {r : V → Hp → VK → Prop} (ha : Ev S n ka ta σ G (IsV x)) (hr : RU S r x G R) : Ev S n ka (tUn r ta) σ G R :=
  ev_un ha fun u G' s e => by
    rw [show u = x from e]
    exact fun n G1 H1 a s' Q q => hr n G1 H1 (s.trans a) s' Q q
/-! tests -/
theorem et_test (h : Ev S n k te σ G (IsB P)) : EvT S n k (tTest te) σ G P := fun G1 H1 a s Q q => h G1 H1 a s _ fun v G2 H2 s2 ⟨b, p, e⟩ => ⟨b, e, q b G2 H2 s2 p⟩
theorem et_testV {b : Bool} (h : Ev S n k te σ G (IsV (.bl b))) : EvT S n k (tTest te) σ G (fun c => c = b) := fun G1 H1 a s Q q => h G1 H1 a s _ fun v G2 H2 s2 e => ⟨b, e, q b G2 H2 s2 rfl⟩
theorem et_B {b : Bool} (h : Ev S n k te σ G (IsV (.bl b))) : EvT S n k (tB te) σ G (fun c => c = b) := fun G1 H1 a s Q q => h G1 H1 a s _ fun v G2 H2 s2 e => ⟨b, e, q b G2 H2 s2 rfl⟩
theorem et_and (st : Stab S) {a b : Bool} (h1 : EvT S n ka tt σ G (fun c => c = a)) (h2 : a = true → EvT S (n + ka) kb tu σ G (fun c => c = b)) : EvT S n (ka + kb) (tAnd tt tu) σ G (fun c => c = (a && b)) := fun G1 H1 s0 s Q q =>
  h1 G1 H1 s0 s _ fun c G2 H2 s2 e => by
    subst e
    cases c with
    | true => exact iteT (h2 rfl G2 H2 (s0.trans s2.g) s2.s Q fun d G3 H3 s3 e => q d G3 H3 (s2.trans s3).up e)
    | false => exact iteF (q false G2 H2 (s2.wk st (by omega)) rfl)
theorem et_or (st : Stab S) {a b : Bool} (h1 : EvT S n ka tt σ G (fun c => c = a)) (h2 : a = false → EvT S (n + ka) kb tu σ G (fun c => c = b)) : EvT S n (ka + kb) (tOr tt tu) σ G (fun c => c = (a || b)) := fun G1 H1 s0 s Q q =>
  h1 G1 H1 s0 s _ fun c G2 H2 s2 e => by
    subst e
    cases c with
    | false => exact iteF (h2 rfl G2 H2 (s0.trans s2.g) s2.s Q fun d G3 H3 s3 e => q d G3 H3 (s2.trans s3).up e)
    | true => exact iteT (q true G2 H2 (s2.wk st (by omega)) rfl)
theorem et_not {a : Bool} (h : EvT S n ka tt σ G (fun c => c = a)) : EvT S n ka (tNot tt) σ G (fun c => c = !a) := fun G1 H1 s0 s Q q => h G1 H1 s0 s _ fun c G2 H2 s2 e => q (!c) G2 H2 s2 (by rw [show c = a from e])
theorem ev_andV (st : Stab S) {a b : Bool} (h1 : Ev S n ka ta σ G (IsV (.bl a))) (h2 : a = true → Ev S (n + ka) kb tb σ G (IsV (.bl b))) : Ev S n (ka + kb) (tAndV ta tb) σ G (IsV (.bl (a && b))) := fun G1 H1 s0 s Q q =>
  h1 G1 H1 s0 s _ fun c G2 H2 s2 e => ⟨a, e, by
    cases a with
    | true => exact iteT (h2 rfl G2 H2 (s0.trans s2.g) s2.s Q fun d G3 H3 s3 e => q d G3 H3 (s2.trans s3).up e)
    | false => exact iteF (q _ G2 H2 (s2.wk st (by omega)) rfl)⟩
theorem ev_orV (st : Stab S) {a b : Bool} (h1 : Ev S n ka ta σ G (IsV (.bl a))) (h2 : a = false → Ev S (n + ka) kb tb σ G (IsV (.bl b))) : Ev S n (ka + kb) (tOrV ta tb) σ G (IsV (.bl (a || b))) := fun G1 H1 s0 s Q q =>
  h1 G1 H1 s0 s _ fun c G2 H2 s2 e => ⟨a, e, by
    cases a with
    | false => exact iteF (h2 rfl G2 H2 (s0.trans s2.g) s2.s Q fun d G3 H3 s3 e => q d G3 H3 (s2.trans s3).up e)
    | true => exact iteT (q _ G2 H2 (s2.wk st (by omega)) rfl)⟩
theorem ev_notV {a : Bool} (h : Ev S n ka ta σ G (IsV (.bl a))) : Ev S n ka (tNotV ta) σ G (IsV (.bl (!a))) := fun G1 H1 s0 s Q q => h G1 H1 s0 s _ fun c G2 H2 s2 e => ⟨a, e, q _ G2 H2 s2 rfl⟩
theorem ev_if (st : Stab S) {c : Bool} (h : EvT S n kc tt σ G (fun b => b = c)) (h1 : c = true → Ev S (n + kc) ka ta σ G R) (h2 : c = false → Ev S (n + kc) kb tb σ G R) : Ev S n (kc + (ka + kb)) (tIf tt ta tb) σ G R := fun G1 H1 s0 s Q q =>
  h G1 H1 s0 s _ fun b G2 H2 s2 e => by
    subst e
    cases b with
    | true => exact iteT (h1 rfl G2 H2 (s0.trans s2.g) s2.s Q fun v G3 H3 s3 e => q v G3 H3 ((s2.trans s3).wk st (by omega)) e)
    | false => exact iteF (h2 rfl G2 H2 (s0.trans s2.g) s2.s Q fun v G3 H3 s3 e => q v G3 H3 ((s2.trans s3).wk st (by omega)) e)
/-! arguments, displays -/
theorem ea_nil : EvA S n 0 tNil σ G RNil := fun G1 H1 _ s Q q => q [] G1 H1 (Stp.refl s) rfl
theorem ea_cons [Mon R] (h : Ev S n ka te σ G R) (hr : EvA S (n + ka) kb tr σ G RA) : EvA S n (ka + kb) (tCons te tr) σ G (RCons R RA) := fun G1 H1 s0 s Q q =>
  h G1 H1 s0 s _ fun v G2 H2 s2 e => hr G2 H2 (s0.trans s2.g) s2.s _ fun vs G3 H3 s3 e' => q (v :: vs) G3 H3 (s2.trans s3).up ⟨v, vs, rfl, Mon.mon s3.g e, e'⟩
theorem ea_nilV : EvA S n 0 tNil σ G (IsVs []) := ea_nil
theorem ea_consV {vs : List V} (h : Ev S n ka te σ G (IsV x)) (hr : EvA S (n + ka) kb tr σ G (IsVs vs)) : EvA S n (ka + kb) (tCons te tr) σ G (IsVs (x :: vs)) := fun G1 H1 s0 s Q q =>
  h G1 H1 s0 s _ fun v G2 H2 s2 e => hr G2 H2 (s0.trans s2.g) s2.s _ fun ws G3 H3 s3 e' => q (v :: ws) G3 H3 (s2.trans s3).up (by rw [show v = x from e, show ws = vs from e']; rfl)
theorem ev_cb {r : List V → Hp → VK → Prop} (h : EvA S n k t σ G RA) (hr : ∀ vs G', Same G G' → RA vs G' → RC S r vs G' R) : Ev S n k (tCB r t) σ G R := fun G1 H1 s0 s Q q =>
  h G1 H1 s0 s _ fun vs G2 H2 s2 e => hr vs G2 (s0.trans s2.g) e _ G2 H2 (Same.refl _) s2.s Q fun v G3 H3 s3 e' => q v G3 H3 (s2.trans s3) e'
theorem ev_cbV {r : List V → Hp → VK → Prop} {ws : List V} (h : EvA S n k t σ G (IsVs ws)) (hr : RC S r ws G R) : Ev S n k (tCB r t) σ G R :=
  ev_cb h fun vs G' s e => by
    rw [show vs = ws from e]
    exact fun n G1 H1 a s' Q q => hr n G1 H1 (s.trans a) s' Q q
/-! fields -/
theorem ev_fld (st : Stab S) {K : PySem.W.Frag} {a C dx : Addr} {fs : List (Str × V)} {f : Str} (h : Ev S n k te σ G (IsV (.ref a))) (ho : G a = some (.ins C dx fs)) (hc : Cls K C) (hn : NoAttr K C f) (hl : fs.lookup f = some x) : Ev S n k (tFld K te f) σ G (IsV x) := fun G1 H1 s0 s Q q =>
  h G1 H1 s0 s _ fun v G2 H2 s2 e => ⟨a, C, dx, fs, x, e, st.sub s2.s _ _ (s2.g _ _ (s0 _ _ ho)), hc, hn, hl, q x G2 H2 s2 rfl⟩
/-! promises -/
/-- a def that changes nothing that stood: P arguments, what stands still, the result -/
def spP (P : List V → Hp → HR → Prop) : Sp := fun vs H Q _ => ∃ G R, Same G H ∧ P vs G R ∧ ∀ v G' H', Grow G H G' H' → R v G' → Q v H'
theorem ev_call (st : Stab S) {P : List V → Hp → HR → Prop} {dvs : List V} {E : XK} (h : EvA S n k t σ G RA) (hp : ∀ vs G', Same G G' → RA vs G' → P (vs ++ dvs) G' R) : Ev S n k (tCall (spP P) dvs E t) σ G R := fun G1 H1 s0 s Q q =>
  h G1 H1 s0 s _ fun vs G2 H2 s2 e => ⟨G2, R, st.sub s2.s, hp vs G2 (s0.trans s2.g) e, fun v G' H' g r => q v G' H' (s2.trans (st.gro s2.s g)) r⟩
theorem ev_callV (st : Stab S) {P : List V → Hp → HR → Prop} {dvs ws : List V} {E : XK} (h : EvA S n k t σ G (IsVs ws)) (hp : ∀ G', Same G G' → P (ws ++ dvs) G' R) : Ev S n k (tCall (spP P) dvs E t) σ G R :=
  ev_call st h fun vs G' s e => by
    rw [show vs = ws from e]
    exact hp G' s
theorem ev_meth (st : Stab S) {P : List V → Hp → HR → Prop} {dvs : List V} {E : XK} {C a dx : Addr} {m : Str} {fs : List (Str × V)} (ho : Ev S n ka te σ G (IsV (.ref a))) (hi : G a = some (.ins C dx fs)) (hl : fs.lookup m = none) (h : EvA S (n + ka) kb t σ G RA)
    (hp : ∀ vs G', Same G G' → RA vs G' → P (.ref a :: (vs ++ dvs)) G' R) : Ev S n (ka + kb) (tMeth C m (spP P) dvs E te t) σ G R := fun G1 H1 s0 s Q q =>
  ho G1 H1 s0 s _ fun v G2 H2 s2 e => ⟨a, dx, fs, e, st.sub s2.s _ _ (s2.g _ _ (s0 _ _ hi)), hl, h G2 H2 (s0.trans s2.g) s2.s _ fun vs G3 H3 s3 e' =>
    ⟨G3, R, st.sub s3.s, by rw [show v = .ref a from e]; exact hp vs G3 ((s0.trans s2.g).trans s3.g) e', fun v G' H' g r => q v G' H' ((s2.trans s3).trans (st.gro s3.s g)).up r⟩⟩
end
/-! ### operations -/
section
variable {K : PySem.W.Frag} {G : Hp} {R : HR} {x y : V} {r r' : R2} {i j : Int} {s z : Str}
theorem rv_val {v : V} (h : ∀ H, Same G H → ∀ Q : VK, Q v H → r x y H Q) (st : Stab S) : RV S r x y G (IsV v) := fun n G1 H1 s0 s Q q => h H1 (s0.trans (st.sub s)) Q (q v G1 H1 (Stp.refl s) rfl)
theorem rv_l (h : RV S r x y G R) : RV S (fun x y H Q => r x y H Q ∨ r' x y H Q) x y G R := fun n G1 H1 s0 s Q q => .inl (h n G1 H1 s0 s Q q)
theorem rv_r (h : RV S r' x y G R) : RV S (fun x y H Q => r x y H Q ∨ r' x y H Q) x y G R := fun n G1 H1 s0 s Q q => .inr (h n G1 H1 s0 s Q q)
theorem rv_I0 (st : Stab S) {g : Int → Int → V} : RV S (rI0 g) (.int i) (.int j) G (IsV (g i j)) := rv_val (fun H _ Q q => ⟨i, j, rfl, rfl, q⟩) st
theorem rv_I (st : Stab S) {C : Int → Int → Prop} {g : Int → Int → V} (hc : C i j) : RV S (rI C g) (.int i) (.int j) G (IsV (g i j)) := rv_val (fun H _ Q q => ⟨i, j, rfl, rfl, hc, q⟩) st
theorem rv_eq (st : Stab S) (h : scal x y = true) : RV S rEq x y G (IsV (.bl (decide (x = y)))) := rv_val (fun H _ Q q => ⟨h, q⟩) st
theorem rv_ne (st : Stab S) (h : scal x y = true) : RV S rNe x y G (IsV (.bl (!decide (x = y)))) := rv_val (fun H _ Q q => ⟨h, q⟩) st
theorem ru_I (st : Stab S) {g : Int → V} : RU S (rU g) (.int i) G (IsV (g i)) := fun n G1 H1 s0 s Q q => ⟨i, rfl, q _ G1 H1 (Stp.refl s) rfl⟩
theorem rv_ixL (st : Stab S) {p : Addr} {xs : List V} {v : V} (h : SqL K G p xs) (ha : atI xs i = some v) : RV S (rIxL K) (.ref p) (.int i) G (IsV v) := rv_val (fun H s Q q => ⟨p, xs, i, v, rfl, rfl, s.seq h, ha, q⟩) st
theorem rv_ixT (st : Stab S) {p : Addr} {xs : List V} {v : V} (h : SqT K G p xs) (ha : atI xs i = some v) : RV S (rIxT K) (.ref p) (.int i) G (IsV v) := rv_val (fun H s Q q => ⟨p, xs, i, v, rfl, rfl, same_t s h, ha, q⟩) st
end
/-! ### statements -/
section
variable {k n : Nat} {te : TE} {tt : TT} {ts t1 t2 u : TS} {σ : L2.St} {G H : Hp} {R : HR} {P : Bool → Prop} {x : V} {nx bk ct : L2.St → Hp → Prop} {rt : VK} {i : Nat}
theorem q_end (h : nx σ H) : tNext (Ends.mk nx rt bk ct) σ H := h
theorem q_ret (s : S n G H) (e : Ev S n k te σ G R) (h : ∀ v G' H', Stp S (n + k) G H G' H' → R v G' → rt v H') : tSeq (tRet te) u (Ends.mk nx rt bk ct) σ H := e G H (Same.refl _) s _ h
theorem q_retV (st : Stab S) (s : S n G H) (e : Ev S n k te σ G (IsV x)) (h : ∀ H', Kp S H H' → S (n + k) G H' → rt x H') : tSeq (tRet te) u (Ends.mk nx rt bk ct) σ H := q_ret s e fun v G' H' s1 e => by
  rw [show v = x from e]
  exact h H' s1.k (st.anti s s1.s s1.g)
theorem q_set (s : S n G H) (e : Ev S n k te σ G R) (h : ∀ v G' H', Stp S (n + k) G H G' H' → R v G' → u (Ends.mk nx rt bk ct) (σ.set i (some v)) H') : tSeq (tAsg te (gName i)) u (Ends.mk nx rt bk ct) σ H := e G H (Same.refl _) s _ h
theorem q_setV (st : Stab S) (s : S n G H) (e : Ev S n k te σ G (IsV x)) (h : ∀ H', Kp S H H' → S (n + k) G H' → u (Ends.mk nx rt bk ct) (σ.set i (some x)) H') : tSeq (tAsg te (gName i)) u (Ends.mk nx rt bk ct) σ H := q_set s e fun v G' H' s1 e => by
  rw [show v = x from e]
  exact h H' s1.k (st.anti s s1.s s1.g)
theorem q_setI (st : Stab S) (s : S n G H) {P : Int → Prop} (e : Ev S n k te σ G (IsI P)) (h : ∀ j H', P j → Kp S H H' → S (n + k) G H' → u (Ends.mk nx rt bk ct) (σ.set i (some (.int j))) H') : tSeq (tAsg te (gName i)) u (Ends.mk nx rt bk ct) σ H := q_set s e fun v G' H' s1 ⟨j, p, e⟩ => by
  rw [e]
  exact h j H' p s1.k (st.anti s s1.s s1.g)
theorem q_if (st : Stab S) (s : S n G H) (e : EvT S n k tt σ G P) (h1 : ∀ H', P true → Kp S H H' → S (n + k) G H' → t1 (Ends.mk (u (Ends.mk nx rt bk ct)) rt bk ct) σ H') (h2 : ∀ H', P false → Kp S H H' → S (n + k) G H' → t2 (Ends.mk (u (Ends.mk nx rt bk ct)) rt bk ct) σ H') :
    tSeq (tIfS tt t1 t2) u (Ends.mk nx rt bk ct) σ H := e G H (Same.refl _) s _ fun b G' H' s1 p => by
  cases b with
  | true => exact iteT (h1 H' p s1.k (st.anti s s1.s s1.g))
  | false => exact iteF (h2 H' p s1.k (st.anti s s1.s s1.g))
end
end L2.DS
/-! Callees by one fact each; operators of several kinds by one rule each. -/
namespace L2.DS
open PySem PySem.Spec PyProof.Rows
/-- a def of the top, by its name -/
def Callee (P : Program) (w : World) (K : PySem.W.Frag) (mg : Str → Option Value) (base : Heap) (x : Str) (CX : CXT) (k : Nat) (ps : List Str) (dvs : List V) (sp : Sp) : Prop :=
  ∃ (f : Addr) (fd : FuncData) (ds : List Value), mg x = some (.ref f) ∧ PySem.W.keepIn K (.ref f) = true ∧ FnOk P w K mg base CX k f fd ps sp ∧ Binds K fd ps ds ∧ Vals dvs ds
/-- a method m of the class at C -/
def Method (P : Program) (w : World) (K : PySem.W.Frag) (mg : Str → Option Value) (base : Heap) (C : Addr) (m : Str) (CX : CXT) (k : Nat) (ps : List Str) (dvs : List V) (sp : Sp) : Prop :=
  ∃ (f : Addr) (fd : FuncData) (ds : List Value), Cls K C ∧ Meth K C m f ∧ FnOk P w K mg base CX k f fd ps sp ∧ Binds K fd ps ds ∧ Vals dvs ds
section
variable {X : Cx} {CX : CXT} {k : Nat} {ps : List Str} {dvs : List V} {sp : Sp} {E : XK} {x m : Str} {C : Addr} {e o : Expr} {es : List Expr} {t : TA} {ta : TE} {p pos apos : Pos}
theorem pe_callC (c : Callee X.prog X.w X.K X.mg X.base x CX k ps dvs sp) (hr : Room k X.A) (hx : Passes CX X E) (ha : PA X (e :: es) t) (hg : Gl X x := by rfl) (hdb : (x == ("__debug__" : Str)) = false := by decide)
    (he : starEach (e :: es) X.env = (false, eval e X.env) :: starEach es X.env := by rfl) (hpl : (backTo pos (starEach es X.env)).any (·.1) = false := by rfl) : PE X (.Call (.Name x p) (e :: es) [] pos) (tCall sp dvs E t) := by
  obtain ⟨f, fd, ds, h1, h2, h3, h4, h5⟩ := c
  exact pe_call h3 hr hg h1 h2 h4 h5 hx ha hdb he hpl
theorem pe_methC {pl : Sem Bool} (c : Method X.prog X.w X.K X.mg X.base C m CX k ps dvs sp) (hr : Room k X.A) (hx : Passes CX X E) (ho : PE X o ta) (ha : PA X (e :: es) t)
    (hst : starEach (e :: es) X.env = (false, eval e X.env) :: starEach es X.env := by rfl) (hpl : (backTo pos (starEach es X.env)).any (·.1) = false := by rfl)
    (ht : eval (.Call (.Attribute o m apos) (e :: es) [] pos) X.env = (do
      let ov ← eval o X.env
      standAt apos.atName
      let (f, first) ← holding [ov] (getMethod ov m pl)
      callWith pos f first (backTo pos (starEach (e :: es) X.env)) (backToKw pos (keywordEach [] X.env))) := by rfl) :
    PE X (.Call (.Attribute o m apos) (e :: es) [] pos) (tMeth C m sp dvs E ta t) := by
  obtain ⟨f, fd, ds, h1, h2, h3, h4, h5⟩ := c
  exact pe_meth ho h1 h2 h3 hr h4 h5 hx ha hst hpl ht
end
/-! ### operators of several kinds -/
def rAddS : R2 := fun x y H Q => ∃ i j, x = .str i ∧ y = .str j ∧ i.length + j.length ≤ sizeLine ∧ Q (.str (i ++ j)) H
def rMul : R2 := fun x y H Q => rI CMul (fun i j => .int (i * j)) x y H Q ∨ rI CMulW (fun i j => .int (i * j)) x y H Q
def rDiv : R2 := fun x y H Q => rI CDiv (fun i j => .int (i / j)) x y H Q ∨ rI CDivW (fun i j => .int (i / j)) x y H Q
def rMod : R2 := rI (fun _ j => 0 < j) fun i j => .int (i % j)
def rAdd2 : R2 := fun x y H Q => rI0 (fun i j => .int (i + j)) x y H Q ∨ rAddS x y H Q
def rAddA : R2 := fun x y H Q => rAdd2 x y H Q ∨ rCat x y H Q
def rSubI : R2 := rI0 fun i j => .int (i - j)
def rLtI : R2 := rI0 fun i j => .bl (decide (i < j))
def rLeI : R2 := rI0 fun i j => .bl (decide (i ≤ j))
def rGtI : R2 := rI0 fun i j => .bl (decide (j < i))
def rGeI : R2 := rI0 fun i j => .bl (decide (j ≤ i))
def rEqA (K : PySem.W.Frag) : R2 := fun x y H Q => rEq x y H Q ∨ rEqD K x y H Q
def rNeA (K : PySem.W.Frag) : R2 := fun x y H Q => rNe x y H Q ∨ rNeD K x y H Q
def rDGet : R2 := fun x y H Q => ∃ a v, x = .ref a ∧ DGet H a y (some v) ∧ Q v H
def rDIn (neg : Bool) : R2 := fun y x H Q => ∃ a o, x = .ref a ∧ DGet H a y o ∧ Q (.bl (if neg then !o.isSome else o.isSome)) H
def rInA (K : PySem.W.Frag) (neg : Bool) : R2 := fun x y H Q => rIn K neg x y H Q ∨ rDIn neg x y H Q
def rIxA (K : PySem.W.Frag) : R2 := fun x y H Q => rIx K x y H Q ∨ rDGet x y H Q
def rSetD : TSet := fun o i v H Q => ∃ a H', o = .ref a ∧ DPut H a i v H' ∧ Q H'
def rSetA : TSet := fun o i v H Q => rSetL o i v H Q ∨ rSetD o i v H Q
section
variable {X : Cx}
theorem op_addA : OpR X (binaryOp .Add) rAddA := OpR.or (OpR.or op_add op_add_str) op_cat
theorem op_mulA : OpR X (binaryOp .Mult) rMul := OpR.or op_mul op_mulW
theorem op_divA : OpR X (binaryOp .FloorDiv) rDiv := OpR.or op_fdiv op_fdivW
theorem op_modA : OpR X (binaryOp .Mod) rMod := op_mod
theorem op_subA : OpR X (binaryOp .Sub) rSubI := op_sub
theorem op_ltA : OpR X (compareOp .Lt) rLtI := op_lt
theorem op_leA : OpR X (compareOp .LtE) rLeI := op_le
theorem op_gtA : OpR X (compareOp .Gt) rGtI := op_gt
theorem op_eqA (K : PySem.W.Frag) (hu : X.A.units + 64 < cLine) (hK : X.K = K := by rfl) : OpR X (compareOp .Eq) (rEqA K) := by
  subst hK
  exact OpR.or op_eq (op_eqD hu)
theorem op_neA (K : PySem.W.Frag) (hu : X.A.units + 64 < cLine) (hK : X.K = K := by rfl) : OpR X (compareOp .NotEq) (rNeA K) := by
  subst hK
  exact OpR.or op_ne (op_neD hu)
theorem op_inDict (hu : X.A.units + 1 < cLine) : OpR X (compareOp .In) (rDIn false) := fun pins s σ H x y v u Q I rx ry q => by
  obtain ⟨a, o, rfl, g, q⟩ := q
  obtain rfl : u = Value.ref a := ry
  exact d_in hu I g rx fun s3 I3 => ⟨.bl o.isSome, H, I3, rfl, q⟩
theorem op_ninDict (hu : X.A.units + 1 < cLine) : OpR X (compareOp .NotIn) (rDIn true) := fun pins s σ H x y v u Q I rx ry q => by
  obtain ⟨a, o, rfl, g, q⟩ := q
  obtain rfl : u = Value.ref a := ry
  exact d_notIn hu I g rx fun s3 I3 => ⟨.bl (!o.isSome), H, I3, rfl, q⟩
theorem op_inA (K : PySem.W.Frag) (hu : X.A.units + 1 < cLine) (hK : X.K = K := by rfl) : OpR X (compareOp .In) (rInA K false) := by
  subst hK
  exact OpR.or op_in_seq (op_inDict hu)
theorem op_ninA (K : PySem.W.Frag) (hu : X.A.units + 1 < cLine) (hK : X.K = K := by rfl) : OpR X (compareOp .NotIn) (rInA K true) := by
  subst hK
  exact OpR.or op_notIn_seq (op_ninDict hu)
theorem set_dict (hu : X.A.units + 1 < cLine) : PSet X rSetD := fun pins s σ H o i v ov iv u Q I ro ri rv q => by
  obtain ⟨a, H', rfl, g, q⟩ := q
  obtain rfl : ov = Value.ref a := ro
  exact d_setItem hu I g ri rv fun s4 I4 => ⟨H', I4, q⟩
theorem set_any (hu : X.A.units + 1 < cLine) : PSet X rSetA := fun pins s σ H o i v ov iv u Q I ro ri rv q => by
  rcases q with q | q
  · exact set_list pins s σ H o i v ov iv u Q I ro ri rv q
  · exact set_dict hu pins s σ H o i v ov iv u Q I ro ri rv q
theorem ix_dict (hu : X.A.units + 1 < cLine) : IxR X rDGet := fun value slice pins s σ H x y v u Q I rx ry h hs => by
  obtain ⟨a, z, rfl, g, q⟩ := h
  obtain rfl : v = Value.ref a := rx
  exact tail_any (dict_typeIs I g) PySem.F.slot_dict_getitem.lookup (d_getItem hu I g ry fun w' s3 I3 rw' => ⟨z, H, I3, rw', q⟩) hs
theorem ix_any (K : PySem.W.Frag) (hu : X.A.units + 1 < cLine) (hK : X.K = K := by rfl) : IxR X (rIxA K) := by
  subst hK
  exact IxR.or ix_seq (ix_dict hu)
end
/-! ### calls of built-ins of several kinds -/
section
variable {X : Cx}
theorem CallR.or {f : Value} {r r' : List V → Hp → VK → Prop} (h : CallR X f r) (h' : CallR X f r') : CallR X f (fun xs H Q => r xs H Q ∨ r' xs H Q) := fun pins s σ H xs us Q I rv q => by
  rcases q with q | q
  · exact h pins s σ H xs us Q I rv q
  · exact h' pins s σ H xs us Q I rv q
def rLenQ (K : PySem.W.Frag) : List V → Hp → VK → Prop := fun xs H Q => ∃ p ys, xs = [.ref p] ∧ (SqL K H p ys ∨ SqT K H p ys) ∧ Q (.int ys.length) H
def rLenS : List V → Hp → VK → Prop := fun xs H Q => ∃ z : Str, xs = [.str z] ∧ z.length ≤ sizeLine ∧ Q (.int z.length) H
def rLenD : List V → Hp → VK → Prop := fun xs H Q => ∃ a kvs, xs = [V.ref a] ∧ H a = some (.dK kvs) ∧ Q (.int kvs.length) H
def rLen2 : List V → Hp → VK → Prop := fun xs H Q => rLenS xs H Q ∨ rLenD xs H Q
def rLenA (K : PySem.W.Frag) : List V → Hp → VK → Prop := fun xs H Q => rLenQ K xs H Q ∨ rLen2 xs H Q
theorem call_lenA (K : PySem.W.Frag) (hK : X.K = K := by rfl) : CallR X (.builtin "len") (rLenA K) := by
  subst hK
  exact CallR.or call_len_seq (CallR.or call_len_str call_lenD)
def rAbs : List V → Hp → VK → Prop := fun xs H Q => ∃ i, xs = [.int i] ∧ Q (.int (if i < 0 then -i else i)) H
theorem call_absA : CallR X (.builtin "abs") rAbs := call_abs
def rInt1 : List V → Hp → VK → Prop := fun xs H Q => ∃ i, xs = [.int i] ∧ Q (.int i) H
def rInt2 : List V → Hp → VK → Prop := fun xs H Q => ∃ k, xs = [.bl k] ∧ Q (.int (if k then 1 else 0)) H
def rIntA : List V → Hp → VK → Prop := fun xs H Q => rInt1 xs H Q ∨ rInt2 xs H Q
theorem call_intA : CallR X (.type "int") rIntA := call_int1
def rListQ (K : PySem.W.Frag) : List V → Hp → VK → Prop := fun xs H Q => ∃ p ys, xs = [.ref p] ∧ (SqL K H p ys ∨ SqT K H p ys) ∧ ∀ l, H l = none → Q (.ref l) (upd H l (.lst ys))
theorem call_listA (K : PySem.W.Frag) (hK : X.K = K := by rfl) : CallR X (.type "list") (rListQ K) := by
  subst hK
  exact call_list_of
def rTupQ (K : PySem.W.Frag) : List V → Hp → VK → Prop := fun xs H Q => ∃ p ys, xs = [.ref p] ∧ ((SqL K H p ys ∧ ∀ l, H l = none → Q (.ref l) (upd H l (.tup ys))) ∨ (SqT K H p ys ∧ Q (.ref p) H))
theorem call_tupleA (K : PySem.W.Frag) (hK : X.K = K := by rfl) : CallR X (.type "tuple") (rTupQ K) := by
  subst hK
  exact call_tuple_of
theorem call_anyA (K : PySem.W.Frag) (hc : X.calm = true := by rfl) (hK : X.K = K := by rfl) : CallR X (.builtin "any") (rAny K) := by
  subst hK
  exact cr_any hc
theorem call_allA (K : PySem.W.Frag) (hc : X.calm = true := by rfl) (hK : X.K = K := by rfl) : CallR X (.builtin "all") (rAll K) := by
  subst hK
  exact cr_all hc
end
/-! ### the written part told by its name -/
section
variable {X : Cx} {tg e o : Expr} {te ta : TE} {f : Str} {pos : Pos}
theorem pe_fldK (K : PySem.W.Frag) (he : PE X e te) (hb : attributeBase e f X.env (eval e X.env) = eval e X.env := by rfl) (hK : X.K = K := by rfl) : PE X (.Attribute e f pos) (tFld K te f) := by
  subst hK
  exact pe_fld he hb
theorem pi_listK (K : PySem.W.Frag) (hl : PE X e te) (hK : X.K = K := by rfl) : PI X tg e (iList K te) := by
  subst hK
  exact pi_list hl
theorem sl_listK (K : PySem.W.Frag) (hK : X.K = K := by rfl) : SlR X (rSlL K) := by
  subst hK
  exact sl_list
end
end L2.DS
/-! What the operators of several kinds give. -/
namespace L2.DS
open PySem PySem.Spec PyProof.Rows
section
variable {S : SR} {n k ka kb kc : Nat} {te ta tb : TE} {tt : TT} {t : TA} {σ : L2.St} {K : PySem.W.Frag} {G : Hp} {R : HR} {x y z : V} {i j : Int} {s u : Str} {b c : Bool} {p : Addr} {xs ys : List V}
theorem ev_ifV (st : Stab S) (h : EvT S n kc tt σ G (fun b => b = c)) (h1 : c = true → Ev S (n + kc) ka ta σ G (IsV x)) (h2 : c = false → Ev S (n + kc) kb tb σ G (IsV y)) : Ev S n (kc + (ka + kb)) (tIf tt ta tb) σ G (IsV (if c then x else y)) :=
  ev_if st h (fun e => by rw [e]; exact h1 e) (fun e => by rw [e]; exact h2 e)
theorem v_add (st : Stab S) : RV S rAddA (.int i) (.int j) G (IsV (.int (i + j))) := rv_l (rv_l (rv_I0 st))
theorem v_adds (st : Stab S) (h : s.length + u.length ≤ sizeLine) : RV S rAddA (.str s) (.str u) G (IsV (.str (s ++ u))) := rv_l (rv_r (rv_val (fun H _ Q q => ⟨s, u, rfl, rfl, h, q⟩) st))
theorem v_sub (st : Stab S) : RV S rSubI (.int i) (.int j) G (IsV (.int (i - j))) := rv_I0 st
theorem v_mul (st : Stab S) (h : CMul i j) : RV S rMul (.int i) (.int j) G (IsV (.int (i * j))) := rv_l (rv_I st h)
theorem v_div (st : Stab S) (h : CDiv i j) : RV S rDiv (.int i) (.int j) G (IsV (.int (i / j))) := rv_l (rv_I st h)
theorem v_divW (st : Stab S) (h : CDivW i j) : RV S rDiv (.int i) (.int j) G (IsV (.int (i / j))) := rv_r (rv_I st h)
theorem v_mod (st : Stab S) (h : 0 < j) : RV S rMod (.int i) (.int j) G (IsV (.int (i % j))) := rv_I st h
theorem v_pow (st : Stab S) (h : CPow i j) : RV S (rI CPow fun i j => .int (i ^ j.toNat)) (.int i) (.int j) G (IsV (.int (i ^ j.toNat))) := rv_I st h
theorem v_lt (st : Stab S) : RV S rLtI (.int i) (.int j) G (IsV (.bl (decide (i < j)))) := rv_I0 st
theorem v_le (st : Stab S) : RV S rLeI (.int i) (.int j) G (IsV (.bl (decide (i ≤ j)))) := rv_I0 st
theorem v_gt (st : Stab S) : RV S rGtI (.int i) (.int j) G (IsV (.bl (decide (j < i)))) := rv_I0 st
theorem v_ge (st : Stab S) : RV S rGeI (.int i) (.int j) G (IsV (.bl (decide (j ≤ i)))) := rv_I0 st
theorem v_eq (st : Stab S) (h : scal x y = true) : RV S (rEqA K) x y G (IsV (.bl (decide (x = y)))) := rv_l (rv_eq st h)
theorem v_ne (st : Stab S) (h : scal x y = true) : RV S (rNeA K) x y G (IsV (.bl (!decide (x = y)))) := rv_l (rv_ne st h)
theorem v_eqI (st : Stab S) : RV S (rEqA K) (.int i) (.int j) G (IsV (.bl (decide (i = j)))) := by
  have e : decide (V.int i = V.int j) = decide (i = j) := by simp
  rw [← e]
  exact v_eq st rfl
theorem v_neI (st : Stab S) : RV S (rNeA K) (.int i) (.int j) G (IsV (.bl (!decide (i = j)))) := by
  have e : decide (V.int i = V.int j) = decide (i = j) := by simp
  rw [← e]
  exact v_ne st rfl
theorem v_eqB (st : Stab S) : RV S (rEqA K) (.bl b) (.bl c) G (IsV (.bl (decide (b = c)))) := by
  have e : decide (V.bl b = V.bl c) = decide (b = c) := by simp
  rw [← e]
  exact v_eq st rfl
theorem v_eqS (st : Stab S) : RV S (rEqA K) (.str s) (.str u) G (IsV (.bl (decide (s = u)))) := by
  have e : decide (V.str s = V.str u) = decide (s = u) := by simp
  rw [← e]
  exact v_eq st rfl
theorem v_neS (st : Stab S) : RV S (rNeA K) (.str s) (.str u) G (IsV (.bl (!decide (s = u)))) := by
  have e : decide (V.str s = V.str u) = decide (s = u) := by simp
  rw [← e]
  exact v_ne st rfl
theorem v_isN (st : Stab S) : RV S (fun x y H Q => y = .non ∧ Q (.bl (decide (x = .non))) H) x .non G (IsV (.bl (decide (x = .non)))) := rv_val (fun H _ Q q => ⟨rfl, q⟩) st
theorem v_notN (st : Stab S) : RV S (fun x y H Q => y = .non ∧ Q (.bl (!decide (x = .non))) H) x .non G (IsV (.bl (!decide (x = .non)))) := rv_val (fun H _ Q q => ⟨rfl, q⟩) st
theorem v_ixL (st : Stab S) (h : SqL K G p xs) (ha : atI xs i = some x) : RV S (rIxA K) (.ref p) (.int i) G (IsV x) := rv_l (rv_l (rv_ixL st h ha))
theorem v_ixT (st : Stab S) (h : SqT K G p xs) (ha : atI xs i = some x) : RV S (rIxA K) (.ref p) (.int i) G (IsV x) := rv_l (rv_r (rv_l (rv_ixT st h ha)))
theorem v_inL (st : Stab S) {neg : Bool} (h : SqL K G p xs) (hx : flatV x = true) (ha : xs.all flatV = true) : RV S (rInA K neg) x (.ref p) G (IsV (.bl (if neg then !inV x xs else inV x xs))) := rv_l (rv_val (fun H s Q q => ⟨p, xs, rfl, .inl (s.seq h), hx, ha, q⟩) st)
theorem u_neg (st : Stab S) : RU S (rU fun i => .int (-i)) (.int i) G (IsV (.int (-i))) := ru_I st
theorem rc_val {r : List V → Hp → VK → Prop} {vs : List V} (h : ∀ H, Same G H → ∀ Q : VK, Q x H → r vs H Q) (st : Stab S) : RC S r vs G (IsV x) := fun n G1 H1 s0 s Q q => h H1 (s0.trans (st.sub s)) Q (q x G1 H1 (Stp.refl s) rfl)
theorem c_lenL (st : Stab S) (h : SqL K G p xs) : RC S (rLenA K) [.ref p] G (IsV (.int xs.length)) := rc_val (fun H s Q q => .inl ⟨p, xs, rfl, .inl (s.seq h), q⟩) st
theorem c_lenT (st : Stab S) (h : SqT K G p xs) : RC S (rLenA K) [.ref p] G (IsV (.int xs.length)) := rc_val (fun H s Q q => .inl ⟨p, xs, rfl, .inr (same_t s h), q⟩) st
theorem c_lenS (st : Stab S) (h : s.length ≤ sizeLine) : RC S (rLenA K) [.str s] G (IsV (.int s.length)) := rc_val (fun H _ Q q => .inr (.inl ⟨s, rfl, h, q⟩)) st
theorem c_abs (st : Stab S) : RC S rAbs [.int i] G (IsV (.int (if i < 0 then -i else i))) := rc_val (fun H _ Q q => ⟨i, rfl, q⟩) st
theorem c_int (st : Stab S) : RC S rIntA [.int i] G (IsV (.int i)) := rc_val (fun H _ Q q => .inl ⟨i, rfl, q⟩) st
theorem c_intB (st : Stab S) : RC S rIntA [.bl b] G (IsV (.int (if b then 1 else 0))) := rc_val (fun H _ Q q => .inr ⟨b, rfl, q⟩) st
end
end L2.DS
/-! Loops and comprehensions. -/
namespace L2.DS
open PySem PySem.Spec PyProof.Rows
/-- a list of m things, the i-th as R i tells -/
def IsLR (K : PySem.W.Frag) (m : Nat) (R : Nat → HR) : HR := fun v G => ∃ p ys, v = .ref p ∧ SqL K G p ys ∧ ys.length = m ∧ ∀ i y, ys[i]? = some y → R i y G
instance (K m) (R : Nat → HR) [∀ i, Mon (R i)] : Mon (IsLR K m R) := ⟨fun s ⟨p, ys, e, h, l, r⟩ => ⟨p, ys, e, s.seq h, l, fun i y z => Mon.mon s (r i y z)⟩⟩
/-- .. newly made: it stood not in F -/
def IsLN (F : Hp) (m : Nat) (R : Nat → HR) : HR := fun v G => ∃ p ys, v = .ref p ∧ F p = none ∧ G p = some (.lst ys) ∧ ys.length = m ∧ ∀ i y, ys[i]? = some y → R i y G
instance (F m) (R : Nat → HR) [∀ i, Mon (R i)] : Mon (IsLN F m R) := ⟨fun s ⟨p, ys, e, f, h, l, r⟩ => ⟨p, ys, e, f, s _ _ h, l, fun i y z => Mon.mon s (r i y z)⟩⟩
theorem IsLN.lr {F : Hp} {K : PySem.W.Frag} {m : Nat} {R : Nat → HR} {v : V} {G : Hp} (h : IsLN F m R v G) : IsLR K m R v G := by
  obtain ⟨p, ys, e, _, h, l, r⟩ := h
  exact ⟨p, ys, e, SqL.of h, l, r⟩
theorem IsLN.wk {F F' : Hp} {m : Nat} {R : Nat → HR} {v : V} {G : Hp} (h : IsLN F m R v G) (s : Same F' F) : IsLN F' m R v G := by
  obtain ⟨p, ys, e, f, r⟩ := h
  exact ⟨p, ys, e, s.free f, r⟩
theorem isLR_V {K : PySem.W.Frag} {m : Nat} {f : Nat → V} {v : V} {G : Hp} (h : IsLR K m (fun i => IsV (f i)) v G) : IsL K ((List.range m).map f) v G := by
  obtain ⟨p, ys, e, h, l, r⟩ := h
  refine ⟨p, e, ?_⟩
  have z : ys = (List.range m).map f := by
    refine List.ext_getElem? fun i => ?_
    rw [List.getElem?_map]
    by_cases hi : i < m
    · rw [List.getElem?_range hi]
      have q : ys[i]? = some ys[i] := List.getElem?_eq_getElem (by omega)
      rw [q, show ys[i] = f i from r i _ q]
      rfl
    · rw [List.getElem?_eq_none (by omega), List.getElem?_eq_none (by rw [List.length_range]; omega)]
      rfl
  rw [← z]
  exact h
section
variable {S : SR} {n k c1 : Nat} {te el : TE} {tb u : TS} {σ : L2.St} {G H : Hp} {nx bk ct : L2.St → Hp → Prop} {rt : VK} {i : Nat} {K : PySem.W.Frag} {p : Addr} {xs : List V} {vs : List Nat}
/-- for x in xs -/
theorem q_forL (st : Stab S) (s : S n G H) (e : Ev S n k te σ G (IsV (.ref p))) (hq : SqL K G p xs) (c : Nat → Nat) (P : Nat → L2.St → Hp → Hp → Prop) (hc : c 0 = 0) (h0 : ∀ H', Kp S H H' → S (n + k) G H' → P 0 σ G H')
    (hs : ∀ j x σ' G' H', xs[j]? = some x → Same G G' → S (n + k + c j) G' H' → P j σ' G' H' →
      tb (Ends.mk (fun τ J => ∃ G2, Same G G2 ∧ S (n + k + c (j + 1)) G2 J ∧ P (j + 1) τ G2 J) rt (u (Ends.mk nx rt bk ct)) (fun τ J => ∃ G2, Same G G2 ∧ S (n + k + c (j + 1)) G2 J ∧ P (j + 1) τ G2 J)) (σ'.set i (some x)) H')
    (hd : ∀ σ' G' H', Same G G' → S (n + k + c xs.length) G' H' → P xs.length σ' G' H' → u (Ends.mk nx rt bk ct) σ' H') : tSeq (tFor (iList K te) (gName i) tb) u (Ends.mk nx rt bk ct) σ H := by
  refine e G H (Same.refl _) s _ fun v G1 H1 s1 ev => ?_
  have hs2 := st.anti s s1.s s1.g
  refine ⟨p, ev, ⟨xs, Same.seq (st.sub hs2) hq⟩, for_list (K := K) (a := p) (xs := xs) (fun j τ J => ∃ G2, Same G G2 ∧ S (n + k + c j) G2 J ∧ P j τ G2 J) ⟨G, Same.refl _, by rw [hc]; exact hs2, h0 H1 s1.k hs2⟩ (fun j τ J _ ⟨G2, a, b, _⟩ => (a.trans (st.sub b)).seq hq) (fun j x τ J hx ⟨G2, a, b, d⟩ => ?_) fun τ J ⟨G2, a, b, d⟩ => hd τ G2 J a b d⟩
  exact hs j x τ G2 J hx a b d
/-! ### comprehensions -/
/-- what holds while the list at D grows -/
def LcP (S : SR) (G2 H2 : Hp) (n c1 : Nat) (R : Nat → HR) (D : Addr) (j : Nat) (J : Hp) : Prop := ∃ G3 acc, Stp S (n + c1 * j) G2 H2 G3 J ∧ G3 D = none ∧ J D = some (.lst acc) ∧ acc.length = j ∧ ∀ j y, acc[j]? = some y → R j y G3
theorem lc_start (st : Stab S) {R : Nat → HR} {G2 H2 : Hp} {D : Addr} (a : S n G2 H2) (hD : H2 D = none) : LcP S G2 H2 n c1 R D 0 (upd H2 D (.lst [])) := by
  have gD : G2 D = none := (st.sub a).free hD
  have s1 : Same H2 (upd H2 D (.lst [])) := fun b o e => by
    rw [upd_ne (ne_of_none e hD)]
    exact e
  exact ⟨G2, [], ⟨Same.refl _, Kp.of s1, st.chg a hD a gD, fun _ _ h => .inl h⟩, gD, upd_same, rfl, fun j y z => by simp at z⟩
theorem lc_end (st : Stab S) {R : Nat → HR} [∀ i, Mon (R i)] {G1 H1 G2 H2 H : Hp} {D : Addr} {m : Nat} {Q : VK} (a : Stp S n G1 H1 G2 H2) (hD : H2 D = none) (h : LcP S G2 H2 n c1 R D m H)
    (q : ∀ v G' H', Stp S (n + c1 * m) G1 H1 G' H' → IsLN G1 m R v G' → Q v H') : Q (.ref D) H := by
  obtain ⟨G3, acc, s3, c, d, l, r⟩ := h
  have t := a.trans s3
  have g4 : Same G3 (upd G3 D (.lst acc)) := fun y o z => by
    rw [upd_ne (ne_of_none z c)]
    exact z
  refine q (.ref D) _ H ⟨t.g.trans g4, t.k, st.pub a.s hD s3.s c d, fun b o e => ?_⟩ ⟨D, acc, rfl, t.g.free c, upd_same, l, fun j y z => Mon.mon g4 (r j y z)⟩
  by_cases hb : b = D
  · rw [hb]
    exact .inr (a.k.v D hD)
  · rw [upd_ne hb] at e
    exact t.n b o e
theorem lc_turn (st : Stab S) {R : Nat → HR} [∀ i, Mon (R i)] {G2 H2 J : Hp} {D : Addr} {j : Nat} {el : TE} {τ : L2.St} {Nx : Hp → Prop} (a : S n G2 H2) (hD : H2 D = none) (h : LcP S G2 H2 n c1 R D j J) (hj : j < 100000)
    (hs : ∀ G', Same G2 G' → Ev S (n + c1 * j) c1 el τ G' (R j)) (hN : ∀ J', LcP S G2 H2 n c1 R D (j + 1) J' → Nx J') :
    tYes τ J fun b H3 => if b = true then el τ H3 fun y H4 => ∃ acc, H4 D = some (.lst acc) ∧ acc.length < sizeLine ∧ Nx (upd H4 D (.lst (acc ++ [y]))) else Nx H3 := by
  obtain ⟨G3, acc, s3, c, d, l, r⟩ := h
  show if true = true then el τ J (fun y H4 => ∃ acc, H4 D = some (.lst acc) ∧ acc.length < sizeLine ∧ Nx (upd H4 D (.lst (acc ++ [y])))) else Nx J
  rw [if_pos rfl]
  refine hs G3 s3.g G3 J (Same.refl _) s3.s _ fun y G4 J4 s4 ry => ?_
  have d4 : J4 D = some (.lst acc) := s4.k.k D _ (st.fre a hD) d
  have c4 : G4 D = none := by
    cases e : G4 D with
    | none => rfl
    | some o =>
      rcases s4.n D o e with q | q
      · rw [c] at q
        cases q
      · rw [d] at q
        cases q
  have t := s3.trans s4
  refine ⟨acc, d4, Nat.lt_of_lt_of_le (show acc.length < 100000 by omega) (by decide), hN _ ⟨G4, acc ++ [y], ⟨t.g, ⟨fun b o hm e => ?_, fun b e => ?_⟩, ?_, t.n⟩, c4, upd_same, by rw [List.length_append, l]; rfl, fun i z hz => ?_⟩⟩
  · rw [upd_ne (ne_of_none e hD)]
    exact t.k.k b o hm e
  · by_cases hb : b = D
    · rw [hb]
      exact hD
    · rw [upd_ne hb] at e
      exact t.k.v b e
  · have z := st.chg (o := .lst (acc ++ [y])) a hD t.s c4
    rw [Nat.mul_succ, ← Nat.add_assoc]
    exact z
  · by_cases hi : i < acc.length
    · rw [List.getElem?_append_left hi] at hz
      exact Mon.mon s4.g (r i z hz)
    · rw [List.getElem?_append_right (by omega)] at hz
      by_cases h0 : i - acc.length = 0
      · rw [h0] at hz
        have e : y = z := Option.some.inj hz
        rw [← e, show i = j by omega]
        exact ry
      · rw [List.getElem?_eq_none (by show 1 ≤ i - acc.length; omega)] at hz
        cases hz
/-- [el for x in xs] -/
theorem ev_lcL (st : Stab S) (R : Nat → HR) [∀ i, Mon (R i)] (e : Ev S n k te σ G (IsV (.ref p))) (hq : SqL K G p xs) (hl : xs.length ≤ 100000)
    (hs : ∀ j x G', xs[j]? = some x → Same G G' → Ev S (n + k + c1 * j) c1 el ((wipe σ vs).set i (some x)) G' (R j)) (hw : ∀ x : V, wipe ((wipe σ vs).set i (some x)) vs = wipe σ vs) :
    Ev S n (k + c1 * xs.length) (tLc (iList K te) (gName i) tYes el vs) σ G (IsLN G xs.length R) := fun G1 H1 s0 s Q q =>
  e G1 H1 s0 s _ fun v G2 H2 s2 ev => ⟨p, ev, ⟨xs, Same.seq (s0.trans (s2.g.trans (st.sub s2.s))) hq⟩, fun D hD =>
    lc_list (K := K) (a := p) (xs := xs) (LcP S G2 H2 (n + k) c1 R D) (lc_start st s2.s hD) (fun j J _ ⟨G3, acc, a, _⟩ => ((s0.trans s2.g).trans (a.g.trans (st.sub a.s))).seq hq)
      (fun j x J hx h => ⟨hw x, lc_turn st s2.s hD h (by have := (List.getElem?_eq_some_iff.mp hx).1; omega) (fun G' g => hs j x G' hx ((s0.trans s2.g).trans g)) fun _ h => h⟩)
      fun J h => lc_end st s2 hD h fun v G' H' a b => q v G' H' (by rw [← Nat.add_assoc]; exact a) (b.wk s0)⟩
/-- [el for x in range(m)] -/
theorem ev_lcR {m : Int} {ta : TA} (st : Stab S) (R : Nat → HR) [∀ i, Mon (R i)] (e : EvA S n k ta σ G (IsVs [.int m])) (h1 : -(2 ^ 62) ≤ m) (hl : m ≤ 100000)
    (hs : ∀ (j : Nat) G', (j : Int) < m → Same G G' → Ev S (n + k + c1 * j) c1 el ((wipe σ vs).set i (some (.int j))) G' (R j)) (hw : ∀ x : V, wipe ((wipe σ vs).set i (some x)) vs = wipe σ vs) :
    Ev S n (k + c1 * m.toNat) (tLc (iRng1 ta) (gName i) tYes el vs) σ G (IsLN G m.toNat R) := fun G1 H1 s0 s Q q =>
  e G1 H1 s0 s _ fun v G2 H2 s2 ev => ⟨m, ev, h1, by omega, fun D hD =>
    lc_range (lo := 0) (n := m.toNat) (LcP S G2 H2 (n + k) c1 R D) (lc_start st s2.s hD)
      (fun j J hx h => by
        show wipe ((wipe σ vs).set i (some (.int (0 + j)))) vs = _ ∧ tYes ((wipe σ vs).set i (some (.int (0 + j)))) J _
        rw [Int.zero_add]
        exact ⟨hw _, lc_turn st s2.s hD h (by omega) (fun G' g => hs j G' (by omega) ((s0.trans s2.g).trans g)) fun _ h => h⟩)
      fun J h => lc_end st s2 hD h fun v G' H' a b => q v G' H' (by rw [← Nat.add_assoc]; exact a) (b.wk s0)⟩
end
end L2.DS
/-! The script's source: a dict with its list of cells; what a pick leaves. -/
namespace L2.DS
open PySem PySem.Spec PyProof.Rows
theorem tC_run {x : V} {σ : L2.St} {H : Hp} {Q : VK} (h : Q x H) : tC x σ H Q := h
theorem tVar_run {i : Nat} {x : V} {σ : L2.St} {H : Hp} {Q : VK} (e : σ[i]? = some (some x)) (h : Q x H) : tVar i σ H Q := ⟨x, e, h⟩
def srcK (cl : Addr) (l m t : Int) : List (Key × V) := [(.inr ("cells" : Str), .ref cl), (.inr ("left" : Str), .int l), (.inr ("mixed" : Str), .int m), (.inr ("turn" : Str), .int t)]
def srcD (cl : Addr) (l m t : Int) : HO := .dK (srcK cl l m t)
theorem ne_lc : ¬ (Sum.inr ("cells" : Str) : Key) = .inr ("left" : Str) := by decide +kernel
theorem ne_mc : ¬ (Sum.inr ("cells" : Str) : Key) = .inr ("mixed" : Str) := by decide +kernel
theorem ne_tc : ¬ (Sum.inr ("cells" : Str) : Key) = .inr ("turn" : Str) := by decide +kernel
theorem ne_ml : ¬ (Sum.inr ("left" : Str) : Key) = .inr ("mixed" : Str) := by decide +kernel
theorem ne_tl : ¬ (Sum.inr ("left" : Str) : Key) = .inr ("turn" : Str) := by decide +kernel
theorem ne_tm : ¬ (Sum.inr ("mixed" : Str) : Key) = .inr ("turn" : Str) := by decide +kernel
theorem src_c {cl : Addr} {l m t : Int} : valV (srcK cl l m t) (.inr ("cells" : Str)) = some (.ref cl) := valV_pos rfl
theorem src_l {cl : Addr} {l m t : Int} : valV (srcK cl l m t) (.inr ("left" : Str)) = some (.int l) := (valV_neg ne_lc).trans (valV_pos rfl)
theorem src_m {cl : Addr} {l m t : Int} : valV (srcK cl l m t) (.inr ("mixed" : Str)) = some (.int m) := (valV_neg ne_mc).trans ((valV_neg ne_ml).trans (valV_pos rfl))
theorem src_t {cl : Addr} {l m t : Int} : valV (srcK cl l m t) (.inr ("turn" : Str)) = some (.int t) := (valV_neg ne_tc).trans ((valV_neg ne_tl).trans ((valV_neg ne_tm).trans (valV_pos rfl)))
theorem put_l {cl : Addr} {l m t l' : Int} : putK (srcK cl l m t) (.inr ("left" : Str)) (.int l') = srcK cl l' m t := by
  unfold putK
  rw [if_pos (by rw [valV_any, src_l]; rfl)]
  unfold srcK
  simp only [List.map_cons, List.map_nil, if_neg ne_lc, if_neg (fun z => ne_ml (Eq.symm z)), if_neg (fun z => ne_tl (Eq.symm z)), if_true]
theorem put_t {cl : Addr} {l m t t' : Int} : putK (srcK cl l m t) (.inr ("turn" : Str)) (.int t') = srcK cl l m t' := by
  unfold putK
  rw [if_pos (by rw [valV_any, src_t]; rfl)]
  unfold srcK
  simp only [List.map_cons, List.map_nil, if_neg ne_tc, if_neg ne_tl, if_neg ne_tm, if_true]
theorem src_len {cl : Addr} {l m t : Int} : (srcK cl l m t).length < sizeLine := by rw [sizeLine_eq]; show 4 < _; decide
/-- the source stands in the heap, n picks behind it -/
def SrcAt (st cl : Addr) (n : Nat) (H : Hp) : Prop := ∃ (cs : List Int) (l m t : Int), H st = some (srcD cl l m t) ∧ H cl = some (.lst (cs.map V.int)) ∧ (∀ c ∈ cs, 0 ≤ c) ∧ 0 ≤ l ∧ 0 ≤ m ∧ m < 2147483629 ∧ 0 ≤ t ∧ t ≤ n
theorem SrcAt.same {st cl : Addr} {n m : Nat} {H H' : Hp} (h : SrcAt st cl n H) (s : Same H H') (hn : n ≤ m) : SrcAt st cl m H' := by
  obtain ⟨cs, l, x, t, a, b, c, d, e, f, g, i⟩ := h
  exact ⟨cs, l, x, t, s _ _ a, s _ _ b, c, d, e, f, g, by omega⟩
/-- what stands is G; the source may change -/
def Src (st cl : Addr) : SR := ⟨fun n G H => Same G H ∧ G st = none ∧ G cl = none ∧ SrcAt st cl n H, fun a => a = st ∨ a = cl⟩
theorem SrcAt.ne {st cl : Addr} {n : Nat} {H : Hp} {D : Addr} (h : SrcAt st cl n H) (d : H D = none) : st ≠ D ∧ cl ≠ D := by
  obtain ⟨cs, l, x, t, a, b, _⟩ := h
  exact ⟨ne_of_none a d, ne_of_none b d⟩
theorem none_upd {G : Hp} {a D : Addr} {o : HO} (h : G a = none) (n : a ≠ D) : upd G D o a = none := by rw [upd_ne n]; exact h
theorem srcAt_upd {st cl : Addr} {n : Nat} {H : Hp} {D : Addr} {o : HO} (h : SrcAt st cl n H) (n1 : st ≠ D) (n2 : cl ≠ D) : SrcAt st cl n (upd H D o) := by
  obtain ⟨cs, l, x, t, a, b, r⟩ := h
  exact ⟨cs, l, x, t, by rw [upd_ne n1]; exact a, by rw [upd_ne n2]; exact b, r⟩
theorem grow_none {G H G' H' : Hp} {a : Addr} (g : Grow G H G' H') (h : G a = none) {o : HO} (e : H a = some o) : G' a = none := by
  cases q : G' a with
  | none => rfl
  | some u =>
    rcases g.n a u q with z | z
    · rw [h] at z
      cases z
    · rw [e] at z
      cases z
theorem stabS (st cl : Addr) : Stab (Src st cl) where
  sub := fun h => h.1
  wk := fun h hn => ⟨h.1, h.2.1, h.2.2.1, h.2.2.2.same (Same.refl _) hn⟩
  grow := fun {n G H G' H'} h g => by
    obtain ⟨h1, h2, h3, h4⟩ := h
    obtain ⟨cs, l, x, t, a, b, r⟩ := id h4
    exact ⟨g.s, grow_none g h2 a, grow_none g h3 b, h4.same g.h (Nat.le_refl _)⟩
  anti := fun h h' s => ⟨s.trans h'.1, h.2.1, h.2.2.1, h'.2.2.2⟩
  chg := fun {n m G H G' H' D o} h d h' g => by
    obtain ⟨n1, n2⟩ := h.2.2.2.ne d
    exact ⟨fun b u e => by rw [upd_ne (ne_of_none e g)]; exact h'.1 b u e, h'.2.1, h'.2.2.1, srcAt_upd h'.2.2.2 n1 n2⟩
  pub := fun {n m G H G' H' D o} h d h' g e => by
    obtain ⟨n1, n2⟩ := h.2.2.2.ne d
    exact ⟨fun b u z => by
      by_cases hb : b = D
      · rw [hb, upd_same] at z
        rw [hb, ← z]
        exact e
      · rw [upd_ne hb] at z
        exact h'.1 b u z, none_upd h'.2.1 n1, none_upd h'.2.2.1 n2, h'.2.2.2⟩
  fre := fun h d z => by
    obtain ⟨n1, n2⟩ := h.2.2.2.ne d
    rcases z with rfl | rfl
    · exact n1 rfl
    · exact n2 rfl
/-- a def that draws of the source: P source arguments so-far picks what-stands result -/
def spS (P : Addr → List V → Nat → Nat → Hp → HR → Prop) : Sp := fun vs H Q _ => ∃ st cl n k G R, Src st cl n G H ∧ P st vs n k G R ∧ ∀ v G' H', Stp (Src st cl) (n + k) G H G' H' → R v G' → Q v H'
section
variable {st cl : Addr} {n k ka kb : Nat} {t : TA} {te : TE} {σ : L2.St} {G : Hp} {R : HR} {RA : HRs}
theorem ev_callS {P : Addr → List V → Nat → Nat → Hp → HR → Prop} {dvs : List V} {E : XK} (h : EvA (Src st cl) n ka t σ G RA) (hp : ∀ vs G', Same G G' → RA vs G' → P st (vs ++ dvs) (n + ka) kb G' R) : Ev (Src st cl) n (ka + kb) (tCall (spS P) dvs E t) σ G R := fun G1 H1 s0 s Q q =>
  h G1 H1 s0 s _ fun vs G2 H2 s2 e => ⟨st, cl, n + ka, kb, G2, R, s2.s, hp vs G2 (s0.trans s2.g) e, fun v G' H' g r => q v G' H' (s2.trans g).up r⟩
theorem ev_callSV {P : Addr → List V → Nat → Nat → Hp → HR → Prop} {dvs ws : List V} {E : XK} (h : EvA (Src st cl) n ka t σ G (IsVs ws)) (hp : ∀ G', Same G G' → P st (ws ++ dvs) (n + ka) kb G' R) : Ev (Src st cl) n (ka + kb) (tCall (spS P) dvs E t) σ G R :=
  ev_callS h fun vs G' s e => by
    rw [show vs = ws from e]
    exact hp G' s
end
/-- the n-th pick of many -/
def PPick : Addr → List V → Nat → Nat → Hp → HR → Prop := fun st vs n k _ R => ∃ many : Int, vs = [.ref st, .int many] ∧ many < 2 ^ 2000 ∧ (many > 10 ^ 7 → n < 2 ^ 60) ∧ k = 1 ∧ R = IsI fun r => 0 ≤ r ∧ (r < many ∨ (many < 2 ∧ r = 0))
def sp_pick : Sp := spS PPick
theorem ev_pick {st cl : Addr} {n ka : Nat} {t : TA} {σ : L2.St} {G : Hp} {many : Int} {E : XK} (h : EvA (Src st cl) n ka t σ G (IsVs [.ref st, .int many])) (h1 : 1 ≤ many) (h2 : many ≤ 10 ^ 7) : Ev (Src st cl) n (ka + 1) (tCall sp_pick [] E t) σ G (IsI fun r => 0 ≤ r ∧ r < many) :=
  ev_callSV h fun G' s => ⟨many, rfl, Int.lt_of_le_of_lt h2 (by decide +kernel), fun z => by omega, rfl, by
    have e : (fun r : Int => 0 ≤ r ∧ (r < many ∨ (many < 2 ∧ r = 0))) = fun r => 0 ≤ r ∧ r < many := by
      funext r
      exact propext ⟨fun ⟨a, b⟩ => ⟨a, by omega⟩, fun ⟨a, b⟩ => ⟨a, .inl b⟩⟩
    rw [e]⟩
/-- the source made of a list of whole numbers: what is new stands at st and cl -/
def sp_source (K : PySem.W.Frag) : Sp := fun vs H Q _ => ∃ (p : Addr) (ns : List Int), vs = [.ref p] ∧ SqL K H p (ns.map V.int) ∧ ns.length ≤ 100000 ∧ ∀ st cl H', Same H H' → H st = none → H cl = none → SrcAt st cl 0 H' → Q (.ref st) H'
/-! ### dicts by keys of text -/
section
variable {S : SR} {K : PySem.W.Frag} {G : Hp} {a : Addr} {kvs : List (Key × V)} {k : Key} {v : V}
theorem v_ixD (st : Stab S) (h : G a = some (.dK kvs)) (hv : valV kvs k = some v) : RV S (rIxA K) (.ref a) (kV k) G (IsV v) := rv_r (rv_val (fun H s Q q => ⟨a, v, rfl, by rw [← hv]; exact DGet.k (s _ _ h), q⟩) st)
theorem v_ixDs (st : Stab S) {x : Str} (h : G a = some (.dK kvs)) (hv : valV kvs (.inr x) = some v) : RV S (rIxA K) (.ref a) (.str x) G (IsV v) := v_ixD (k := .inr x) st h hv
end
/-- names that are built in -/
structure Bi (mg : Str → Option Value) : Prop where
  z_int : mg "int" = none
  z_abs : mg "abs" = none
  z_range : mg "range" = none
  z_len : mg "len" = none
  z_isinstance : mg "isinstance" = none
  z_bool : mg "bool" = none
  z_str : mg "str" = none
  z_list : mg "list" = none
  z_tuple : mg "tuple" = none
  z_dict : mg "dict" = none
  z_enumerate : mg "enumerate" = none
  z_zip : mg "zip" = none
  z_reversed : mg "reversed" = none
  z_ValueError : mg "ValueError" = none
  z_LookupError : mg "LookupError" = none
  z_KeyError : mg "KeyError" = none
  z_Exception : mg "Exception" = none
  z_super : mg "super" = none
  z_sum : mg "sum" = none
  z_any : mg "any" = none
  z_all : mg "all" = none
  z_sorted : mg "sorted" = none
  z_max : mg "max" = none
  z_min : mg "min" = none
  z_NotImplementedError : mg "NotImplementedError" = none
  z_set : mg "set" = none
  z_repr : mg "repr" = none
end L2.DS
/-! New lists that grow; isinstance of data; data that is alike. -/
namespace L2.DS
open PySem PySem.Spec PyProof.Rows
theorem kp_new {S : SR} {H0 H : Hp} {p : Addr} {o : HO} (k : Kp S H0 H) (h : H0 p = none) : Kp S H0 (upd H p o) := ⟨fun b u m e => by
  rw [upd_ne (ne_of_none e h)]
  exact k.k b u m e, fun b e => by
  by_cases hb : b = p
  · rw [hb]
    exact h
  · rw [upd_ne hb] at e
    exact k.v b e⟩
section
variable {S : SR} {n n0 k : Nat} {t : TA} {u : TS} {σ : L2.St} {G H G0 H0 : Hp} {nx bk ct : L2.St → Hp → Prop} {rt : VK} {i j : Nat} {K : PySem.W.Frag} {p : Addr} {vs xs : List V} {x : V}
theorem st_pub (st : Stab S) (s0 : S n0 G0 H0) (hp0 : H0 p = none) (s : S n G H) (hG : G p = none) {o : HO} (hp : H p = some o) : S n (upd G p o) H ∧ Same G (upd G p o) := ⟨st.pub s0 hp0 s hG hp, fun b u e => by
  rw [upd_ne (ne_of_none e hG)]
  exact e⟩
/-- a tuple, a list newly made -/
def IsNew (F : Hp) (o : HO) : HR := fun v G => ∃ p, v = .ref p ∧ F p = none ∧ G p = some o
instance (F o) : Mon (IsNew F o) := ⟨fun s ⟨p, e, f, h⟩ => ⟨p, e, f, s _ _ h⟩⟩
theorem ev_lstN (st : Stab S) (h : EvA S n k t σ G (IsVs vs)) (hl : vs.length ≤ 100000) : Ev S n k (tLst t) σ G (IsNew G (.lst vs)) := fun G1 H1 s0 s Q q =>
  h G1 H1 s0 s _ fun ws G2 H2 s2 e => by
    obtain rfl : ws = vs := e
    exact ⟨Nat.le_trans hl (by decide), fun p hp => q (.ref p) _ _ (s2.trans (st.new s2.s hp)) ⟨p, rfl, (s0.trans s2.g).free ((st.sub s2.s).free hp), upd_same⟩⟩
end
/-! ### isinstance of data -/
def tyS : PyData → String
  | .none => "NoneType" | .bool _ => "bool" | .int _ => "int" | .str _ => "str" | .list _ => "list" | .tuple _ => "tuple" | .dict _ => "dict"
section
variable {S : SR} {K : PySem.W.Frag} {G : Hp} {x : V} {d : PyData} {c : String}
theorem atI_nat {xs : List V} {j : Nat} {v : V} (h : xs[j]? = some v) : atI xs (j : Int) = some v := by
  have hj := (List.getElem?_eq_some_iff.mp h).1
  have h1 : ixN xs.length ((j : Nat) : Int) = some j := by
    unfold ixN
    rw [if_pos (by omega), if_pos (by omega)]
    all_goals rfl
  unfold atI
  rw [h1]
  exact h
end
/-- no list or tuple in it is long -/
inductive Sml : PyData → Prop where
  | non : Sml .none
  | bl (b : Bool) : Sml (.bool b)
  | int (i : Int) : Sml (.int i)
  | str (s : Str) : Sml (.str s)
  | lst {ds : List PyData} (h : ds.length ≤ 100000) (a : ∀ d ∈ ds, Sml d) : Sml (.list ds)
  | tup {ds : List PyData} (h : ds.length ≤ 100000) (a : ∀ d ∈ ds, Sml d) : Sml (.tuple ds)
theorem Sml.len {d : PyData} {ds : List PyData} (h : Sml d) (e : d = .list ds ∨ d = .tuple ds) : ds.length ≤ 100000 ∧ ∀ x ∈ ds, Sml x := by
  rcases e with rfl | rfl
  · cases h with
    | lst h a => exact ⟨h, a⟩
  · cases h with
    | tup h a => exact ⟨h, a⟩
end L2.DS
/-! One object that is being made: all else stands. -/
namespace L2.DS
open PySem PySem.Spec PyProof.Rows
/-- all but x stays -/
def MX (x : Addr) : SR := ⟨fun _ _ _ => True, fun a => a = x⟩
/-- G stands, at x stands o; since the heap was H0, with G0 standing, all but x stayed -/
def Own (G0 H0 : Hp) (x : Addr) (o : HO) : SR := ⟨fun _ G H => Same G H ∧ G x = none ∧ H x = some o ∧ Kp (MX x) H0 H ∧ Same G0 G ∧ ∀ b u, G b = some u → G0 b = some u ∨ H0 b = none, fun _ => False⟩
theorem stabO (G0 H0 : Hp) (x : Addr) (o : HO) : Stab (Own G0 H0 x o) where
  sub := fun h => h.1
  wk := fun h _ => h
  grow := fun {n G H G' H'} h g => ⟨g.s, grow_none g h.2.1 h.2.2.1, g.h _ _ h.2.2.1, h.2.2.2.1.trans (Kp.of g.h), h.2.2.2.2.1.trans g.g, fun b u e => by
    rcases g.n b u e with z | z
    · exact h.2.2.2.2.2 b u z
    · exact .inr (h.2.2.2.1.v b z)⟩
  anti := fun h h' s => ⟨s.trans h'.1, h.2.1, h'.2.2.1, h'.2.2.2.1, h.2.2.2.2.1, h.2.2.2.2.2⟩
  chg := fun {n m G H G' H' D u} h d h' g => by
    have hx : x ≠ D := ne_of_none h.2.2.1 d
    refine ⟨fun b v e => by rw [upd_ne (ne_of_none e g)]; exact h'.1 b v e, h'.2.1, by rw [upd_ne hx]; exact h'.2.2.1, ⟨fun b v nb e => ?_, fun b e => ?_⟩, h'.2.2.2.2.1, h'.2.2.2.2.2⟩
    · rw [upd_ne (ne_of_none e (h.2.2.2.1.v D d))]
      exact h'.2.2.2.1.k b v nb e
    · by_cases hb : b = D
      · rw [hb]
        exact h.2.2.2.1.v D d
      · rw [upd_ne hb] at e
        exact h'.2.2.2.1.v b e
  pub := fun {n m G H G' H' D u} h d h' g e => by
    have hx : x ≠ D := ne_of_none h.2.2.1 d
    have hD0 := h.2.2.2.1.v D d
    refine ⟨fun b v z => ?_, none_upd h'.2.1 hx, h'.2.2.1, h'.2.2.2.1, fun b v z => ?_, fun b v z => ?_⟩
    · by_cases hb : b = D
      · rw [hb, upd_same] at z
        rw [hb, ← z]
        exact e
      · rw [upd_ne hb] at z
        exact h'.1 b v z
    · have := h'.2.2.2.2.1 b v z
      rw [upd_ne (ne_of_none this g)]
      exact this
    · by_cases hb : b = D
      · rw [hb]
        exact .inr hD0
      · rw [upd_ne hb] at z
        exact h'.2.2.2.2.2 b v z
  fre := fun _ _ z => z
theorem own_start {G H : Hp} {x : Addr} {o : HO} (s : Same G H) (g : G x = none) (h : H x = some o) (n : Nat) : Own G H x o n G H := ⟨s, g, h, Kp.refl H, Same.refl G, fun _ _ e => .inl e⟩
/-- the object changes -/
theorem own_upd {G0 H0 G H : Hp} {x : Addr} {o u : HO} {n m : Nat} (h : Own G0 H0 x o n G H) : Own G0 H0 x u m G (upd H x u) := ⟨fun b v e => by
  have hb : b ≠ x := fun z => by
    rw [z, h.2.1] at e
    cases e
  rw [upd_ne hb]
  exact h.1 b v e, h.2.1, upd_same, kp_upd' h.2.2.2.1, h.2.2.2.2.1, h.2.2.2.2.2⟩
where
  kp_upd' {H0 H : Hp} {x : Addr} {u : HO} (k : Kp (MX x) H0 H) : Kp (MX x) H0 (upd H x u) := ⟨fun b v nb e => by
    rw [upd_ne nb]
    exact k.k b v nb e, fun b e => by
    by_cases hb : b = x
    · rw [hb, upd_same] at e
      cases e
    · rw [upd_ne hb] at e
      exact k.v b e⟩
/-- what stands, without x -/
def del (G : Hp) (x : Addr) : Hp := fun b => if b = x then none else G b
theorem del_ne {G : Hp} {x b : Addr} (h : b ≠ x) : del G x b = G b := if_neg h
theorem del_x {G : Hp} {x : Addr} : del G x x = none := if_pos rfl
/-- nothing is known but what stands -/
def All : SR := ⟨fun _ G H => Same G H, fun _ => False⟩
theorem stabA : Stab All where
  sub := fun h => h
  wk := fun h _ => h
  grow := fun h g => g.s
  anti := fun h h' s => Same.trans s h'
  chg := fun {n m G H G' H' D o} h d h' g b u e => by
    rw [upd_ne (ne_of_none e g)]
    exact h' b u e
  pub := fun {n m G H G' H' D o} h d h' g e b u z => by
    by_cases hb : b = D
    · rw [hb, upd_same] at z
      rw [hb, ← z]
      exact e
    · rw [upd_ne hb] at z
      exact h' b u z
  fre := fun _ _ z => z
/-- the object as it stands now is looked at -/
theorem ev_look {G0 H0 : Hp} {x : Addr} {o : HO} {n k : Nat} {te : TE} {σ : L2.St} {G : Hp} {R R' : HR} (h : ∀ G1, Same G G1 → G1 x = none → Ev All n k te σ (upd G1 x o) R) (hR : ∀ v G2, R v G2 → G2 x = some o → R' v (del G2 x)) : Ev (Own G0 H0 x o) n k te σ G R' := by
  intro G1 H1 s0 s Q q
  obtain ⟨s1, s2, s3, s4, s5, s6⟩ := s
  have a : Same (upd G1 x o) H1 := fun b u e => by
    by_cases hb : b = x
    · rw [hb, upd_same] at e
      rw [hb, ← e]
      exact s3
    · rw [upd_ne hb] at e
      exact s1 b u e
  refine h G1 s0 s2 (upd G1 x o) H1 (Same.refl _) a Q fun v G2 H2 t r => ?_
  have g2 : G2 x = some o := t.g _ _ upd_same
  have gg : Same G1 (del G2 x) := fun b u e => by
    have hb : b ≠ x := fun z => by
      rw [z, s2] at e
      cases e
    rw [del_ne hb]
    exact t.g b u (by rw [upd_ne hb]; exact e)
  have gh : Same (del G2 x) H2 := fun b u e => by
    by_cases hb : b = x
    · rw [hb, del_x] at e
      cases e
    · rw [del_ne hb] at e
      exact t.s b u e
  have hh : Same H1 H2 := fun b u e => t.k.k b u (fun z => z) e
  have nn : ∀ b u, del G2 x b = some u → G1 b = some u ∨ H1 b = none := fun b u e => by
    by_cases hb : b = x
    · rw [hb, del_x] at e
      cases e
    · rw [del_ne hb] at e
      rcases t.n b u e with z | z
      · rw [upd_ne hb] at z
        exact .inl z
      · exact .inr z
  exact q v (del G2 x) H2 ⟨gg, Kp.of hh, ⟨gh, del_x, hh _ _ s3, s4.trans (Kp.of hh), s5.trans gg, fun b u e => by
    rcases nn b u e with z | z
    · exact s6 b u z
    · exact .inr (s4.v b z)⟩, nn⟩ (hR v G2 r g2)
/-- what a promise of a def that fills an object in tells: P class fields arguments what-stands result; the result: object class fields what-stands -/
abbrev OR := Addr → Addr → List (Str × V) → Hp → Prop
def spI (P : Addr → List (Str × V) → List V → Hp → OR → Prop) : Sp := fun vs H Q _ => ∃ x C dx fs rest G R, vs = .ref x :: rest ∧ H x = some (.ins C dx fs) ∧ Same G H ∧ G x = none ∧ P C fs rest G R ∧
  ∀ fs' G' H', Own G H x (.ins C dx fs') 0 G' H' → R x C fs' G' → Q .non H'
/-- an object as R tells -/
def IsO (C : Addr) (R : OR) : HR := fun v G => ∃ x dx fs G', v = .ref x ∧ G' x = none ∧ Same (upd G' x (.ins C dx fs)) G ∧ R x C fs G'
instance (C R) : Mon (IsO C R) := ⟨fun s ⟨x, dx, fs, G', e, h, t, r⟩ => ⟨x, dx, fs, G', e, h, t.trans s, r⟩⟩
section
variable {S : SR} {n k : Nat} {t tk : TA} {σ : L2.St} {G H : Hp} {R : OR} {RA : HRs} {C : Addr} {E : XK} {dvs : List V}
theorem made_stp (st : Stab S) {x dx : Addr} (s : S n G H) (hx : H x = none) (hd : H dx = none) (nd : dx ≠ x) {fs : List (Str × V)} {G' H' : Hp} (w : Own G (upd (upd H dx (.own x)) x (.ins C dx [])) x (.ins C dx fs) 0 G' H') : Stp S n G H (upd G' x (.ins C dx fs)) H' := by
  obtain ⟨w1, w2, w3, w4, w5, w6⟩ := w
  have hH : Same H H' := fun b o e => w4.k b o (ne_of_none e hx) (by rw [upd_ne (ne_of_none e hx), upd_ne (ne_of_none e hd)]; exact e)
  have hG : Same G (upd G' x (.ins C dx fs)) := fun b o e => by
    have e' := w5 b o e
    rw [upd_ne (ne_of_none e' w2)]
    exact e'
  have nn : ∀ b o, upd G' x (.ins C dx fs) b = some o → G b = some o ∨ H b = none := fun b o e => by
    by_cases hb : b = x
    · rw [hb]
      exact .inr hx
    · rw [upd_ne hb] at e
      rcases w6 b o e with z | z
      · exact .inl z
      · refine .inr ?_
        rw [upd_ne hb] at z
        by_cases hb2 : b = dx
        · rw [hb2]
          exact hd
        · rw [upd_ne hb2] at z
          exact z
  have hS : Same (upd G' x (.ins C dx fs)) H' := fun b o e => by
    by_cases hb : b = x
    · rw [hb, upd_same] at e
      rw [hb, ← e]
      exact w3
    · rw [upd_ne hb] at e
      exact w1 b o e
  exact ⟨hG, Kp.of hH, st.grow s ⟨hG, hH, hS, nn⟩, nn⟩
theorem made_start (st : Stab S) {x dx : Addr} (s : S n G H) (hx : H x = none) (hd : H dx = none) : Same G (upd (upd H dx (.own x)) x (.ins C dx [])) ∧ G x = none := by
  have sG := st.sub s
  exact ⟨fun b o e => by rw [upd_ne (ne_of_none (sG b o e) hx), upd_ne (ne_of_none (sG b o e) hd)]; exact sG b o e, sG.free hx⟩
end
end L2.DS
/-! Defs with defaults; defs that say super().__init__, with defaults; how their arguments are bound. -/
namespace L2.DS
open PySem PySem.Spec PyProof.Rows
section
variable {P : Program} {w : World} {K : PySem.W.Frag} {mg : Str → Option Value} {base : Heap} {x qual : Str} {params : Arguments} {body : List Stmt} {scope : Scope} {dvs : List V} {kws : List (Str × V)} {f : Addr} {fd : FuncData}
/-- a def with defaults that lets nothing out -/
theorem okD {N ps : List Str} {k : Nat} {sp : Sp} (F : FunD K x qual params body scope dvs kws f fd) (S : FnScope N ps scope) (len : ∀ vs H Q E, sp vs H Q E → vs.length = ps.length)
    (hbody : ∀ (cdv : Value) (A : Around) (outer : List Env) (s : Shared) (H : Hp) (vs : List V) (Q : VK) (E : XK), Room k (A.deeper (envOfC qual scope s.heap.objs.size f cdv)) → sp vs H Q E →
      ∃ t, PSs (cxOf CX0 P w K mg base N qual scope f cdv A outer s H E).nox body t ∧ t { nx := fun _ H' => Q .non H', rt := Q } (start N vs) H) : FnOk P w K mg base CX0 (k + 1) f fd ps sp :=
  F.ok S len fun cdv A outer s H vs Q E hr hsp => by
    obtain ⟨t, h, q⟩ := hbody cdv A outer s H vs Q E hr hsp
    exact ⟨t, h.nox, q⟩
end
/-- a def that says super().__init__, its defaults dvs and kws -/
structure FunSD (prog : Program) (K : PySem.W.Frag) (x qual : Str) (st : Stmt) (dvs : List V) (kws : List (Str × V)) (f : Addr) (fd : FuncData) (D : Addr) : Prop where
  ex : ∃ (oc : Value) (od : Option Addr) (dV kV doc pm : Value) (an : Option Addr) (cda : Addr) (ct : Value) (osl : Array (Option Value)) (cc : Addr) (ol : Obj) (vs : Array Value) (file : Str) (tf : Tok) (ccl : Value) (ccd : Option Addr) (csl : Array (Option Value)),
    fd = PySem.W.fnX x qual (defArgs st) (defBody st) (defScope st) [("__class__", cc)] dV kV doc pm an (.ref cda) ct ∧ K.lookup f = some ⟨oc, od, .func fd, osl⟩ ∧ PySem.W.codeIn K (.ref cda) qual = true ∧
    K.lookup cda = some ol ∧ ol.data = .fields vs ∧ vs[2]? = some (.str file tf) ∧ ((prog.main.file : Str) == file) = true ∧ K.lookup cc = some ⟨ccl, ccd, .cell (some (.ref D)), csl⟩ ∧ DflV K dV dvs ∧ KwdV K kV kws
  cls : ∃ oD cd, K.lookup D = some oD ∧ oD.data = .cls cd
  kp : PySem.W.keepIn K (.ref f) = true
  fi : PySem.W.fnIn K f = true
  ty : PySem.W.typeIn K (.ref f) = some (.type "function")
section
variable {prog : Program} {K : PySem.W.Frag} {x qual : Str} {st : Stmt} {dvs : List V} {kws : List (Str × V)} {f D : Addr} {fd : FuncData} {ps : List Str}
theorem FunSD.toS (F : FunSD prog K x qual st dvs kws f fd D) : FunS prog K x qual st f fd D := by
  obtain ⟨oc, od, dV, kV, doc, pm, an, cda, ct, osl, cc, ol, vs, file, tf, ccl, ccd, csl, h1, h2, h3, h4, h5, h6, h7, h8, _⟩ := F.ex
  exact ⟨⟨oc, od, dV, kV, doc, pm, an, cda, ct, osl, cc, ol, vs, file, tf, ccl, ccd, csl, h1, h2, h3, h4, h5, h6, h7, h8⟩, F.cls, F.kp, F.fi, F.ty⟩
end
/-- the def that super().__init__ finds -/
def SupC (P : Program) (w : World) (K : PySem.W.Frag) (mg : Str → Option Value) (base : Heap) (f2 : Addr) (CX : CXT) (k : Nat) (ps : List Str) (dvs : List V) (sp : Sp) : Prop :=
  ∃ (fd : FuncData) (ds : List Value), FnOk P w K mg base CX k f2 fd ps sp ∧ Binds K fd ps ds ∧ Vals dvs ds ∧ PySem.W.fnIn K f2 = true ∧ PySem.W.typeIn K (.ref f2) = some (.type "function")
section
variable {X : Cx} {body sts : List Stmt} {u : TS} {D : Addr} {ar : Str} {CX : CXT} {k : Nat} {f2 : Addr} {ps : List Str} {sp : Sp} {dvs : List V} {E : XK} {e : Expr} {es : List Expr} {ta : TA} {p0 p1 ap pos pos' : Pos} {pl : Sem Bool}
theorem psa_supC (S : SupAt X D ar) (hN : X.N[0]? = some ar) (hv : Own1 X.env.scope ar) (c : SupC X.prog X.w X.K X.mg X.base f2 CX k ps dvs sp) (hr : Room k X.A) (hx : Passes CX X E) (ha : PA X (e :: es) ta) (hr2 : PSA X body sts u)
    (he : eval (.Call (.Attribute (.Call (.Name "super" p0) [] [] p1) "__init__" ap) (e :: es) [] pos) X.env = (do
      let ov ← attributeBase (.Call (.Name "super" p0) [] [] p1) "__init__" X.env (eval (.Call (.Name "super" p0) [] [] p1) X.env)
      standAt ap.atName
      let (f, first) ← holding [ov] (getMethod ov "__init__" pl)
      callWith pos f first (backTo pos (starEach (e :: es) X.env)) []) := by rfl)
    (hst : starEach (e :: es) X.env = (false, eval e X.env) :: starEach es X.env := by rfl) (hpl : (backTo pos (starEach es X.env)).any (·.1) = false := by rfl)
    (hs : swapsWith (.Call (.Attribute (.Call (.Name "super" p0) [] [] p1) "__init__" ap) (e :: es) [] pos) none pos'.line X.env = pure false := by rfl) :
    PSA X body (.Expr (.Call (.Attribute (.Call (.Name "super" p0) [] [] p1) "__init__" ap) (e :: es) [] pos) pos' :: sts) (tSeq (tSup X.K D f2 sp dvs E ta) u) := by
  obtain ⟨fd, ds, F, hb, hd, hf, ht⟩ := c
  exact psa_sup S hN hv F hr hb hd hx hf ht ha hr2 he hst hpl hs
end
/-- a class made by its name with keywords -/
def MakerK (P : Program) (w : World) (K : PySem.W.Frag) (mg : Str → Option Value) (base : Heap) (x : Str) (C : Addr) (CX : CXT) (k : Nat) (ps : List Str) (n : Nat) (ks : List Str) (gV : List V → List V → List V) (sp : Sp) : Prop :=
  ∃ (f : Addr) (fd : FuncData) (g : List Value → List Value → List Value), mg x = some (.ref C) ∧ Mk K C f ∧ FnOk P w K mg base CX k f fd ps sp ∧ KBn K fd ps (n + 1) ks g gV
/-! ### statements on the object that is being made -/
section
variable {G0 H0 G H : Hp} {x C dx : Addr} {fs : List (Str × V)} {n k i : Nat} {te : TE} {u : TS} {σ : L2.St} {nx bk ct : L2.St → Hp → Prop} {rt : VK} {K : PySem.W.Frag} {f : Str} {R : HR} {v : V}
theorem q_fldO (s : Own G0 H0 x (.ins C dx fs) n G H) (e : Ev (Own G0 H0 x (.ins C dx fs)) n k te σ G R) (hx : σ[i]? = some (some (.ref x))) (hc : Cls K C) (hn : NoAttr K C f) (hl : fs.length < 1000)
    (h : ∀ v G' H', Same G G' → Own G0 H0 x (.ins C dx (putF f v fs)) (n + k) G' H' → R v G' → u (Ends.mk nx rt bk ct) σ H') : tSeq (sFld K (tVar i) te f) u (Ends.mk nx rt bk ct) σ H :=
  e G H (Same.refl _) s _ fun v G' H' s1 r => ⟨_, hx, x, C, dx, fs, rfl, s1.s.2.2.1, hc, hn, hl, h v G' _ s1.g (own_upd s1.s) r⟩
theorem q_fldV (s : Own G0 H0 x (.ins C dx fs) n G H) (e : Ev (Own G0 H0 x (.ins C dx fs)) n k te σ G (IsV v)) (hx : σ[i]? = some (some (.ref x))) (hc : Cls K C) (hn : NoAttr K C f) (hl : fs.length < 1000)
    (h : ∀ H', Own G0 H0 x (.ins C dx (putF f v fs)) (n + k) G H' → u (Ends.mk nx rt bk ct) σ H') : tSeq (sFld K (tVar i) te f) u (Ends.mk nx rt bk ct) σ H :=
  e G H (Same.refl _) s _ fun w G' H' s1 r => ⟨_, hx, x, C, dx, fs, rfl, s1.s.2.2.1, hc, hn, hl, by
    rw [show w = v from r]
    exact h _ (own_upd ((stabO _ _ _ _).anti s s1.s s1.g))⟩
theorem own_trans {G' H' : Hp} {o u : HO} {m m' : Nat} (a : Own G0 H0 x o m G H) (b : Own G H x u m' G' H') (l : Nat) : Own G0 H0 x u l G' H' := ⟨b.1, b.2.1, b.2.2.1, a.2.2.2.1.trans b.2.2.2.1, a.2.2.2.2.1.trans b.2.2.2.2.1, fun c w e => by
  rcases b.2.2.2.2.2 c w e with z | z
  · exact a.2.2.2.2.2 c w z
  · exact .inr (a.2.2.2.1.v c z)⟩
theorem own_n {o : HO} {m l : Nat} (a : Own G0 H0 x o m G H) : Own G0 H0 x o l G H := a
/-- super().__init__(..) -/
theorem q_supO {P : Addr → List (Str × V) → List V → Hp → OR → Prop} {D f2 : Addr} {dvs : List V} {E : XK} {ta : TA} {RA : HRs} {RO : OR} (s : Own G0 H0 x (.ins C dx fs) n G H) (h0 : σ[0]? = some (some (.ref x))) (hm : PySem.W.mroIn K C (.ref D) = some true) (hf : PySem.W.ks_superIn K C D "__init__" = some (some (.ref f2)))
    (h : EvA (Own G0 H0 x (.ins C dx fs)) n k ta σ G RA) (hp : ∀ vs G', Same G G' → RA vs G' → P C fs (vs ++ dvs) G' RO) (hq : ∀ fs' G' H', Same G G' → Own G0 H0 x (.ins C dx fs') 0 G' H' → RO x C fs' G' → u (Ends.mk nx rt bk ct) σ H') :
    tSeq (tSup K D f2 (spI P) dvs E ta) u (Ends.mk nx rt bk ct) σ H :=
  ⟨x, C, dx, fs, h0, s.2.2.1, hm, hf, h G H (Same.refl _) s _ fun vs G' H' s1 r => ⟨x, C, dx, fs, vs ++ dvs, G', RO, rfl, s1.s.2.2.1, s1.s.1, s1.s.2.1, hp vs G' s1.g r, fun fs' G2 H2 w ro => hq fs' G2 H2 (s1.g.trans w.2.2.2.2.1) (own_trans s1.s w 0) ro⟩⟩
end
end L2.DS
/-! Tuples with methods, starred displays, dicts by enumerate, texts in parts. -/
namespace L2.DS
open PySem PySem.Spec PyProof.Rows
/-- t.index(x), items and x data of small depth -/
def rIndexTD (K : PySem.W.Frag) : V → List V → Hp → VK → Prop := fun x xs H Q => ∃ (a : Addr) (y : V) (d : PyData) (ds : List PyData) (j : Nat) (z : PyData), x = V.ref a ∧ xs = [y] ∧ Dp K H (V.ref a) (.tuple ds) ∧ Dp K H y d ∧
  PyData.canLayAll0 ds = true ∧ SeqAt.shaped d = true ∧ ds[j]? = some z ∧ PyData.eqv z d = true ∧ (∀ (m : Nat) (z' : PyData), m < j → ds[m]? = some z' → PyData.eqv z' d = false) ∧ Q (.int (j : Nat)) H
/-! ### what evaluates to what -/
/-- a tuple newly made, its object plain -/
def IsTF (F : Hp) (xs : List V) : HR := fun v G => ∃ p o, v = .ref p ∧ F p = none ∧ o.dict = none ∧ G p = some (.frz o (.tup xs))
instance (F xs) : Mon (IsTF F xs) := ⟨fun s ⟨p, o, e, f, d, h⟩ => ⟨p, o, e, f, d, s _ _ h⟩⟩
section
variable {S : SR} {n k ka kb : Nat} {t ta : TA} {te to : TE} {σ : L2.St} {G H : Hp} {K : PySem.W.Frag} {p : Addr} {vs xs ys : List V} {x : V} {i j : Nat}
/-- list(range(m)) -/
theorem ev_listRg {m : Int} (st : Stab S) (h : Ev S n k te σ G (IsV (.int m))) (h0 : 0 ≤ m) (h1 : m ≤ 100000) : Ev S n k (tLstRg (tRg1 te)) σ G (IsNew G (.lst ((List.range m.toNat).map fun i => .int (i : Nat)))) := fun G1 H1 s0 s Q q =>
  h G1 H1 s0 s _ fun v G2 H2 s2 e => ⟨m, e, ⟨by omega, by omega, by omega, by omega, by show (m - 0).toNat ≤ 2 ^ 24; omega⟩, fun p hp => by
    have e : rgV 0 m = (List.range m.toNat).map fun i => V.int (i : Nat) := by
      unfold rgV
      rw [Int.sub_zero]
      exact List.map_congr_left fun i _ => by rw [Int.zero_add]
    rw [e]
    exact q (.ref p) _ _ (s2.trans (st.new s2.s hp)) ⟨p, rfl, (s0.trans s2.g).free ((st.sub s2.s).free hp), upd_same⟩⟩
/-- tuple(l) -/
theorem c_tupN (st : Stab S) (hq : SqL K G p xs) : RC S (rTupQ K) [.ref p] G (IsNew G (.tup xs)) := fun n G1 H1 s0 s Q q =>
  ⟨p, xs, rfl, .inl ⟨(s0.trans (st.sub s)).seq hq, fun l hl => q (.ref l) _ _ (st.new s hl) ⟨l, rfl, (s0.trans (st.sub s)).free hl, upd_same⟩⟩⟩
end
theorem tYes_run {σ : L2.St} {H : Hp} {Q : Bool → Hp → Prop} (h : Q true H) : tYes σ H Q := h
/-! ### a dict of places by enumerate -/
def plc : List Str → Nat → List (Key × V)
  | [], _ => []
  | a :: r, i => (.inr a, .int (i : Nat)) :: plc r (i + 1)
theorem plc_snoc : ∀ (xs : List Str) (a : Str) (i : Nat), plc (xs ++ [a]) i = plc xs i ++ [(.inr a, .int ((i + xs.length : Nat) : Int))]
  | [], a, i => rfl
  | b :: r, a, i => by
    show (_, _) :: plc (r ++ [a]) (i + 1) = _
    rw [plc_snoc r a (i + 1), List.length_cons, show i + (r.length + 1) = i + 1 + r.length by omega]
    rfl
theorem plc_len : ∀ (xs : List Str) (i : Nat), (plc xs i).length = xs.length
  | [], _ => rfl
  | a :: r, i => by rw [List.length_cons, ← plc_len r (i + 1)]; rfl
theorem plc_none : ∀ {xs : List Str} {a : Str} {i : Nat}, a ∉ xs → valV (plc xs i) (.inr a) = none
  | [], _, _, _ => rfl
  | b :: r, a, i, h => by
    have n : ¬ (Sum.inr b : Key) = .inr a := fun z => h (by cases z; exact List.mem_cons_self)
    exact (valV_neg (p := ((.inr b : Key), V.int (i : Nat))) n).trans (plc_none fun z => h (List.mem_cons_of_mem _ z))
theorem plc_some : ∀ {xs : List Str} {a : Str} {i j : Nat}, xs.Nodup → xs[j]? = some a → valV (plc xs i) (.inr a) = some (.int ((i + j : Nat) : Int))
  | [], _, _, _, _, e => by simp at e
  | b :: r, a, i, 0, _, e => by
    cases e
    exact valV_pos rfl
  | b :: r, a, i, j + 1, d, e => by
    have e' : r[j]? = some a := e
    have n : ¬ (Sum.inr b : Key) = .inr a := fun z => by
      cases z
      exact (List.nodup_cons.mp d).1 (List.mem_of_getElem? e')
    refine (valV_neg (p := ((.inr b : Key), V.int (i : Nat))) n).trans ?_
    rw [plc_some (List.nodup_cons.mp d).2 e', show i + 1 + j = i + (j + 1) by omega]
section
variable {S : SR} {n k : Nat} {ta : TA} {σ : L2.St} {G : Hp} {K : PySem.W.Frag} {p : Addr} {vs : List Nat} {i j : Nat} {names : List Str}
/-- {name: place for place, name in enumerate(names)} -/
theorem ev_dcE (st : Stab S) (h : EvA S n k ta σ G (IsVs [.ref p])) (hq : SqL K G p (names.map V.str)) (hl : names.length ≤ 100000) (hd : names.Nodup) (hij : i ≠ j) (hli : i < (wipe σ vs).length) (hlj : j < (wipe σ vs).length)
    (hw : ∀ x y : V, wipe (((wipe σ vs).set i (some x)).set j (some y)) vs = wipe σ vs) : Ev S n k (tDc (iEnum K ta) (gTup K 2 (gCons (gName i) (gCons (gName j) gNil))) tYes (tVar j) (tVar i) vs) σ G (IsNew G (.dK (plc names 0))) := fun G1 H1 s0 s Q q =>
  h G1 H1 s0 s _ fun ws G2 H2 s2 e => by
    obtain rfl : ws = [.ref p] := e
    refine ⟨p, names.map V.str, rfl, (s0.trans (s2.g.trans (st.sub s2.s))).seq hq, fun D hD => ?_⟩
    have gD := (st.sub s2.s).free hD
    refine ⟨fun t m J => m = names.length - t ∧ t ≤ names.length ∧ Kp S H2 J ∧ S (n + k) G2 J ∧ J D = some (.dK (plc (names.take t) 0)), ⟨names.length, by omega, by omega, kp_new (Kp.refl H2) hD, st.chg s2.s hD s2.s gD, upd_same⟩, ?_⟩
    rintro t m J ⟨rfl, ht, kJ, sJ, dJ⟩
    have w := walk_enum (K := K) (a := p) (xs := names.map V.str)
    have hqJ := (s0.trans (s2.g.trans (st.sub sJ))).seq hq
    have lm : (names.map V.str).length = names.length := List.length_map _
    by_cases hlt : t < names.length
    · refine .inr ⟨w.goes t J (by omega) hqJ, fun J' => names.length - (t + 1) = names.length - (t + 1) ∧ t + 1 ≤ names.length ∧ Kp S H2 J' ∧ S (n + k) G2 J' ∧ J' D = some (.dK (plc (names.take (t + 1)) 0)), fun J' z => ⟨_, by omega, z⟩, fun v J' y => ?_⟩
      obtain ⟨T, x, z, rfl, hT, rfl, ex, ez⟩ := w.yields t J v J' (by omega) hqJ y
      cases ex
      have ez' : z = V.str names[t] := by
        have e2 : (names.map V.str)[t]? = some z := ez
        rw [List.getElem?_map, List.getElem?_eq_getElem hlt] at e2
        exact (Option.some.inj e2).symm
      subst ez'
      have gr := Grow.hid (o := .tup [.int (t : Nat), .str names[t]]) (st.sub sJ) hT
      have sJ' := st.grow sJ gr
      have dJ' := gr.h _ _ dJ
      refine ⟨T, [.int (t : Nat), .str names[t]], rfl, SqT.of upd_same, rfl, _, _, rfl, _, _, rfl, rfl, hw _ _, ?_⟩
      refine tYes_run (iteT ?_)
      refine tVar_run (x := .str names[t]) ?_ (tVar_run (x := .int (t : Nat)) ?_ ⟨_, .inr names[t], rfl, dJ', ?_, rfl, by omega, ?_, ?_, ?_⟩)
      · rw [List.getElem?_set_self (by rw [List.length_set]; exact hlj)]
      · rw [List.getElem?_set_ne (Ne.symm hij), List.getElem?_set_self hli]
      · rw [plc_len, List.length_take]
        exact Nat.lt_of_le_of_lt (Nat.min_le_right _ _) (Nat.lt_of_le_of_lt hl (by decide))
      · exact kp_new (kJ.trans (Kp.of gr.h)) hD
      · exact st.chg s2.s hD sJ' gD
      · rw [upd_same]
        have nm : names[t] ∉ names.take t := fun z => by
          obtain ⟨a, ha, e⟩ := List.getElem_of_mem z
          rw [List.length_take] at ha
          rw [List.getElem_take] at e
          have := (List.getElem_inj hd).mp e
          omega
        rw [putK_new _ (plc_none nm), List.take_succ_eq_append_getElem hlt, plc_snoc, List.length_take, Nat.zero_add, Nat.min_eq_left (by omega)]
    · have ht' : t = names.length := by omega
      subst ht'
      rw [List.take_length] at dJ
      refine .inl ⟨by rw [← lm]; exact w.stops J hqJ, ?_⟩
      have g4 : Same G2 (upd G2 D (.dK (plc names 0))) := fun b o e => by
        rw [upd_ne (ne_of_none e gD)]
        exact e
      refine q (.ref D) (upd G2 D (.dK (plc names 0))) J ⟨s2.g.trans g4, s2.k.trans kJ, st.pub s2.s hD sJ gD dJ, fun b o e => ?_⟩ ⟨D, rfl, (s0.trans s2.g).free gD, upd_same⟩
      by_cases hb : b = D
      · rw [hb]
        exact .inr (s2.k.v D hD)
      · rw [upd_ne hb] at e
        exact s2.n b o e
end
/-! ### texts in parts -/
def EvJ (S : SR) (n : Nat) (ts : List TE) (acc : Str) (σ : L2.St) (G : Hp) (out : Str) : Prop := ∀ G1 H1, Same G G1 → S n G1 H1 → ∀ Q : Str → Hp → Prop, (∀ G2 H2, Stp S n G1 H1 G2 H2 → Q out H2) → tJs ts acc σ H1 Q
section
variable {S : SR} {n : Nat} {ts : List TE} {te : TE} {acc y out : Str} {σ : L2.St} {G : Hp} {i : Int}
theorem ej_nil : EvJ S n [] acc σ G acc := fun G1 H1 s0 s Q q => q G1 H1 (Stp.refl s)
theorem ej_cons (h : Ev S n 0 te σ G (IsV (.str y))) (hl : (acc ++ y).length ≤ sizeLine) (hr : EvJ S n ts (acc ++ y) σ G out) : EvJ S n (te :: ts) acc σ G out := fun G1 H1 s0 s Q q => by
  unfold tJs
  exact h G1 H1 s0 s _ fun v G2 H2 s2 e => ⟨y, e, hl, hr G2 H2 (s0.trans s2.g) s2.s _ fun G3 H3 s3 => q G3 H3 (s2.trans s3)⟩
theorem ev_fmtS (h : Ev S n 0 te σ G (IsV (.str y))) (hl : y.length ≤ sizeLine) : Ev S n 0 (tFmt te) σ G (IsV (.str y)) := fun G1 H1 s0 s Q q => h G1 H1 s0 s _ fun v G2 H2 s2 e => .inl ⟨y, e, hl, q _ G2 H2 s2 rfl⟩
theorem ev_joined (h : EvJ S n ts Str.empty σ G out) : Ev S n 0 (fun σ H Q => tJs ts Str.empty σ H fun out H1 => Q (.str out) H1) σ G (IsV (.str out)) := fun G1 H1 s0 s Q q => h G1 H1 s0 s _ fun G2 H2 s2 => q _ G2 H2 s2 rfl
end
end L2.DS
/-! What a scale holds. -/
namespace L2.DS
open PySem PySem.Spec PyProof.Rows
def scF : List Str := ["label", "size", "never_at", "still_at", "depth", "worth_names", "worth_places", "product_table", "join_table"]
theorem lk_eq {f : Str} {v : V} {fs : List (Str × V)} : (putF f v fs).lookup f = some v := by rw [lookup_putF, if_pos rfl]
theorem lk_ne {f g : Str} {v : V} {fs : List (Str × V)} (h : ¬ g = f) : (putF f v fs).lookup g = fs.lookup g := by rw [lookup_putF, if_neg h]
theorem lk_off {f g : Str} {v : V} {fs : List (Str × V)} (h : f ∉ scF) (hg : g ∈ scF) : (putF g v fs).lookup f = fs.lookup f := lk_ne fun e => h (by rw [e]; exact hg)
theorem putF_len (f : Str) (v : V) : ∀ fs : List (Str × V), (putF f v fs).length ≤ fs.length + 1
  | [] => Nat.le_refl 1
  | (g, x) :: r => by
    unfold putF
    split
    · show r.length + 1 ≤ r.length + 1 + 1
      omega
    · have := putF_len f v r
      show (putF f v r).length + 1 ≤ r.length + 1 + 1
      omega
/-- a tuple of n things as R tells -/
def IsTN (m : Nat) (R : Nat → HR) : HR := fun v G => ∃ p ys, v = .ref p ∧ G p = some (.tup ys) ∧ ys.length = m ∧ ∀ i y, ys[i]? = some y → R i y G
instance (m) (R : Nat → HR) [∀ i, Mon (R i)] : Mon (IsTN m R) := ⟨fun s ⟨p, ys, e, h, l, r⟩ => ⟨p, ys, e, s _ _ h, l, fun i y z => Mon.mon s (r i y z)⟩⟩
theorem ev_tupLc {S : SR} {n k m : Nat} {te : TE} {σ : L2.St} {G F : Hp} {K : PySem.W.Frag} {R : Nat → HR} [∀ i, Mon (R i)] (st : Stab S) (h : Ev S n k te σ G (IsLN F m R)) : Ev S n (k + 0) (tCB (rTupQ K) (tCons te tNil)) σ G (IsTN m R) :=
  ev_cb (ea_cons h ea_nil) fun vs G2 s2 e => by
    obtain ⟨_, _, rfl, ⟨p, ys, rfl, _, hp, l, r⟩, e⟩ := e
    obtain rfl := (show _ = _ from e)
    intro n G1 H1 s0 s Q q
    refine c_tupN (K := K) st (SqL.of hp) n G1 H1 s0 s Q fun v G3 H3 s3 ⟨t, e, _, ht⟩ => ?_
    exact q v G3 H3 s3 ⟨t, ys, e, ht, l, fun i y z => Mon.mon (s0.trans s3.g) (r i y z)⟩
/-- a table of n rows of n places -/
def Tab (G : Hp) (p : Addr) (n : Nat) (th : Nat → Nat → Int) : Prop := IsTN n (fun i => IsTN n fun j => IsV (.int (th i j))) (.ref p) G
theorem Tab.mono {G G' : Hp} {p : Addr} {n : Nat} {th : Nat → Nat → Int} (h : Tab G p n th) (s : Same G G') : Tab G' p n th := Mon.mon s h
theorem tab_del {G : Hp} {v : V} {n : Nat} {th : Nat → Nat → Int} {x C dx : Addr} {fs : List (Str × V)} (h : IsTN n (fun i => IsTN n fun j => IsV (.int (th i j))) v G) (hx : G x = some (.ins C dx fs)) : IsTN n (fun i => IsTN n fun j => IsV (.int (th i j))) v (del G x) := by
  have k : ∀ {b : Addr} {ys : List V}, G b = some (.tup ys) → del G x b = some (.tup ys) := fun {b ys} e => by
    rw [del_ne (ne_of e hx (fun z => by cases z))]
    exact e
  obtain ⟨p, ys, e, hp, l, r⟩ := h
  refine ⟨p, ys, e, k hp, l, fun i y z => ?_⟩
  obtain ⟨q, zs, e2, hq, l2, r2⟩ := r i y z
  exact ⟨q, zs, e2, k hq, l2, r2⟩
/-- the row a of a table -/
theorem Tab.row {G : Hp} {p : Addr} {n : Nat} {th : Nat → Nat → Int} (h : Tab G p n th) : ∃ ys, G p = some (.tup ys) ∧ ys.length = n ∧ ∀ a < n, ∃ q zs, ys[a]? = some (.ref q) ∧ G q = some (.tup zs) ∧ zs.length = n ∧ ∀ b < n, zs[b]? = some (.int (th a b)) := by
  obtain ⟨p', ys, e, hp, l, r⟩ := h
  cases e
  refine ⟨ys, hp, l, fun a ha => ?_⟩
  have e1 : ys[a]? = some ys[a] := List.getElem?_eq_getElem (by omega)
  obtain ⟨q, zs, e2, hq, l2, r2⟩ := r a _ e1
  refine ⟨q, zs, by rw [e1, e2], hq, l2, fun b hb => ?_⟩
  have e3 : zs[b]? = some zs[b] := List.getElem?_eq_getElem (by omega)
  rw [e3, show zs[b] = V.int (th a b) from r2 b _ e3]
/-- the fields of a scale -/
structure ScIs (label : Str) (names : List Str) (nv sl dep : Int) (th jn : Nat → Nat → Int) (fs : List (Str × V)) (G : Hp) : Prop where
  lab : fs.lookup ("label" : Str) = some (.str label)
  siz : fs.lookup ("size" : Str) = some (.int (names.length : Nat))
  nev : fs.lookup ("never_at" : Str) = some (.int nv)
  sti : fs.lookup ("still_at" : Str) = some (.int sl)
  dep : fs.lookup ("depth" : Str) = some (.int dep)
  nam : ∃ p, fs.lookup ("worth_names" : Str) = some (.ref p) ∧ G p = some (.tup (names.map V.str))
  pla : ∃ p, fs.lookup ("worth_places" : Str) = some (.ref p) ∧ G p = some (.dK (plc names 0))
  pro : ∃ p, fs.lookup ("product_table" : Str) = some (.ref p) ∧ Tab G p names.length th
  joi : ∃ p, fs.lookup ("join_table" : Str) = some (.ref p) ∧ Tab G p names.length jn
theorem ScIs.mono {label : Str} {names : List Str} {nv sl dep : Int} {th jn : Nat → Nat → Int} {fs : List (Str × V)} {G G' : Hp} (h : ScIs label names nv sl dep th jn fs G) (s : Same G G') : ScIs label names nv sl dep th jn fs G' :=
  ⟨h.lab, h.siz, h.nev, h.sti, h.dep, let ⟨p, a, b⟩ := h.nam; ⟨p, a, s _ _ b⟩, let ⟨p, a, b⟩ := h.pla; ⟨p, a, s _ _ b⟩, let ⟨p, a, b⟩ := h.pro; ⟨p, a, b.mono s⟩, let ⟨p, a, b⟩ := h.joi; ⟨p, a, b.mono s⟩⟩
/-- what Scale.__init__ asks and leaves: PT, PJ tell of make_then, make_join -/
def PScI (K : PySem.W.Frag) (C0 : Addr) (PT PJ : List V → Hp → HR → Prop) : Addr → List (Str × V) → List V → Hp → OR → Prop := fun C fs rest G R => C = C0 ∧ ∃ (label : Str) (pn : Addr) (names : List Str) (nv sl dep : Int) (th jn : Nat → Nat → Int),
  rest = [.str label, .ref pn, .int nv, .int sl, .int dep] ∧ SqL K G pn (names.map V.str) ∧ names.length ≤ 100 ∧ names.Nodup ∧ fs.length ≤ 100 ∧ fs.lookup ("make_then" : Str) = none ∧ fs.lookup ("make_join" : Str) = none ∧
  (∀ x dx fs' G', Same G G' → G' x = some (.ins C dx fs') → (∀ f, f ∉ scF → fs'.lookup f = fs.lookup f) → ∀ a b : Nat, a < names.length → b < names.length → PT [.ref x, .int (a : Nat), .int (b : Nat)] G' (IsV (.int (th a b))) ∧ PJ [.ref x, .int (a : Nat), .int (b : Nat)] G' (IsV (.int (jn a b)))) ∧
  R = fun _ _ fs' G' => ScIs label names nv sl dep th jn fs' G' ∧ (∀ f, f ∉ scF → fs'.lookup f = fs.lookup f) ∧ fs'.length ≤ fs.length + 9
/-- tuple([tuple([self.m(a, b) for b in places]) for a in places]) -/
theorem ev_table {S : SR} (st : Stab S) {K : PySem.W.Frag} {x C dx pl : Addr} {fs : List (Str × V)} {nn n : Nat} {m : Str} {PX : List V → Hp → HR → Prop} {th : Nat → Nat → Int} {v1 v2 v3 v4 v5 u7 u8 u9 u10 : Option V} {G : Hp} {E : XK} (hx : G x = some (.ins C dx fs)) (hm : fs.lookup m = none)
    (hp : G pl = some (.lst ((List.range nn).map fun i => V.int (i : Nat)))) (hn : nn ≤ 100000) (hP : ∀ G', Same G G' → ∀ a b : Nat, a < nn → b < nn → PX [.ref x, .int (a : Nat), .int (b : Nat)] G' (IsV (.int (th a b)))) :
    Ev S n 0 (tCB (rTupQ K) (tCons (tLc (iList K (tVar 6)) (gName 9) tYes (tCB (rTupQ K) (tCons (tLc (iList K (tVar 6)) (gName 10) tYes (tMeth C m (spP PX) [] E (tVar 0) (tCons (tVar 9) (tCons (tVar 10) tNil))) [10]) tNil)) [9]) tNil))
      [some (.ref x), v1, v2, v3, v4, v5, some (.ref pl), u7, u8, u9, u10] G (IsTN nn fun i => IsTN nn fun j => IsV (.int (th i j))) := by
  have ll : ((List.range nn).map fun i => V.int (i : Nat)).length = nn := by rw [List.length_map, List.length_range]
  have at_ : ∀ {j : Nat} {v : V}, ((List.range nn).map fun i => V.int (i : Nat))[j]? = some v → j < nn ∧ v = .int (j : Nat) := fun {j v} e => by
    have hj : j < nn := by
      have := (List.getElem?_eq_some_iff.mp e).1
      omega
    rw [List.getElem?_map, List.getElem?_range hj] at e
    exact ⟨hj, (Option.some.inj e).symm⟩
  have h1 := ev_lcL (S := S) (n := n) (k := 0) (c1 := 0) (K := K) (i := 9) (vs := [9]) (el := tCB (rTupQ K) (tCons (tLc (iList K (tVar 6)) (gName 10) tYes (tMeth C m (spP PX) [] E (tVar 0) (tCons (tVar 9) (tCons (tVar 10) tNil))) [10]) tNil))
    (σ := [some (.ref x), v1, v2, v3, v4, v5, some (.ref pl), u7, u8, u9, u10]) (G := G) st (fun i => IsTN nn fun j => IsV (.int (th i j))) (ev_var (i := 6) rfl) (SqL.of hp) (by omega) (fun a y G2 ha s2 => ?_) (fun _ => rfl)
  · have h2 := ev_tupLc (K := K) st h1
    rw [ll] at h2
    exact Ev.wk st h2 (by simp)
  · obtain ⟨la, rfl⟩ := at_ ha
    have h3 := ev_lcL (S := S) (n := n + 0 + 0 * a) (k := 0) (c1 := 0) (K := K) (i := 10) (vs := [10]) (el := tMeth C m (spP PX) [] E (tVar 0) (tCons (tVar 9) (tCons (tVar 10) tNil)))
      (σ := (wipe [some (.ref x), v1, v2, v3, v4, v5, some (.ref pl), u7, u8, u9, u10] [9]).set 9 (some (.int (a : Nat)))) (G := G2) st (fun j => IsV (.int (th a j))) (ev_var (i := 6) rfl) (SqL.of (s2 _ _ hp)) (by omega) (fun b y G3 hb s3 => ?_) (fun _ => rfl)
    · have h4 := ev_tupLc (K := K) st h3
      rw [ll] at h4
      exact Ev.wk st h4 (by simp)
    · obtain ⟨lb, rfl⟩ := at_ hb
      exact ev_meth (RA := IsVs [.int (a : Nat), .int (b : Nat)]) st (ev_var rfl) ((s2.trans s3) _ _ hx) hm (ea_consV (ev_var rfl) (ea_consV (ev_var rfl) ea_nilV)) fun vs G4 s4 e => by
        obtain rfl : vs = _ := e
        exact hP G4 ((s2.trans s3).trans s4) a b la lb
/-- a scale stands at x -/
def ScAt (K : PySem.W.Frag) (label : Str) (names : List Str) (nv sl dep : Int) (th jn : Nat → Nat → Int) (x : Addr) (G : Hp) : Prop := ∃ C dx fs, G x = some (.ins C dx fs) ∧ Cls K C ∧ (∀ f ∈ scF, NoAttr K C f) ∧ ScIs label names nv sl dep th jn fs G
theorem ScAt.mono {K : PySem.W.Frag} {label : Str} {names : List Str} {nv sl dep : Int} {th jn : Nat → Nat → Int} {x : Addr} {G G' : Hp} (h : ScAt K label names nv sl dep th jn x G) (s : Same G G') : ScAt K label names nv sl dep th jn x G' :=
  let ⟨C, dx, fs, a, b, c, d⟩ := h
  ⟨C, dx, fs, s _ _ a, b, c, d.mono s⟩
/-- a <= b <= c and the like -/
theorem ev_chain {S : SR} (st : Stab S) {n ka kb kc : Nat} {ta tb tc : TE} {r r' : R2} {σ : L2.St} {G : Hp} {x y z : V} {c d : Bool} (ha : Ev S n ka ta σ G (IsV x)) (hb : Ev S (n + ka) kb tb σ G (IsV y)) (hr : RV S r x y G (IsV (.bl c))) (hc : Ev S (n + ka + kb) kc tc σ G (IsV z)) (hr' : RV S r' y z G (IsV (.bl d))) :
    Ev S n (ka + kb + kc) (tChain r r' ta tb tc) σ G (IsV (.bl (c && d))) := fun G1 H1 s0 s Q q =>
  ha G1 H1 s0 s _ fun v G2 H2 s2 e => hb G2 H2 (s0.trans s2.g) s2.s _ fun w G3 H3 s3 e' => by
    obtain rfl : v = x := e
    obtain rfl : w = y := e'
    refine hr _ G3 H3 ((s0.trans s2.g).trans s3.g) s3.s _ fun u G4 H4 s4 e4 => ⟨c, e4, ?_⟩
    have t := (s2.trans s3).trans s4
    cases c with
    | false => exact iteF (q _ G4 H4 (t.wk st (by omega)) rfl)
    | true =>
      refine iteT (hc G4 H4 (s0.trans t.g) s4.s _ fun u2 G5 H5 s5 e5 => ?_)
      obtain rfl : u2 = z := e5
      exact hr' _ G5 H5 ((s0.trans t.g).trans s5.g) s5.s _ fun u3 G6 H6 s6 e6 => q u3 G6 H6 (((t.trans s5).trans s6).wk st (by omega)) e6
/-- d.get(k), the key there or not -/
theorem ev_dget {S : SR} (st : Stab S) {n ka kb : Nat} {td ty : TE} {σ : L2.St} {G : Hp} {a : Addr} {kvs : List (Key × V)} {k : Key} (h : Ev S n ka td σ G (IsV (.ref a))) (ha : G a = some (.dK kvs)) (hy : Ev S (n + ka) kb ty σ G (IsV (kV k))) : Ev S n (ka + kb) (tDGet1 td ty) σ G (IsV ((valV kvs k).getD .non)) := fun G1 H1 s0 s Q q =>
  h G1 H1 s0 s _ fun v G2 H2 s2 e => ⟨a, e, .inl ⟨kvs, .inl (st.sub s2.s _ _ (s2.g _ _ (s0 _ _ ha)))⟩, hy G2 H2 (s0.trans s2.g) s2.s _ fun w G3 H3 s3 e' => by
    obtain rfl : w = kV k := e'
    exact ⟨_, DGet.k (st.sub s3.s _ _ (s3.g _ _ (s2.g _ _ (s0 _ _ ha)))), q _ G3 H3 (s2.trans s3).up rfl⟩⟩
end L2.DS
/-! Scales of contents behind never. -/
namespace L2.DS
open PySem PySem.Spec PyProof.Rows
/-- the place that t.index(y) tells is k -/
def IdxOk (K : PySem.W.Frag) (G : Hp) (pt : Addr) (y : V) (k : Nat) : Prop := ∀ S, Stab S → RC S (rIndexTD K (.ref pt)) [y] G (IsV (.int (k : Nat)))
/-- make_then, make_join of such a scale: B tells what the two contents give, z what never gives -/
def PMk (K : PySem.W.Frag) (C0 : Addr) (m : Str) (B : List V → Hp → HR → Prop) (z : Nat → Nat → Int) : List V → Hp → HR → Prop := fun vs G R => ∃ (x dx pt : Addr) (fs : List (Str × V)) (o : Obj) (ws : List V) (a b : Nat), vs = [.ref x, .int (a : Nat), .int (b : Nat)] ∧
  G x = some (.ins C0 dx fs) ∧ fs.lookup ("contents" : Str) = some (.ref pt) ∧ fs.lookup m = none ∧ G pt = some (.frz o (.tup (.non :: ws))) ∧ o.dict = none ∧
  ((a = 0 ∨ b = 0) → R = IsV (.int (z a b))) ∧ (a ≠ 0 → b ≠ 0 → ∃ va vb Ry k, ws[a - 1]? = some va ∧ ws[b - 1]? = some vb ∧ Mon Ry ∧ (∀ G', Same G G' → B [.ref x, va, vb] G' Ry) ∧ (∀ y G', Same G G' → Ry y G' → IdxOk K G' pt y k) ∧ R = IsV (.int (k : Nat)))
def wnF : List Str := "contents" :: scF
end L2.DS
/-! Scales of integers. -/
namespace L2.DS
open PySem PySem.Spec PyProof.Rows
def ordS (up : Bool) : Str := if up then "up" else "down"
def cthen (m i j : Int) : Int := if i + j > m then m else i + j
def ceit (up : Bool) (i j : Int) : Int := if decide (j < i) = up then i else j
def cth (m : Int) (a b : Nat) : Int := if a = 0 ∨ b = 0 then 0 else cthen m ((a : Int) - 1) ((b : Int) - 1) + 1
def cjn (up : Bool) (a b : Nat) : Int := if a = 0 ∨ b = 0 then (a : Int) + b else ceit up ((a : Int) - 1) ((b : Int) - 1) + 1
def cword (m i : Int) : Str := if i = m then "many" else toString i
def cwords (m : Nat) : List Str := (List.range (m + 1)).map fun i => cword (m : Nat) (i : Nat)
def clabel (m : Int) (up : Bool) : Str := ((((("(count " : Str) ++ (toString m : Str)) ++ (" " : Str)) ++ ordS up) ++ (")" : Str))
end L2.DS
/-! isinstance of an own error that has fields; methods whose errors a try takes. -/
/-! Names of worths and odd words. -/
namespace L2.DS
open PySem PySem.Spec PyProof.Rows
/-- what a stretch of statements leaves as it was -/
structure Fr (S : SR) (G H G' H' : Hp) : Prop where
  g : Same G G'
  k : Kp S H H'
  n : ∀ b o, G' b = some o → G b = some o ∨ H b = none
theorem Fr.refl {S : SR} (G H : Hp) : Fr S G H G H := ⟨Same.refl _, Kp.refl _, fun _ _ e => .inl e⟩
theorem Fr.trans {S : SR} {G H G1 H1 G2 H2 : Hp} (a : Fr S G H G1 H1) (b : Fr S G1 H1 G2 H2) : Fr S G H G2 H2 := ⟨a.g.trans b.g, a.k.trans b.k, fun c o e => by
  rcases b.n c o e with z | z
  · exact a.n c o z
  · exact .inr (a.k.v c z)⟩
theorem Fr.kp {S : SR} {G H G1 H1 H2 : Hp} (a : Fr S G H G1 H1) (b : Kp S H1 H2) : Fr S G H G1 H2 := ⟨a.g, a.k.trans b, a.n⟩
theorem Stp.fr {S : SR} {n : Nat} {G H G1 H1 : Hp} (s : Stp S n G H G1 H1) : Fr S G H G1 H1 := ⟨s.g, s.k, s.n⟩
theorem Fr.stp {S : SR} {n : Nat} {G H G1 H1 : Hp} (f : Fr S G H G1 H1) (s : S n G1 H1) : Stp S n G H G1 H1 := ⟨f.g, f.k, s, f.n⟩
def EvO (S : SR) (n k : Nat) (t : TO) (σ : L2.St) (G : Hp) (o : Option Int) : Prop := ∀ G1 H1, Same G G1 → S n G1 H1 → ∀ Q : Option Int → Hp → Prop, (∀ G2 H2, Stp S (n + k) G1 H1 G2 H2 → Q o H2) → t σ H1 Q
section
variable {S : SR} {n k ka kb kc : Nat} {te ta : TE} {t : TA} {tl th : TO} {σ : L2.St} {G : Hp} {K : PySem.W.Frag} {i : Int} {z : Str} {lo hi : Option Int} {p q : Addr} {xs ys : List V}
theorem eo_none : EvO S n 0 tNoPart σ G none := fun G1 H1 s0 s Q q => q G1 H1 (Stp.refl s)
theorem eo_some (h : Ev S n k te σ G (IsV (.int i))) : EvO S n k (tPart te) σ G (some i) := fun G1 H1 s0 s Q q => h G1 H1 s0 s _ fun v G2 H2 s2 e => ⟨i, e, q G2 H2 s2⟩
theorem rv_imp {r : R2} {x y : V} {R R' : HR} (h : RV S r x y G R) (i : ∀ v G', Same G G' → R v G' → R' v G') : RV S r x y G R' := fun n G1 H1 s0 s Q q => h n G1 H1 s0 s Q fun v G2 H2 s2 r => q v G2 H2 s2 (i v G2 (s0.trans s2.g) r)
/-- z[lo:hi] -/
theorem ev_slS (h : Ev S n ka te σ G (IsV (.str z))) (hl : z.length ≤ sizeLine) (h1 : EvO S (n + ka) kb tl σ G lo) (h2 : EvO S (n + ka + kb) kc th σ G hi) : Ev S n (ka + kb + kc) (tSl rSlS te tl th) σ G (IsV (.str (cutS z lo hi))) := fun G1 H1 s0 s Q q =>
  h G1 H1 s0 s _ fun v G2 H2 s2 e => h1 G2 H2 (s0.trans s2.g) s2.s _ fun G3 H3 s3 => h2 G3 H3 ((s0.trans s2.g).trans s3.g) s3.s _ fun G4 H4 s4 => ⟨z, e, hl, q _ G4 H4 (by
    have t := (s2.trans s3).trans s4
    rw [show n + (ka + kb + kc) = n + ka + kb + kc by omega]
    exact t) rfl⟩
end
theorem inV_strs {w : Str} : ∀ {names : List Str}, inV (.str w) (names.map V.str) = decide (w ∈ names)
  | [] => rfl
  | a :: r => by
    have ih := inV_strs (w := w) (names := r)
    unfold inV at ih ⊢
    rw [List.map_cons, List.any_cons, ih]
    show (a == w || decide (w ∈ r)) = _
    by_cases h : a = w
    · subst h
      simp
    · have h2 : ¬ w = a := fun z => h z.symm
      simp [h, h2]
end L2.DS
/-! What the laws' own defs need. -/
namespace L2.DS
open PySem PySem.Spec PyProof.Rows
section
variable {S : SR} {n k : Nat} {te : TE} {tt : TT} {ts t1 t2 u tb : TS} {σ : L2.St} {G H : Hp} {R : HR} {P : Bool → Prop} {x : V} {nx bk ct : L2.St → Hp → Prop} {rt : VK} {i : Nat} {K : PySem.W.Frag}
/-- state = _law_source(script) -/
theorem q_source {p : Addr} {ns : List Int} {t : TA} {E : XK} {H0 : Hp} (h : ∀ Q : List V → Hp → Prop, Q [.ref p] H0 → t σ H0 Q) (hq : SqL K H0 p (ns.map V.int)) (hl : ns.length ≤ 100000)
    (hr : ∀ sa cl H', Src sa cl 0 H0 H' → u (Ends.mk nx rt bk ct) (σ.set i (some (.ref sa))) H') : tSeq (tAsg (tCall (sp_source K) [] E t) (gName i)) u (Ends.mk nx rt bk ct) σ H0 :=
  h _ ⟨p, ns, rfl, hq, hl, fun sa cl H' s a b c => hr sa cl H' ⟨s, a, b, c⟩⟩
theorem et_andL {ka kb : Nat} {tu : TT} {a : Bool} {P2 : Bool → Prop} (st : Stab S) (h1 : EvT S n ka tt σ G (fun c => c = a)) (h2 : a = true → EvT S (n + ka) kb tu σ G P2) : EvT S n (ka + kb) (tAnd tt tu) σ G (fun c => c = true → a = true) := fun G1 H1 s0 s Q q =>
  h1 G1 H1 s0 s _ fun c G2 H2 s2 e => by
    subst e
    cases c with
    | true => exact iteT (h2 rfl G2 H2 (s0.trans s2.g) s2.s Q fun d G3 H3 s3 e => q d G3 H3 (s2.trans s3).up fun _ => rfl)
    | false => exact iteF (q false G2 H2 (s2.wk st (by omega)) fun z => by cases z)
theorem et_any {ka kb : Nat} {ta tb : TE} {r : R2} {Ra Rb : HR} [Mon Ra] (st : Stab S) (ha : Ev S n ka ta σ G Ra) (hb : Ev S (n + ka) kb tb σ G Rb) (hr : ∀ x y G', Same G G' → Ra x G' → Rb y G' → ∃ b, RV S r x y G' (IsV (.bl b))) : EvT S n (ka + kb) (tTest (tOp r ta tb)) σ G (fun _ => True) :=
  et_test (P := fun _ => True) (ev_op ha hb fun x y G' s rx ry => by
    obtain ⟨b, hb⟩ := hr x y G' s rx ry
    exact fun n G1 H1 s0 s Q q => hb n G1 H1 s0 s Q fun v G2 H2 s2 e => q v G2 H2 s2 ⟨b, trivial, e⟩)
theorem ev_impI {P1 P2 : Int → Prop} (h : Ev S n k te σ G (IsI P1)) (i : ∀ j, P1 j → P2 j) : Ev S n k te σ G (IsI P2) := h.imp fun v G' s ⟨j, p, e⟩ => ⟨j, i j p, e⟩
end
/-- a scale of integers stands at x, of the class at C -/
def CsAt (C x : Addr) (t : Nat) (up : Bool) (G : Hp) : Prop := ∃ dx fs, G x = some (.ins C dx fs) ∧ ScIs (clabel (t : Nat) up) (("never" : Str) :: cwords t) 0 1 1 (cth (t : Nat)) (cjn up) fs G ∧ ∀ f, f ∉ wnF → f ≠ ("most" : Str) → f ≠ ("rising" : Str) → fs.lookup f = none
theorem CsAt.mono {C x : Addr} {t : Nat} {up : Bool} {G G' : Hp} (h : CsAt C x t up G) (s : Same G G') : CsAt C x t up G' :=
  let ⟨dx, fs, a, b, c⟩ := h
  ⟨dx, fs, s _ _ a, b.mono s, c⟩
theorem CsAt.of {C : Addr} {t : Nat} {up : Bool} {v : V} {G : Hp} (h : IsO C (fun _ _ fs' G' => ScIs (clabel (t : Nat) up) (("never" : Str) :: cwords t) 0 1 1 (cth (t : Nat)) (cjn up) fs' G' ∧ (∀ f, f ∉ wnF → f ≠ ("most" : Str) → f ≠ ("rising" : Str) → fs'.lookup f = none)) v G) : ∃ x, v = .ref x ∧ CsAt C x t up G := by
  obtain ⟨x, dx, fs, G', rfl, gx, s, a, b⟩ := h
  have s' : Same G' G := fun c o e => s c o (by rw [upd_ne (ne_of_none e gx)]; exact e)
  exact ⟨x, rfl, dx, fs, s _ _ upd_same, a.mono s', b⟩
/-- what each law's own def promises -/
def sp_law (K : PySem.W.Frag) : Sp := fun vs H Q _ => ∃ (p : Addr) (ns : List Int), vs = [.ref p] ∧ SqL K H p (ns.map V.int) ∧ ns.length ≤ 63 ∧ ∀ H', Q (.bl true) H'
end L2.DS
/-! From what the top has written to what the proofs ask. -/
namespace L2.DS
open PySem PySem.Spec PyProof.Rows
theorem mk_funD {K : PySem.W.Frag} {x qual : Str} {st : Stmt} {f T : Addr} {oc : Value} {od an dT : Option Addr} {osl slT : Array (Option Value)} {kV doc pm cdv ct cT : Value} {v : V} {u : Value} {n : Nat}
    (l : K.lookup f = some ⟨oc, od, .func (PySem.W.fnOf x qual (defArgs st) (defBody st) (defScope st) (.ref T) kV doc pm an cdv ct), osl⟩) (c : PySem.W.codeIn K cdv qual = true) (k : PySem.W.keepIn K (.ref f) = true) (lT : K.lookup T = some ⟨cT, dT, .seq [u].toArray n, slT⟩) (r : RelV v u) :
    FunD K x qual (defArgs st) (defBody st) (defScope st) [v] [] f (PySem.W.fnOf x qual (defArgs st) (defBody st) (defScope st) (.ref T) kV doc pm an cdv ct) :=
  ⟨⟨oc, od, .ref T, kV, doc, pm, an, cdv, ct, osl, rfl, l, c, .inr ⟨by simp, T, _, [u], n, rfl, lT, rfl, .cons r .nil⟩, .inl rfl⟩, k⟩
section
variable {P : Program} {K : PySem.W.Frag} {x qual : Str} {st : Stmt} {f cda cc D : Addr} {oc : Value} {od an oc1 oc2 oD : Option Addr} {osl sl1 sl2 slD : Array (Option Value)} {kV doc pm ct c1 c2 cD : Value} {vs : Array Value} {file : Str} {tf : Tok} {cd : ClassData}
theorem mk_funS (l : K.lookup f = some ⟨oc, od, .func (PySem.W.fnX x qual (defArgs st) (defBody st) (defScope st) [("__class__", cc)] .none kV doc pm an (.ref cda) ct), osl⟩) (c : PySem.W.codeIn K (.ref cda) qual = true) (lc : K.lookup cda = some ⟨c1, oc1, .fields vs, sl1⟩) (hv : vs[2]? = some (.str file tf)) (hf : ((P.main.file : Str) == file) = true)
    (lx : K.lookup cc = some ⟨c2, oc2, .cell (some (.ref D)), sl2⟩) (lD : K.lookup D = some ⟨cD, oD, .cls cd, slD⟩) (k : PySem.W.keepIn K (.ref f) = true) (fi : PySem.W.fnIn K f = true) (ty : PySem.W.typeIn K (.ref f) = some (.type "function")) {kws : List (Str × V)} (hk : KwdV K kV kws) :
    FunSD P K x qual st [] kws f (PySem.W.fnX x qual (defArgs st) (defBody st) (defScope st) [("__class__", cc)] .none kV doc pm an (.ref cda) ct) D :=
  ⟨⟨oc, od, .none, kV, doc, pm, an, cda, ct, osl, cc, _, vs, file, tf, c2, oc2, sl2, rfl, l, c, lc, rfl, hv, hf, lx, .inl ⟨rfl, rfl⟩, hk⟩, ⟨_, _, lD, rfl⟩, k, fi, ty⟩
end
theorem kwd_none {K : PySem.W.Frag} {kV : Value} : KwdV K kV [] := .inl rfl
end L2.DS
/-! Own errors as values. -/
namespace L2.DS
open PySem PySem.Spec PyProof.Rows
/-- an error of the class at C stands at e, its dict at d (or none) -/
def ErO (C : Addr) (d : Option Addr) (e : Addr) : HO := .ext fun h => ∃ (oe : Obj) (vs : Array Value), h.get? e = some oe ∧ Zc (.ref C) d oe ∧ oe.data = .fields vs
/-! ### what evaluates to an error -/
def IsEr (C : Addr) (nm : Str) (v : V) : HR := fun u G => ∃ e dd, u = .ref e ∧ G e = some (ErO C (some dd) e) ∧ G dd = some (.xd [(nm, v)])
def IsEr0 (C : Addr) : HR := fun u G => ∃ e, u = .ref e ∧ G e = some (ErO C none e)
instance (C nm v) : Mon (IsEr C nm v) := ⟨fun s ⟨e, dd, a, b, c⟩ => ⟨e, dd, a, s _ _ b, s _ _ c⟩⟩
instance (C) : Mon (IsEr0 C) := ⟨fun s ⟨e, a, b⟩ => ⟨e, a, s _ _ b⟩⟩
/-- an error of the class at C, with a field or none -/
def IsErA (C : Addr) : HR := fun u G => ∃ e d, u = .ref e ∧ G e = some (ErO C d e) ∧ (d = none ∨ ∃ dd fs, d = some dd ∧ G dd = some (.xd fs))
theorem IsEr.any {C : Addr} {nm : Str} {v u : V} {G : Hp} (h : IsEr C nm v u G) : IsErA C u G := let ⟨e, dd, a, b, c⟩ := h; ⟨e, _, a, b, .inr ⟨dd, _, rfl, c⟩⟩
theorem IsEr0.any {C : Addr} {u : V} {G : Hp} (h : IsEr0 C u G) : IsErA C u G := let ⟨e, a, b⟩ := h; ⟨e, _, a, b, .inl rfl⟩
instance (C) : Mon (IsErA C) := ⟨fun s ⟨e, d, a, b, c⟩ => ⟨e, d, a, s _ _ b, c.imp id fun ⟨dd, fs, x, y⟩ => ⟨dd, fs, x, s _ _ y⟩⟩⟩
/-- a list of things as RA tells -/
def IsLX (RA : HRs) : HR := fun v G => ∃ p xs, v = .ref p ∧ G p = some (.lst xs) ∧ RA xs G
instance (RA) [Mons RA] : Mon (IsLX RA) := ⟨fun s ⟨p, xs, e, h, r⟩ => ⟨p, xs, e, s _ _ h, Mons.mon s r⟩⟩
/-- an error told by its class and its field -/
def IsErS (s : Addr × Option (Str × V)) : HR := fun u G => match s.2 with
  | none => IsEr0 s.1 u G
  | some p => IsEr s.1 p.1 p.2 u G
instance (s) : Mon (IsErS s) := ⟨fun {u G G'} t h => by
  obtain ⟨C, o⟩ := s
  cases o with
  | none => exact (Mon.mon t (show IsEr0 C u G from h) : IsEr0 C u G')
  | some p => exact (Mon.mon t (show IsEr C p.1 p.2 u G from h) : IsEr C p.1 p.2 u G')⟩
theorem IsErS.any {s : Addr × Option (Str × V)} {u : V} {G : Hp} (h : IsErS s u G) : IsErA s.1 u G := by
  obtain ⟨C, o⟩ := s
  cases o with
  | none => exact (show IsEr0 C u G from h).any
  | some p => exact (show IsEr C p.1 p.2 u G from h).any
def RE : List (Addr × Option (Str × V)) → HRs
  | [] => RNil
  | s :: r => RCons (IsErS s) (RE r)
theorem re_mon : ∀ {ss : List (Addr × Option (Str × V))} {vs : List V} {G G' : Hp}, Same G G' → RE ss vs G → RE ss vs G'
  | [], _, _, _, _, h => h
  | s :: r, _, _, _, t, ⟨v, w, e, h, h'⟩ => ⟨v, w, e, Mon.mon t h, re_mon t h'⟩
instance (ss) : Mons (RE ss) := ⟨re_mon⟩
/-! ### texts and lists several times -/
def rMulS : R2 := fun x y H Q => ∃ (a : Str) (k : Int), x = .str a ∧ y = .int k ∧ 2 ≤ k ∧ k ≤ 1000 ∧ 1 ≤ a.length ∧ a.length ≤ 1000 ∧ ((List.replicate k.toNat a.cps).foldl (· ++ ·) #[]).size ≤ sizeLine ∧ Q (.str ⟨(List.replicate k.toNat a.cps).foldl (· ++ ·) #[]⟩) H
theorem op_mulS {X : Cx} : OpR X (binaryOp .Mult) rMulS := by
  intro pins s σ H x y v u Q I rx ry h
  obtain ⟨a, k, rfl, rfl, k0, k1, l0, l1, hz, q⟩ := h
  obtain ⟨t, rfl⟩ := rx
  obtain ⟨t2, rfl⟩ := ry
  have n1 : ¬ k < 1 := by omega
  have n2 : (k == 1 || a.length == 0) = false := by
    rw [Bool.or_eq_false_iff]
    exact ⟨by simp; omega, by simp; omega⟩
  refine PySem.P.mul_str ?_ (fun _ _ => ?_) (fun _ _ => ?_) ?_
  · rw [Bool.or_eq_false_iff]
    exact ⟨by simp; omega, by simp; omega⟩
  · have h3 : (2 ^ 63 - 1 : Int) / 1000 ≤ (2 ^ 63 - 1) / k := by
      rw [Int.le_ediv_iff_mul_le (by omega)]
      have : (2 ^ 63 - 1 : Int) / 1000 * k ≤ (2 ^ 63 - 1 : Int) / 1000 * 1000 := Int.mul_le_mul_of_nonneg_left k1 (by decide)
      omega
    have h4 : ((a.length : Nat) : Int) ≤ 1000 := by omega
    have h5 : (1000 : Int) ≤ (2 ^ 63 - 1) / 1000 := by decide
    omega
  · have : a.length * k.toNat ≤ 1000 * 1000 := Nat.mul_le_mul l1 (by omega)
    unfold PySem.Builtin.Str.tooLong
    rw [decide_eq_false]
    rw [sizeLine_eq]
    omega
  · rw [if_neg n1, n2, if_neg (by decide)]
    exact ⟨hz, ⟨.str _, H, I.tok _, ⟨_, rfl⟩, q⟩⟩
def IsBl (L : List V) : HR := fun v G' => ∃ p, v = .ref p ∧ G' p = some (.lst L)
instance (L) : Mon (IsBl L) := ⟨fun s ⟨p, e, h⟩ => ⟨p, e, s _ _ h⟩⟩
end L2.DS
/-! Lists told thing by thing; comprehensions of two loops, over pairs. -/
namespace L2.DS
open PySem PySem.Spec PyProof.Rows
section
variable {α : Type} {R : α → HR}
/-- one thing behind the other, as R tells each -/
def RL (R : α → HR) : List α → HRs
  | [] => RNil
  | a :: r => RCons (R a) (RL R r)
theorem rl_mon [∀ a, Mon (R a)] : ∀ {ss : List α} {vs : List V} {G G' : Hp}, Same G G' → RL R ss vs G → RL R ss vs G'
  | [], _, _, _, _, h => h
  | s :: r, _, _, _, t, ⟨v, w, e, h, h'⟩ => ⟨v, w, e, Mon.mon t h, rl_mon t h'⟩
instance [∀ a, Mon (R a)] (ss : List α) : Mons (RL R ss) := ⟨rl_mon⟩
theorem rl_len : ∀ {ss : List α} {vs : List V} {G : Hp}, RL R ss vs G → vs.length = ss.length
  | [], _, _, h => by rw [show _ = [] from h]; rfl
  | s :: r, _, _, ⟨v, w, e, _, h⟩ => by rw [e, List.length_cons, List.length_cons, rl_len h]
theorem rl_app : ∀ {ss ts : List α} {vs ws : List V} {G : Hp}, RL R ss vs G → RL R ts ws G → RL R (ss ++ ts) (vs ++ ws) G
  | [], _, _, _, _, h, h' => by
    obtain rfl := (show _ = [] from h)
    exact h'
  | s :: r, _, _, _, _, ⟨v, w, e, a, b⟩, h' => ⟨v, w ++ _, by rw [e]; rfl, a, rl_app b h'⟩
theorem rl_one {a : α} {v : V} {G : Hp} (h : R a v G) : RL R [a] [v] G := ⟨v, [], rfl, h, rfl⟩
theorem rl_get : ∀ {ss : List α} {vs : List V} {G : Hp} {i : Nat} {s : α}, RL R ss vs G → ss[i]? = some s → ∃ v, vs[i]? = some v ∧ R s v G
  | [], _, _, i, s, _, e => by simp at e
  | t :: r, _, _, 0, s, ⟨v, w, e, a, b⟩, h => by
    cases h
    exact ⟨v, by rw [e]; rfl, a⟩
  | t :: r, _, _, i + 1, s, ⟨v, w, e, a, b⟩, h => by
    obtain ⟨u, h1, h2⟩ := rl_get (i := i) b h
    exact ⟨u, by rw [e]; exact h1, h2⟩
theorem rl_vals {g : α → V} : ∀ {ss : List α} {vs : List V} {G : Hp}, RL (fun a => IsV (g a)) ss vs G → vs = ss.map g
  | [], _, _, h => h
  | s :: r, _, _, ⟨v, w, e, a, b⟩ => by rw [e, show v = g s from a, rl_vals b]; rfl
/-- a list newly made -/
def IsNX (F : Hp) (RA : HRs) : HR := fun v G => ∃ p xs, v = .ref p ∧ F p = none ∧ G p = some (.lst xs) ∧ RA xs G
instance (F RA) [Mons RA] : Mon (IsNX F RA) := ⟨fun s ⟨p, xs, e, f, h, r⟩ => ⟨p, xs, e, f, s _ _ h, Mons.mon s r⟩⟩
/-- the list at D grows -/
def LcQ (S : SR) (G2 H2 : Hp) (n : Nat) (D : Addr) (R : α → HR) (ss : List α) (J : Hp) : Prop := ∃ G3 acc, Stp S n G2 H2 G3 J ∧ G3 D = none ∧ J D = some (.lst acc) ∧ RL R ss acc G3
variable {S : SR} {n k c1 : Nat} {te el : TE} {σ : L2.St} {G : Hp} {K : PySem.W.Frag}
theorem lcq_start (st : Stab S) {G2 H2 : Hp} {D : Addr} (a : S n G2 H2) (hD : H2 D = none) : LcQ S G2 H2 n D R [] (upd H2 D (.lst [])) := by
  have gD : G2 D = none := (st.sub a).free hD
  exact ⟨G2, [], ⟨Same.refl _, kp_new (Kp.refl H2) hD, st.chg a hD a gD, fun _ _ h => .inl h⟩, gD, upd_same, rfl⟩
theorem lcq_end (st : Stab S) [∀ a, Mon (R a)] {G1 H1 G2 H2 H : Hp} {D : Addr} {ss : List α} {Q : VK} (a : Stp S n G1 H1 G2 H2) (hD : H2 D = none) (h : LcQ S G2 H2 n D R ss H)
    (q : ∀ v G' H', Stp S n G1 H1 G' H' → IsNX G1 (RL R ss) v G' → Q v H') : Q (.ref D) H := by
  obtain ⟨G3, acc, s3, c, d, r⟩ := h
  have t := a.trans s3
  have g4 : Same G3 (upd G3 D (.lst acc)) := fun y o z => by
    rw [upd_ne (ne_of_none z c)]
    exact z
  refine q (.ref D) _ H ⟨t.g.trans g4, t.k, st.pub a.s hD s3.s c d, fun b o e => ?_⟩ ⟨D, acc, rfl, t.g.free c, upd_same, rl_mon g4 r⟩
  by_cases hb : b = D
  · rw [hb]
    exact .inr (a.k.v D hD)
  · rw [upd_ne hb] at e
    exact t.n b o e
/-- one more thing -/
theorem lcq_step (st : Stab S) [∀ a, Mon (R a)] {G2 H2 J : Hp} {D : Addr} {ss : List α} {x : α} {Nx : Hp → Prop} (a : S n G2 H2) (hD : H2 D = none) (h : LcQ S G2 H2 n D R ss J) (hl : ss.length < 100000)
    (hs : ∀ G', Same G2 G' → Ev S n 0 el σ G' (R x)) (hN : ∀ J', LcQ S G2 H2 n D R (ss ++ [x]) J' → Nx J') :
    el σ J fun y H4 => ∃ acc, H4 D = some (.lst acc) ∧ acc.length < sizeLine ∧ Nx (upd H4 D (.lst (acc ++ [y]))) := by
  obtain ⟨G3, acc, s3, c, d, r⟩ := h
  refine hs G3 s3.g G3 J (Same.refl _) s3.s _ fun y G4 J4 s4 ry => ?_
  have d4 : J4 D = some (.lst acc) := s4.k.k D _ (st.fre a hD) d
  have c4 : G4 D = none := by
    cases e : G4 D with
    | none => rfl
    | some o =>
      rcases s4.n D o e with q | q
      · rw [c] at q
        cases q
      · rw [d] at q
        cases q
  have t : Stp S n G2 H2 G4 J4 := s3.trans s4
  have ll := rl_len r
  refine ⟨acc, d4, Nat.lt_of_lt_of_le (show acc.length < 100000 by omega) (by decide), hN _ ⟨G4, acc ++ [y], ⟨t.g, kp_new t.k hD, st.chg a hD t.s c4, t.n⟩, c4, upd_same, rl_app (rl_mon s4.g r) (rl_one ry)⟩⟩
theorem lcq_move (st : Stab S) [∀ a, Mon (R a)] {G2 H2 J G3 G4 H4 : Hp} {D : Addr} {ss : List α} {acc : List V} (a : S n G2 H2) (hD : H2 D = none) (s3 : Stp S n G2 H2 G3 J) (c : G3 D = none) (d : J D = some (.lst acc)) (r : RL R ss acc G3) (s4 : Stp S n G3 J G4 H4) : LcQ S G2 H2 n D R ss H4 := by
  have c4 : G4 D = none := by
    cases e : G4 D with
    | none => rfl
    | some o =>
      rcases s4.n D o e with q | q
      · rw [c] at q
        cases q
      · rw [d] at q
        cases q
  exact ⟨G4, acc, s3.trans s4, c4, s4.k.k D _ (st.fre a hD) d, rl_mon s4.g r⟩
/-- [el for x in xs], any target -/
theorem ev_lcG (st : Stab S) [∀ a, Mon (R a)] {g : TG} {vs : List Nat} {p : Addr} {xs : List V} {ss : List α} {σf : Nat → L2.St} (e : Ev S n k te σ G (IsV (.ref p))) (hq : SqL K G p xs) (hx : xs.length = ss.length) (hl : xs.length ≤ 100000)
    (hg : ∀ j x G' J, xs[j]? = some x → Same G G' → Same G' J → ∀ Q : L2.St → Hp → Prop, Q (σf j) J → g x (wipe σ vs) J Q) (hw : ∀ j, wipe (σf j) vs = wipe σ vs)
    (hs : ∀ j x s G', xs[j]? = some x → ss[j]? = some s → Same G G' → Ev S (n + k) 0 el (σf j) G' (R s)) : Ev S n k (tLc (iList K te) g tYes el vs) σ G (IsNX G (RL R ss)) := fun G1 H1 s0 s Q q =>
  e G1 H1 s0 s _ fun v G2 H2 s2 ev => ⟨p, ev, ⟨xs, Same.seq (s0.trans (s2.g.trans (st.sub s2.s))) hq⟩, fun D hD =>
    lc_list (K := K) (a := p) (xs := xs) (fun j J => j ≤ xs.length ∧ LcQ S G2 H2 (n + k) D R (ss.take j) J) ⟨Nat.zero_le _, lcq_start st s2.s hD⟩ (fun j J _ ⟨_, G3, acc, a, _⟩ => ((s0.trans s2.g).trans (a.g.trans (st.sub a.s))).seq hq)
      (fun j x J hx' ⟨_, h⟩ => by
        have hj : j < xs.length := (List.getElem?_eq_some_iff.mp hx').1
        obtain ⟨G3, acc, a, b⟩ := id h
        refine hg j x G3 J hx' ((s0.trans s2.g).trans a.g) (st.sub a.s) _ ⟨hw j, tYes_run (iteT ?_)⟩
        have hsj : ss[j]? = some ss[j] := List.getElem?_eq_getElem (by omega)
        refine lcq_step (x := ss[j]) (Nx := fun J => j + 1 ≤ xs.length ∧ LcQ S G2 H2 (n + k) D R (ss.take (j + 1)) J) st s2.s hD h (by rw [List.length_take]; omega) (fun G' g' => hs j x _ G' hx' hsj ((s0.trans s2.g).trans g')) fun J' h' => ⟨hj, ?_⟩
        rw [List.take_succ_eq_append_getElem (by omega)]
        exact h')
      fun J ⟨_, h⟩ => by
        rw [hx, List.take_length] at h
        exact lcq_end st s2 hD h fun v G' H' a ⟨p, xs, e, f, r⟩ => q v G' H' a ⟨p, xs, e, s0.free f, r⟩⟩
end
end L2.DS
/-! Scales of spans. -/
namespace L2.DS
open PySem PySem.Spec PyProof.Rows
/-- the tuple of two whole numbers -/
def IsPr (s : Int × Int) : HR := fun v G => ∃ p, v = .ref p ∧ G p = some (.tup [.int s.1, .int s.2])
instance (s) : Mon (IsPr s) := ⟨fun t ⟨p, e, h⟩ => ⟨p, e, t _ _ h⟩⟩
def spansL (m : Nat) : List (Int × Int) := (List.range (m + 1)).flatMap fun a => (List.range (((m : Int) + 1) - (a : Nat)).toNat).map fun t => (((a : Nat) : Int), ((a : Nat) : Int) + (t : Nat))
def scut (m : Int) (a b : Int × Int) : Int × Int := (if a.1 + b.1 > m then m else a.1 + b.1, if a.2 + b.2 > m then m else a.2 + b.2)
def seit (a b : Int × Int) : Int × Int := (if a.1 < b.1 then a.1 else b.1, if a.2 > b.2 then a.2 else b.2)
/-- the place of a span behind never -/
def spl (m : Nat) (s : Int × Int) : Nat := (spansL m).idxOf s + 1
def sth (m : Nat) (a b : Nat) : Int := if a = 0 ∨ b = 0 then 0 else (spl m (scut m ((spansL m).getD (a - 1) (0, 0)) ((spansL m).getD (b - 1) (0, 0))) : Nat)
def sjn (m : Nat) (a b : Nat) : Int := if a = 0 ∨ b = 0 then (a : Int) + b else (spl m (seit ((spansL m).getD (a - 1) (0, 0)) ((spansL m).getD (b - 1) (0, 0))) : Nat)
def sword (m : Int) (s : Int × Int) : Str := (cword m s.1 ++ ("to" : Str)) ++ cword m s.2
def swords (m : Nat) : List Str := (spansL m).map (sword (m : Nat))
def slabel (m : Int) : Str := (("(span " : Str) ++ (toString m : Str)) ++ (")" : Str)
end L2.DS
/-! Growing lists told thing by thing; loops with free invariants; l.index. -/
namespace L2.DS
open PySem PySem.Spec PyProof.Rows
section
variable {α : Type} {R : α → HR} {S : SR} {n n0 k : Nat} {te : TE} {t : TA} {tb u : TS} {σ : L2.St} {G H G1 H1 J : Hp} {nx bk ct : L2.St → Hp → Prop} {rt : VK} {i j : Nat} {K : PySem.W.Frag} {D p : Addr} {ss : List α} {x : α} {xs : List V}
/-- x = [..], a list that shall grow -/
theorem q_newX (st : Stab S) [∀ a, Mon (R a)] (s : S n G H) (e : EvA S n k t σ G (RL R ss)) (hl : ss.length ≤ 100000)
    (h : ∀ D G1 H1 J, Stp S (n + k) G H G1 H1 → H1 D = none → LcQ S G1 H1 (n + k) D R ss J → u (Ends.mk nx rt bk ct) (σ.set i (some (.ref D))) J) :
    tSeq (tAsg (tLst t) (gName i)) u (Ends.mk nx rt bk ct) σ H := e G H (Same.refl _) s _ fun ws G1 H1 s1 ev => by
  refine ⟨by rw [rl_len ev]; exact Nat.le_trans hl (by decide), fun D hD => ?_⟩
  have gD : G1 D = none := (st.sub s1.s).free hD
  exact h D G1 H1 _ s1 hD ⟨G1, ws, ⟨Same.refl _, kp_new (Kp.refl H1) hD, st.chg s1.s hD s1.s gD, fun _ _ h => .inl h⟩, gD, upd_same, ev⟩
theorem LcQ.sub (st : Stab S) (h : LcQ S G1 H1 n D R ss J) : ∃ G3, Same G1 G3 ∧ S n G3 J := by
  obtain ⟨G3, acc, s3, _⟩ := h
  exact ⟨G3, s3.g, s3.s⟩
/-- the list is done -/
theorem LcQ.pub (st : Stab S) [∀ a, Mon (R a)] (a : S n0 G1 H1) (hn : n0 ≤ n) (hD : H1 D = none) (h : LcQ S G1 H1 n D R ss J) : ∃ G', Stp S n G1 H1 G' J ∧ IsNX G1 (RL R ss) (.ref D) G' :=
  lcq_end (Q := fun v H => ∃ G', Stp S n G1 H1 G' H ∧ IsNX G1 (RL R ss) v G') st (Stp.refl (st.wk a hn)) hD h fun v G' H' s r => ⟨G', s, r⟩
/-- for x in range(m), any invariant -/
theorem q_forI1 {m : Int} {ta : TA} (s : S n G H) (e : EvA S n k ta σ G (IsVs [.int m])) (h1 : -(2 ^ 62) ≤ m) (h2 : m < 2 ^ 62) (Pv : Nat → L2.St → Hp → Prop) (h0 : ∀ G' H', Stp S (n + k) G H G' H' → Pv 0 σ H')
    (hs : ∀ (j : Nat) σ' J, (j : Int) < m → Pv j σ' J → tb (Ends.mk (Pv (j + 1)) rt (u (Ends.mk nx rt bk ct)) (Pv (j + 1))) (σ'.set i (some (.int j))) J)
    (hd : ∀ σ' J, Pv m.toNat σ' J → u (Ends.mk nx rt bk ct) σ' J) : tSeq (tFor (iRng1 ta) (gName i) tb) u (Ends.mk nx rt bk ct) σ H := by
  refine e G H (Same.refl _) s _ fun v G1 H1 s1 ev => ⟨m, ev, h1, h2, for_range (lo := 0) (n := m.toNat) Pv (h0 _ _ s1) (fun j τ J hx hp => ?_) hd⟩
  show tb _ (τ.set i (some (.int (0 + j)))) J
  rw [Int.zero_add]
  exact hs j τ J (by omega) hp
/-- for x in l -/
theorem q_forIL (st : Stab S) (s : S n G H) (e : Ev S n k te σ G (IsV (.ref p))) (hq : SqL K G p xs) (Pv : Nat → L2.St → Hp → Prop) (hh : ∀ j τ J, Pv j τ J → SqL K J p xs) (h0 : ∀ G' H', Stp S (n + k) G H G' H' → Pv 0 σ H')
    (hs : ∀ (j : Nat) x σ' J, xs[j]? = some x → Pv j σ' J → tb (Ends.mk (Pv (j + 1)) rt (u (Ends.mk nx rt bk ct)) (Pv (j + 1))) (σ'.set i (some x)) J)
    (hd : ∀ σ' J, Pv xs.length σ' J → u (Ends.mk nx rt bk ct) σ' J) : tSeq (tFor (iList K te) (gName i) tb) u (Ends.mk nx rt bk ct) σ H := by
  refine e G H (Same.refl _) s _ fun v G1 H1 s1 ev => ⟨p, ev, ⟨xs, (s1.g.trans (st.sub s1.s)).seq hq⟩, for_list (K := K) (a := p) (xs := xs) Pv (h0 _ _ s1) (fun j τ J _ hp => hh j τ J hp) (fun j x τ J hx hp => ?_) hd⟩
  exact hs j x τ J hx hp
theorem v_eqD (st : Stab S) {y z : V} {d e : PyData} (h1 : Dp K G y d) (h2 : Dp K G z e) (s1 : SeqAt.shaped d = true) (s2 : SeqAt.shaped e = true) : RV S (rEqA K) y z G (IsV (.bl (PyData.eqv d e))) :=
  rv_r (rv_val (fun H s Q k => ⟨_, _, dp_mon s h1, dp_mon s h2, s1, s2, k⟩) st)
theorem v_neD (st : Stab S) {y z : V} {d e : PyData} (h1 : Dp K G y d) (h2 : Dp K G z e) (s1 : SeqAt.shaped d = true) (s2 : SeqAt.shaped e = true) : RV S (rNeA K) y z G (IsV (.bl (!PyData.eqv d e))) :=
  rv_r (rv_val (fun H s Q k => ⟨_, _, dp_mon s h1, dp_mon s h2, s1, s2, k⟩) st)
end
end L2.DS
/-! Spans as the law tells them: lists, the empty one is never. -/
namespace L2.DS
open PySem PySem.Spec PyProof.Rows
abbrev OS := Option (Int × Int)
def lsv : OS → List V
  | none => [] | some s => [.int s.1, .int s.2]
def IsLs (o : OS) : HR := fun v G => ∃ p, v = .ref p ∧ G p = some (.lst (lsv o))
instance (o) : Mon (IsLs o) := ⟨fun t ⟨p, e, h⟩ => ⟨p, e, t _ _ h⟩⟩
end L2.DS
/-! A scale of any family, made and asked. -/
namespace L2.DS
open PySem PySem.Spec PyProof.Rows
def metF : List Str := ["then_at", "join_at", "within_at", "name_at", "at_name"]
/-- a scale of the class at C stands at x -/
def ScC (C x : Addr) (label : Str) (names : List Str) (nv sl dep : Int) (th jn : Nat → Nat → Int) (G : Hp) : Prop := ∃ dx fs, G x = some (.ins C dx fs) ∧ ScIs label names nv sl dep th jn fs G ∧ ∀ f ∈ metF, fs.lookup f = none
section
variable {C x : Addr} {label : Str} {names : List Str} {nv sl dep : Int} {th jn : Nat → Nat → Int} {G G' : Hp} {K : PySem.W.Frag}
theorem ScC.mono (h : ScC C x label names nv sl dep th jn G) (s : Same G G') : ScC C x label names nv sl dep th jn G' :=
  let ⟨dx, fs, a, b, c⟩ := h
  ⟨dx, fs, s _ _ a, b.mono s, c⟩
theorem ScC.of {R : OR} {v : V} (h : IsO C R v G) (i : ∀ a b fs' G', R a b fs' G' → ScIs label names nv sl dep th jn fs' G' ∧ ∀ f ∈ metF, fs'.lookup f = none) : ∃ x, v = .ref x ∧ ScC C x label names nv sl dep th jn G := by
  obtain ⟨x, dx, fs, G', rfl, gx, s, a⟩ := h
  have s' : Same G' G := fun c o e => s c o (by rw [upd_ne (ne_of_none e gx)]; exact e)
  obtain ⟨b, c⟩ := i _ _ _ _ a
  exact ⟨x, rfl, dx, fs, s _ _ upd_same, b.mono s', c⟩
variable {S : SR} {n k ka kb : Nat} {ta tb : TE} {σ : L2.St} {i : Nat} {P : Program} {w : World} {mg : Str → Option Value} {base : Heap}
end
end L2.DS
/-! Loops whose turns leave the heap; comprehensions with tests; readings of several kinds; bits. -/
namespace L2.DS
open PySem PySem.Spec PyProof.Rows
section
variable {α : Type} {R : α → HR} {S : SR} {n n0 k c1 : Nat} {te el : TE} {tt : TT} {t ta : TA} {tb u : TS} {σ : L2.St} {G H G1 H1 J : Hp} {nx bk ct : L2.St → Hp → Prop} {rt : VK} {i j : Nat} {K : PySem.W.Frag} {D p : Addr} {ss : List α} {x : α} {xs : List V} {vs : List Nat} {g : TG}
theorem et_yes : EvT S n 0 tYes σ G (fun c => c = true) := fun G1 H1 _ s Q q => tYes_run (q true G1 H1 (Stp.refl s) rfl)
theorem Stp.go {H' : Hp} (a : Stp S n0 G H G J) (k : Kp S J H') (s : S n G H') : Stp S n G H G H' := ⟨Same.refl _, a.k.trans k, s, fun _ _ h => .inl h⟩
theorem Stp.go0 {H' : Hp} (k : Kp S H H') (s : S n G H') : Stp S n G H G H' := ⟨Same.refl _, k, s, fun _ _ h => .inl h⟩
/-- for x in range(m): the turns change locals alone -/
theorem q_forP {m : Int} (st : Stab S) (s : S n G H) (e : EvA S n k ta σ G (IsVs [.int m])) (h1 : -(2 ^ 62) ≤ m) (h2 : m < 2 ^ 62) (Pv : Nat → L2.St → Prop) (h0 : Pv 0 σ)
    (hs : ∀ (j : Nat) σ' J, (j : Int) < m → Pv j σ' → Stp S (n + k) G H G J → tb (Ends.mk (fun τ J => Pv (j + 1) τ ∧ Stp S (n + k) G H G J) rt (u (Ends.mk nx rt bk ct)) (fun τ J => Pv (j + 1) τ ∧ Stp S (n + k) G H G J)) (σ'.set i (some (.int j))) J)
    (hd : ∀ σ' J, Pv m.toNat σ' → Stp S (n + k) G H G J → u (Ends.mk nx rt bk ct) σ' J) : tSeq (tFor (iRng1 ta) (gName i) tb) u (Ends.mk nx rt bk ct) σ H := by
  refine e G H (Same.refl _) s _ fun v G1 H1 s1 ev => ⟨m, ev, h1, h2, for_range (lo := 0) (n := m.toNat) (fun j τ J => Pv j τ ∧ Stp S (n + k) G H G J) ⟨h0, Stp.go0 s1.k (st.anti s s1.s s1.g)⟩ (fun j τ J hx hp => ?_) fun τ J hp => hd τ J hp.1 hp.2⟩
  show tb _ (τ.set i (some (.int (0 + j)))) J
  rw [Int.zero_add]
  exact hs j τ J (by omega) hp.1 hp.2
/-- for .. in xs, any target: the turns change locals alone -/
theorem q_forPL (st : Stab S) (s : S n G H) (e : Ev S n k te σ G (IsV (.ref p))) (hq : SqL K G p xs) (Pv : Nat → L2.St → Prop) (h0 : Pv 0 σ)
    (hs : ∀ (j : Nat) x σ' J, xs[j]? = some x → Pv j σ' → Stp S (n + k) G H G J → g x σ' J fun σ2 J2 => tb (Ends.mk (fun τ J => Pv (j + 1) τ ∧ Stp S (n + k) G H G J) rt (u (Ends.mk nx rt bk ct)) (fun τ J => Pv (j + 1) τ ∧ Stp S (n + k) G H G J)) σ2 J2)
    (hd : ∀ σ' J, Pv xs.length σ' → Stp S (n + k) G H G J → u (Ends.mk nx rt bk ct) σ' J) : tSeq (tFor (iList K te) g tb) u (Ends.mk nx rt bk ct) σ H := by
  refine e G H (Same.refl _) s _ fun v G1 H1 s1 ev => ?_
  have z := st.anti s s1.s s1.g
  refine ⟨p, ev, ⟨xs, Same.seq (st.sub z) hq⟩, for_list (K := K) (a := p) (xs := xs) (fun j τ J => Pv j τ ∧ Stp S (n + k) G H G J) ⟨h0, Stp.go0 s1.k z⟩ (fun j τ J _ hp => (st.sub hp.2.s).seq hq) (fun j x τ J hx hp => hs j x τ J hx hp.1 hp.2) fun τ J hp => hd τ J hp.1 hp.2⟩
/-- a turn of a comprehension with a test -/
theorem lcq_test (st : Stab S) [∀ a, Mon (R a)] {G2 H2 J : Hp} {D : Addr} {ss : List α} {x : α} {b : Bool} {Nx : Hp → Prop} (a : S n G2 H2) (hD : H2 D = none) (h : LcQ S G2 H2 n D R ss J) (hl : ss.length < 100000)
    (ht : ∀ G', Same G2 G' → EvT S n 0 tt σ G' (fun c => c = b)) (hs : b = true → ∀ G', Same G2 G' → Ev S n 0 el σ G' (R x)) (hN : ∀ J', LcQ S G2 H2 n D R (if b then ss ++ [x] else ss) J' → Nx J') :
    tt σ J fun b H3 => if b = true then el σ H3 fun y H4 => ∃ acc, H4 D = some (.lst acc) ∧ acc.length < sizeLine ∧ Nx (upd H4 D (.lst (acc ++ [y]))) else Nx H3 := by
  obtain ⟨G3, acc, s3, c, d, r⟩ := id h
  refine ht G3 s3.g G3 J (Same.refl _) s3.s _ fun c' G4 H4 s4 e => ?_
  have e : c' = b := e
  subst e
  have h4 : LcQ S G2 H2 n D R ss H4 := lcq_move st a hD s3 c d r s4
  cases c' with
  | true => exact iteT (lcq_step st a hD h4 hl (hs rfl) hN)
  | false => exact iteF (hN _ h4)
theorem filt_step {b : Nat → Bool} {sj : Nat → α} (j : Nat) : ((List.range (j + 1)).filter b).map sj = if b j then ((List.range j).filter b).map sj ++ [sj j] else ((List.range j).filter b).map sj := by
  rw [List.range_succ, List.filter_append, List.map_append]
  by_cases h : b j
  · rw [if_pos h, List.filter_cons_of_pos h]
    rfl
  · rw [if_neg h, List.filter_cons_of_neg h]
    simp
theorem filt_len {b : Nat → Bool} {sj : Nat → α} (j : Nat) : (((List.range j).filter b).map sj).length ≤ j := by
  rw [List.length_map]
  have := List.length_filter_le b (List.range j)
  rw [List.length_range] at this
  exact this
/-- [el for .. in xs if tt], any target -/
theorem ev_lcF (st : Stab S) [∀ a, Mon (R a)] {b : Nat → Bool} {sj : Nat → α} {σf : Nat → L2.St} (e : Ev S n k te σ G (IsV (.ref p))) (hq : SqL K G p xs) (hl : xs.length ≤ 100000)
    (hg : ∀ j x G' J, xs[j]? = some x → Same G G' → Same G' J → ∀ Q : L2.St → Hp → Prop, Q (σf j) J → g x (wipe σ vs) J Q) (hw : ∀ j, wipe (σf j) vs = wipe σ vs)
    (ht : ∀ j x G', xs[j]? = some x → Same G G' → EvT S (n + k) 0 tt (σf j) G' (fun c => c = b j))
    (hs : ∀ j x G', xs[j]? = some x → b j = true → Same G G' → Ev S (n + k) 0 el (σf j) G' (R (sj j))) : Ev S n k (tLc (iList K te) g tt el vs) σ G (IsNX G (RL R (((List.range xs.length).filter b).map sj))) := fun G1 H1 s0 s Q q =>
  e G1 H1 s0 s _ fun v G2 H2 s2 ev => ⟨p, ev, ⟨xs, Same.seq (s0.trans (s2.g.trans (st.sub s2.s))) hq⟩, fun D hD =>
    lc_list (K := K) (a := p) (xs := xs) (fun j J => LcQ S G2 H2 (n + k) D R (((List.range j).filter b).map sj) J) (lcq_start st s2.s hD) (fun j J _ ⟨G3, acc, a, _⟩ => ((s0.trans s2.g).trans (a.g.trans (st.sub a.s))).seq hq)
      (fun j x J hx' h => by
        have hj : j < xs.length := (List.getElem?_eq_some_iff.mp hx').1
        obtain ⟨G3, acc, a, _⟩ := id h
        refine hg j x G3 J hx' ((s0.trans s2.g).trans a.g) (st.sub a.s) _ ⟨hw j, ?_⟩
        have hll := filt_len (b := b) (sj := sj) j
        refine lcq_test (b := b j) (x := sj j) (Nx := fun J => LcQ S G2 H2 (n + k) D R (((List.range (j + 1)).filter b).map sj) J) st s2.s hD h (by omega) (fun G' g' => ht j x G' hx' ((s0.trans s2.g).trans g')) (fun hb G' g' => hs j x G' hx' hb ((s0.trans s2.g).trans g')) fun J' h' => ?_
        rw [filt_step]
        exact h')
      fun J h => by
        refine lcq_end st s2 hD h fun v G' H' s' r => q v G' H' s' ?_
        obtain ⟨p', ys, e1, e2, e3, e4⟩ := r
        exact ⟨p', ys, e1, s0.free e2, e3, e4⟩⟩
/-- [el for x in range(m) if tt] -/
theorem ev_lcFR (st : Stab S) [∀ a, Mon (R a)] {m : Int} {b : Nat → Bool} {sj : Nat → α} {σf : Nat → L2.St} (e : EvA S n k ta σ G (IsVs [.int m])) (h1 : -(2 ^ 62) ≤ m) (hl : m ≤ 100000)
    (hg : ∀ j J, ∀ Q : L2.St → Hp → Prop, Q (σf j) J → g (.int (j : Nat)) (wipe σ vs) J Q) (hw : ∀ j, wipe (σf j) vs = wipe σ vs)
    (ht : ∀ (j : Nat) G', (j : Int) < m → Same G G' → EvT S (n + k) 0 tt (σf j) G' (fun c => c = b j))
    (hs : ∀ (j : Nat) G', (j : Int) < m → b j = true → Same G G' → Ev S (n + k) 0 el (σf j) G' (R (sj j))) : Ev S n k (tLc (iRng1 ta) g tt el vs) σ G (IsNX G (RL R (((List.range m.toNat).filter b).map sj))) := fun G1 H1 s0 s Q q =>
  e G1 H1 s0 s _ fun v G2 H2 s2 ev => ⟨m, ev, h1, by omega, fun D hD =>
    lc_range (lo := 0) (n := m.toNat) (fun j J => LcQ S G2 H2 (n + k) D R (((List.range j).filter b).map sj) J) (lcq_start st s2.s hD)
      (fun j J hx' h => by
        show g (.int (0 + (j : Nat))) _ _ _
        rw [Int.zero_add]
        refine hg j J _ ⟨hw j, ?_⟩
        have hll := filt_len (b := b) (sj := sj) j
        refine lcq_test (b := b j) (x := sj j) (Nx := fun J => LcQ S G2 H2 (n + k) D R (((List.range (j + 1)).filter b).map sj) J) st s2.s hD h (by omega) (fun G' g' => ht j G' (by omega) ((s0.trans s2.g).trans g')) (fun hb G' g' => hs j G' (by omega) hb ((s0.trans s2.g).trans g')) fun J' h' => ?_
        rw [filt_step]
        exact h')
      fun J h => by
        refine lcq_end st s2 hD h fun v G' H' s' r => q v G' H' s' ?_
        obtain ⟨p', ys, e1, e2, e3, e4⟩ := r
        exact ⟨p', ys, e1, s0.free e2, e3, e4⟩⟩
/-- values alone -/
theorem isNX_V {F : Hp} {f : α → V} {v : V} (h : IsNX F (RL (fun a => IsV (f a)) ss) v G) : IsNew F (.lst (ss.map f)) v G := by
  obtain ⟨p, xs, e, a, b, r⟩ := h
  rw [rl_vals r] at b
  exact ⟨p, e, a, b⟩
theorem filt_true {m : Nat} {sj : Nat → α} : ((List.range m).filter fun _ => true).map sj = (List.range m).map sj := by
  rw [List.filter_eq_self.mpr fun _ _ => rfl]
/-- [el for x in range(m)], values -/
theorem ev_lcV (st : Stab S) {m : Int} {f : Nat → V} (e : EvA S n k ta σ G (IsVs [.int m])) (h1 : -(2 ^ 62) ≤ m) (hl : m ≤ 100000) (hw : ∀ x : V, wipe ((wipe σ vs).set i (some x)) vs = wipe σ vs)
    (hs : ∀ (j : Nat) G', (j : Int) < m → Same G G' → Ev S (n + k) 0 el ((wipe σ vs).set i (some (.int j))) G' (IsV (f j))) : Ev S n k (tLc (iRng1 ta) (gName i) tYes el vs) σ G (IsNew G (.lst ((List.range m.toNat).map f))) := by
  refine (ev_lcFR (R := fun v : V => IsV v) (b := fun _ => true) (sj := f) (σf := fun j => (wipe σ vs).set i (some (.int j))) st e h1 hl (fun j J Q q => q) (fun j => hw _) (fun j G' _ _ => et_yes) (fun j G' hj _ s' => hs j G' hj s')).imp fun v G' _ h => ?_
  rw [filt_true] at h
  have z := isNX_V (f := fun v : V => v) h
  rw [List.map_id'] at z
  exact z
/-- [el for x in xs], values -/
theorem ev_lcVL (st : Stab S) {f : V → V} (e : Ev S n k te σ G (IsV (.ref p))) (hq : SqL K G p xs) (hl : xs.length ≤ 100000) (hw : ∀ x : V, wipe ((wipe σ vs).set i (some x)) vs = wipe σ vs)
    (hs : ∀ (j : Nat) x G', xs[j]? = some x → Same G G' → Ev S (n + k) 0 el ((wipe σ vs).set i (some x)) G' (IsV (f x))) : Ev S n k (tLc (iList K te) (gName i) tYes el vs) σ G (IsNew G (.lst (xs.map f))) := by
  refine (ev_lcF (R := fun v : V => IsV v) (b := fun _ => true) (sj := fun j => f (xs.getD j .non)) (σf := fun j => (wipe σ vs).set i (some (xs.getD j .non))) st e hq hl (fun j x G' J hx _ _ Q q => ?_) (fun j => hw _) (fun j x G' _ _ => et_yes) (fun j x G' hx _ s' => ?_)).imp fun v G' _ h => ?_
  · have e : xs.getD j .non = x := by rw [List.getD_eq_getElem?_getD, hx]; rfl
    rw [e] at q
    exact q
  · have e : xs.getD j .non = x := by rw [List.getD_eq_getElem?_getD, hx]; rfl
    rw [e]
    exact hs j x G' hx s'
  · rw [filt_true] at h
    have z := isNX_V (f := fun v : V => v) h
    rw [List.map_id'] at z
    have e : (List.range xs.length).map (fun j => f (xs.getD j .non)) = xs.map f := by
      refine List.ext_getElem? fun j => ?_
      rw [List.getElem?_map, List.getElem?_map]
      by_cases hj : j < xs.length
      · rw [List.getElem?_range hj, List.getElem?_eq_getElem hj]
        show some (f (xs.getD j .non)) = _
        rw [List.getD_eq_getElem?_getD, List.getElem?_eq_getElem hj]
        rfl
      · rw [List.getElem?_eq_none (by rw [List.length_range]; omega), List.getElem?_eq_none (by omega)]
        rfl
    rw [e] at z
    exact z
theorem ev_eq {y z : V} (h : y = z) (e : Ev S n k te σ G (IsV y)) : Ev S n k te σ G (IsV z) := h ▸ e
theorem map_get {β : Type} {f : α → β} {xs : List α} {j : Nat} {y : β} (h : (xs.map f)[j]? = some y) : ∃ hj : j < xs.length, y = f xs[j] := by
  rw [List.getElem?_map] at h
  cases e : xs[j]? with
  | none => rw [e] at h; cases h
  | some x =>
    rw [e] at h
    obtain ⟨hj, hx⟩ := List.getElem?_eq_some_iff.mp e
    exact ⟨hj, by rw [hx]; exact (Option.some.inj h).symm⟩
end
/-! ### readings of one of two kinds -/
def spE (a b : Sp) : Sp := fun vs H Q E => a vs H Q E ∨ b vs H Q E
theorem fnOk_either {P : Program} {w : World} {K : PySem.W.Frag} {mg : Str → Option Value} {base : Heap} {CX : CXT} {k : Nat} {f : Addr} {fd : FuncData} {ps : List Str} {sp1 sp2 : Sp} (F1 : FnOk P w K mg base CX k f fd ps sp1) (F2 : FnOk P w K mg base CX k f fd ps sp2) : FnOk P w K mg base CX k f fd ps (spE sp1 sp2) :=
  ⟨fun vs H Q E q => q.elim (F1.len vs H Q E) (F2.len vs H Q E), fun A outer s H args us vs Q E hr he hb hv q => q.elim (F1.run A outer s H args us vs Q E hr he hb hv) (F2.run A outer s H args us vs Q E hr he hb hv)⟩
/-! ### bits -/
/-! ### str.join -/
def rJoinK (K : PySem.W.Frag) : V → List V → Hp → VK → Prop := fun x xs H Q => ∃ a p, ∃ ys : List Str, x = .str a ∧ xs = [.ref p] ∧ (SqL K H p (ys.map V.str) ∨ SqT K H p (ys.map V.str)) ∧ (ys.map (·.length)).sum + ys.length * a.length ≤ 16777216 ∧ Q (.str (Txt.join a ys)) H
theorem pe_joinK {X : Cx} (K : PySem.W.Frag) {o e : Expr} {to te : TE} {apos pos : Pos} (ho : PE X o to) (he : PE X e te) (hs : starEach [e] X.env = [(false, eval e X.env)] := by rfl) (hbase : attributeBase o "join" X.env (eval o X.env) = eval o X.env := by rfl) (hline : (apos.endLine == pos.line) = true := by rfl) (hK : X.K = K := by rfl) :
    PE X (.Call (.Attribute o "join" apos) [e] [] pos) (tM1 (rJoinK K) to te) := by
  subst hK
  exact pe_join ho he hs hbase hline
section
variable {S : SR} {n k ka kb : Nat} {to te : TE} {σ : L2.St} {K : PySem.W.Frag} {G : Hp} {a : Str} {ys : List Str}
theorem ev_join (st : Stab S) (ho : Ev S n ka to σ G (IsV (.str a))) (he : Ev S (n + ka) kb te σ G (IsL K (ys.map V.str))) (hl : (ys.map (·.length)).sum + ys.length * a.length ≤ 16777216) : Ev S n (ka + kb) (tM1 (rJoinK K) to te) σ G (IsV (.str (Txt.join a ys))) := fun G1 H1 s0 s Q q =>
  ho G1 H1 s0 s _ fun v G2 H2 s2 e => ⟨⟨a, e⟩, he G2 H2 (s0.trans s2.g) s2.s _ fun w G3 H3 s3 ⟨p, e', hp⟩ => by
    obtain rfl : v = _ := e
    subst e'
    exact ⟨a, p, ys, rfl, rfl, .inl ((st.sub s3.s).seq hp), hl, q _ G3 H3 (s2.trans s3).up rfl⟩⟩
end
/-- a scale of the class at C -/
def IsSc (C : Addr) (label : Str) (names : List Str) (nv sl dep : Int) (th jn : Nat → Nat → Int) : HR := fun v G => ∃ x, v = .ref x ∧ ScC C x label names nv sl dep th jn G
instance (C label names nv sl dep th jn) : Mon (IsSc C label names nv sl dep th jn) := ⟨fun s ⟨x, e, h⟩ => ⟨x, e, h.mono s⟩⟩
end L2.DS
/-! Scales of sets and of relations; bits as the law tells them. -/
namespace L2.DS
open PySem PySem.Spec PyProof.Rows
/-- digits_of(number, width) -/
def digs : Nat → Int → Str
  | 0, _ => ("" : Str)
  | w + 1, n => (toString (Builtin.bitAnd (n / 2 ^ w) 1) : Str) ++ digs w n
def joinS (may : Bool) : Str := if may then "may" else "must"
/-- scales of sets -/
def tth (a b : Nat) : Int := if a = 0 ∨ b = 0 then 0 else Builtin.bitOr ((a : Int) - 1) ((b : Int) - 1) + 1
def teit (may : Bool) (x y : Int) : Int := if may then Builtin.bitOr x y else Builtin.bitAnd x y
def tjn (may : Bool) (a b : Nat) : Int := if a = 0 ∨ b = 0 then (a : Int) + b else teit may ((a : Int) - 1) ((b : Int) - 1) + 1
def twords (c : Nat) : List Str := (List.range (2 ^ c)).map fun i => digs c (i : Nat)
def tlabel (c : Int) (may : Bool) : Str := (((("(set " : Str) ++ (toString c : Str)) ++ (" " : Str)) ++ joinS may) ++ (")" : Str)
/-! scales of relations -/
def arr (s : Nat) (p : Int) : List (Int × Int) := ((List.range (s * s)).filter fun c => decide (Builtin.bitAnd (p / 2 ^ (((s : Int) * s - 1 - (c : Nat)).toNat)) 1 = 1)).map fun c => (((c : Nat) : Int) / (s : Nat), ((c : Nat) : Int) % (s : Nat))
def wput (s : Nat) (f : Int) (p q : Int × Int) : Int := if p.2 = q.1 then Builtin.bitOr f (1 * 2 ^ (((s : Int) * s - 1 - p.1 * s - q.2).toNat)) else f
def wth (s a b : Nat) : Int := (arr s a).foldl (fun f p => (arr s b).foldl (fun f q => wput s f p q) f) 0
def wjn (a b : Nat) : Int := Builtin.bitOr (a : Nat) (b : Nat)
def wwords (s : Nat) : List Str := (List.range (2 ^ (s * s))).map fun i => digs (s * s) (i : Nat)
def wstill (s : Nat) : Int := ((List.range s).map fun k => (1 * 2 ^ (((s : Int) * s - 1 - (k : Nat) * ((s : Int) + 1)).toNat) : Int)).sum
def wlabel (s : Int) : Str := (("(watch " : Str) ++ (toString s : Str)) ++ (")" : Str)
/-! the law's own bits -/
def lbits (w : Nat) (n : Nat) : List Int := ((List.range w).map fun k => ((n / 2 ^ k % 2 : Nat) : Int)).reverse
def lnum (ds : List Int) : Int := ds.foldl (fun a d => a * 2 + d) 0
def lset (c : Nat) (may : Bool) (a b : Nat) : Int × Int :=
  if a = 0 ∨ b = 0 then (0, (a : Int) + b) else
    let one := lbits c (a - 1); let other := lbits c (b - 1)
    let union := (List.range c).map fun k => (if decide (0 < one.getD k 0 + other.getD k 0) then 1 else 0 : Int)
    let both := (List.range c).map fun k => one.getD k 0 * other.getD k 0
    (lnum union + 1, lnum (if may then union else both) + 1)
end L2.DS
/-! Tables: texts sign by sign, all and any, dicts of places; lists that are changed behind what stands. -/
namespace L2.DS
open PySem PySem.Spec PyProof.Rows
/-! ### texts -/
theorem lc_str {x : Str} {g : TG} {tt : TT} {te : TE} {vs : List Nat} {σ : L2.St} {H1 : Hp} {D : Addr} {Qd : Hp → Prop} (Pv : Nat → Hp → Prop) (h0 : Pv 0 (upd H1 D (.lst [])))
    (hs : ∀ (i : Nat) c H, x.cps[i]? = some c → Pv i H → g (.str ⟨#[c]⟩) (wipe σ vs) H fun σ2 H2 => wipe σ2 vs = wipe σ vs ∧ tt σ2 H2 fun b H3 =>
      if b = true then te σ2 H3 fun y H4 => ∃ acc, H4 D = some (.lst acc) ∧ acc.length < sizeLine ∧ Pv (i + 1) (upd H4 D (.lst (acc ++ [y]))) else Pv (i + 1) H3) (hd : ∀ H, Pv x.cps.size H → Qd H) :
    ∃ W : Nat → Nat → Hp → Prop, (∃ m, W 0 m (upd H1 D (.lst []))) ∧ ∀ i m H, W i m H →
      ((Its x).stop i H ∧ Qd H) ∨ ((Its x).go i H ∧ ∃ Nx : Hp → Prop, (∀ H', Nx H' → ∃ m', m' < m ∧ W (i + 1) m' H') ∧ ∀ v H', (Its x).yld i H v H' → g v (wipe σ vs) H' fun σ2 H2 => wipe σ2 vs = wipe σ vs ∧ tt σ2 H2 fun b H3 =>
        if b = true then te σ2 H3 fun y H4 => ∃ acc, H4 D = some (.lst acc) ∧ acc.length < sizeLine ∧ Nx (upd H4 D (.lst (acc ++ [y]))) else Nx H3) := by
  refine ⟨fun i m H => m = x.cps.size - i ∧ i ≤ x.cps.size ∧ Pv i H, ⟨x.cps.size, by simp, Nat.zero_le _, h0⟩, ?_⟩
  rintro i m H ⟨rfl, hi, p⟩
  by_cases hlt : i < x.cps.size
  · refine .inr ⟨hlt, Pv (i + 1), fun H' p' => ⟨x.cps.size - (i + 1), by omega, rfl, hlt, p'⟩, fun v H' y => ?_⟩
    obtain ⟨rfl, c, hc, rfl⟩ := y
    exact hs i c _ hc p
  · have e : i = x.cps.size := by omega
    subst e
    exact .inl ⟨Nat.le_refl _, hd H p⟩
section
variable {S : SR} {n k ka kb : Nat} {te el ta : TE} {t : TA} {σ : L2.St} {G : Hp} {K : PySem.W.Frag} {i j : Nat} {z : Str} {vs : List Nat} {p : Addr} {xs : List V}
/-- [el for c in z], values -/
theorem ev_lcS (st : Stab S) {f : Nat → V} (e : Ev S n k te σ G (IsV (.str z))) (hl : z.length ≤ 100000) (hw : ∀ x : V, wipe ((wipe σ vs).set i (some x)) vs = wipe σ vs)
    (hs : ∀ c G', c ∈ z.cps.toList → Same G G' → Ev S (n + k) 0 el ((wipe σ vs).set i (some (.str ⟨#[c]⟩))) G' (IsV (f c))) : Ev S n k (tLc (iStr te) (gName i) tYes el vs) σ G (IsNew G (.lst (z.cps.toList.map f))) := fun G1 H1 s0 s Q q =>
  e G1 H1 s0 s _ fun v G2 H2 s2 ev => ⟨z, ev, fun D hD =>
    lc_str (x := z) (fun j J => LcQ S G2 H2 (n + k) D (fun v : V => IsV v) ((z.cps.toList.take j).map f) J) (lcq_start st s2.s hD)
      (fun j c J hc h => by
        have hj : j < z.cps.size := (Array.getElem?_eq_some_iff.mp hc).1
        have hcl : z.cps.toList[j]? = some c := by rw [Array.getElem?_toList]; exact hc
        refine ⟨hw _, tYes_run (iteT ?_)⟩
        refine lcq_step (x := f c) (Nx := fun J => LcQ S G2 H2 (n + k) D (fun v : V => IsV v) ((z.cps.toList.take (j + 1)).map f) J) st s2.s hD h (by rw [List.length_map, List.length_take]; have : z.cps.toList.length = z.length := rfl; have : z.cps.size = z.length := rfl; omega) (fun G' g' => hs c G' (List.mem_of_getElem? hcl) ((s0.trans s2.g).trans g')) fun J' h' => ?_
        rw [List.take_succ, hcl, List.map_append]
        exact h')
      fun J h => by
        rw [show z.cps.size = z.cps.toList.length from rfl, List.take_length] at h
        refine lcq_end st s2 hD h fun v G' H' s' r => q v G' H' s' ?_
        obtain ⟨p', ys, e1, e2, e3, e4⟩ := r
        rw [rl_vals (g := fun v : V => v) e4, List.map_id'] at e3
        exact ⟨p', e1, s0.free e2, e3⟩⟩
theorem v_ixS (st : Stab S) {a : Int} {c : Nat} (hl : z.length ≤ sizeLine) (ha : atI z.cps.toList a = some c) : RV S (rIxA K) (.str z) (.int a) G (IsV (.str ⟨#[c]⟩)) := rv_l (rv_r (rv_r (rv_val (fun H _ Q q => ⟨z, a, c, rfl, rfl, hl, ha, q⟩) st)))
theorem v_inS (st : Stab S) {y : Str} : RV S (fun x y H Q => ∃ i j, x = .str i ∧ y = .str j ∧ Q (.bl (!(Builtin.Str.occurrences j i 0 j.length 1).isEmpty)) H) (.str y) (.str z) G (IsV (.bl (!(Builtin.Str.occurrences z y 0 z.length 1).isEmpty))) := rv_val (fun H _ Q q => ⟨y, z, rfl, rfl, q⟩) st
theorem c_all (st : Stab S) {bs : List Bool} (h : SqL K G p (bs.map V.bl)) : RC S (rAll K) [.ref p] G (IsV (.bl (bs.all id))) := rc_val (fun H s Q q => ⟨p, bs, rfl, s.seq h, q⟩) st
theorem c_any (st : Stab S) {bs : List Bool} (h : SqL K G p (bs.map V.bl)) : RC S (rAny K) [.ref p] G (IsV (.bl (bs.any id))) := rc_val (fun H s Q q => ⟨p, bs, rfl, s.seq h, q⟩) st
theorem c_lenD (st : Stab S) {kvs : List (Key × V)} (h : G p = some (.dK kvs)) : RC S (rLenA K) [.ref p] G (IsV (.int kvs.length)) := rc_val (fun H s Q q => .inr (.inr ⟨p, kvs, rfl, s _ _ h, q⟩)) st
theorem v_inD (st : Stab S) {neg : Bool} {kvs : List (Key × V)} {key : Key} (h : G p = some (.dK kvs)) : RV S (rInA K neg) (kV key) (.ref p) G (IsV (.bl (if neg then !(valV kvs key).isSome else (valV kvs key).isSome))) := rv_r (rv_val (fun H s Q q => ⟨p, _, rfl, DGet.k (s _ _ h), q⟩) st)
theorem c_listN (st : Stab S) (hq : SqL K G p xs) : RC S (rListQ K) [.ref p] G (IsNew G (.lst xs)) := fun n G1 H1 s0 s Q q =>
  ⟨p, xs, rfl, .inl ((s0.trans (st.sub s)).seq hq), fun l hl => q (.ref l) _ _ (st.new s hl) ⟨l, rfl, (s0.trans (st.sub s)).free hl, upd_same⟩⟩
end
section
variable {S : SR} {n k : Nat} {te : TE} {tb u : TS} {σ : L2.St} {G H : Hp} {nx bk ct : L2.St → Hp → Prop} {rt : VK} {K : PySem.W.Frag} {g : TG}
/-- for .. in e, e a list that is made for it, any invariant -/
theorem q_forIX {RA : HRs} [Mons RA] (st : Stab S) (s : S n G H) (e : Ev S n k te σ G (IsLX RA)) (Pv : Addr → Nat → L2.St → Hp → Prop)
    (hb : ∀ p xs G2 H2, Stp S (n + k) G H G2 H2 → G2 p = some (.lst xs) → RA xs G2 → (∀ j τ J, Pv p j τ J → SqL K J p xs) ∧ Pv p 0 σ H2 ∧
    (∀ (j : Nat) x σ' J, xs[j]? = some x → Pv p j σ' J → g x σ' J fun σ2 J2 => tb (Ends.mk (fun τ J => Pv p (j + 1) τ J) rt (u (Ends.mk nx rt bk ct)) (fun τ J => Pv p (j + 1) τ J)) σ2 J2) ∧
    ∀ σ' J, Pv p xs.length σ' J → u (Ends.mk nx rt bk ct) σ' J) : tSeq (tFor (iList K te) g tb) u (Ends.mk nx rt bk ct) σ H := by
  refine e G H (Same.refl _) s _ fun v G1 H1 s1 ev => ?_
  obtain ⟨p, xs, rfl, gp, ra⟩ := ev
  obtain ⟨hh, h0, hs, hd⟩ := hb p xs G1 H1 s1 gp ra
  exact ⟨p, rfl, ⟨xs, hh _ _ _ h0⟩, for_list (K := K) (a := p) (xs := xs) (fun j τ J => Pv p j τ J) h0 (fun j τ J _ hp => hh _ _ _ hp) (fun j x τ J hx hp => hs j x τ J hx hp) fun τ J hp => hd τ J hp⟩
end
/-! ### name = {..} on one line -/
section
variable {X : Cx} {i : Nat} {yn : Str} {yp cp sp0 : Pos} {ek ev eg ei : Expr} {fs : List Expr} {sc : Scope} {own : List (Str × Nat)} {wi : TI} {g : TG} {tt : TT} {tk tv : TE}
theorem sw_dc {l : Nat} {env : Env} {gs : List Comprehension} (h1 : env.scope.kind = .function) (h2 : env.scope.names.lookup yn = some .local) (h3 : (yp.line == cp.line) = true)
    (h4 : (sc.names.any fun (n, k) => n == yn && (k == .local || k == .cell)) = false) : swapsWith (.DictComp ek ev gs sc cp) (some (.Name yn yp)) l env = pure true := by
  have a1 : env.kindOf yn = some .local := h2
  have a2 : env.blockKind = .function := by unfold Env.blockKind; rw [h1]; rfl
  unfold swapsWith
  simp only [a2, a1, h4, Expr.pos, h3]
  rfl
theorem ps_setDc (cm : X.calm = true) (nd : X.N.Nodup) (hy : X.N[i]? = some yn) (hl : X.env.scope.names.lookup yn = some .local) (sw : swapsWith (.DictComp ek ev [⟨eg, ei, fs, 0⟩] sc cp) (some (.Name yn yp)) sp0.line X.env = pure true) (hi : PI X eg ei wi) (ok : BlkOk X.N X.env.scope sc own)
    (hg : ∀ (u : Shared) (J : Hp) (C : Addr) (cl : List (Str × Addr)) (fp : List Addr), PG (X.blk u J sc (compEnvC sc cl C X.env) fp) eg g) (ht : ∀ (u : Shared) (J : Hp) (C : Addr) (cl : List (Str × Addr)) (fp : List Addr), PTs (X.blk u J sc (compEnvC sc cl C X.env) fp) fs tt)
    (hk : ∀ (u : Shared) (J : Hp) (C : Addr) (cl : List (Str × Addr)) (fp : List Addr), PE (X.blk u J sc (compEnvC sc cl C X.env) fp) ek tk) (hv : ∀ (u : Shared) (J : Hp) (C : Addr) (cl : List (Str × Addr)) (fp : List Addr), PE (X.blk u J sc (compEnvC sc cl C X.env) fp) ev tv)
    (hs : ∀ x, foldedSetIterable ei X.env x = pure x := by intro _; rfl) : PS X (.Assign [.Name yn yp] (.DictComp ek ev [⟨eg, ei, fs, 0⟩] sc cp) sp0) (tAsg (tDc wi g tt tk tv (own.map (·.2))) (gName i)) := by
  constructor
  intro qs u σ J Ed I h
  have h : tDc wi g tt tk tv (own.map (·.2)) σ J (fun x J1 => gName i x σ J1 Ed.nx) := h
  rw [exec_Assign_Name_used _ _ _ _ sw]
  refine wpAny_bind (wpAny_standAt (wpAny_bind ?_))
  refine wpAny_bind (thn (dc_core (use := some (assign (.Name yn yp) X.env)) (Qf := fun _ z => SP X qs Ed .next z) cm nd I hi ok hg ht hk hv hs h fun L C z m J' I' q hn f => ?_) fun _ z hq => wpAny_pure (wpAny_pure hq))
  refine wpAny_assign_Name (store_ok2 (v := V.ref L) I' nd hy (.inl hl) rfl (fun z2 I2 ⟨a, sb, ha⟩ => ?_) (.inr hl))
  obtain ⟨f0, f1, f2, f3, f4, f5⟩ := f
  have ne : C ≠ a := ha.elim (fun z => by rw [z]; exact f1) fun z e => f4 yn a z e.symm
  exact ⟨m, hn.sameBut sb ne, fun z3 sb3 => ⟨_, J', I2.turned (t' := z2.toks) (fun b o hb e => (sb3.2 b hb).trans e) f0 f1 f3 f4 f5, q⟩⟩
end
section
variable {α : Type} {R : α → HR} {S : SR} {n n0 k : Nat} {t : TA} {u : TS} {σ : L2.St} {G1 H1 J : Hp} {nx bk ct : L2.St → Hp → Prop} {rt : VK} {j : Nat} {K : PySem.W.Frag} {D : Addr} {ss : List α} {x : α}
/-- p.append(x): all else stays -/
theorem q_appX2 (st : Stab S) [∀ a, Mon (R a)] (a : S n0 G1 H1) (hD : H1 D = none) (h : LcQ S G1 H1 n D R ss J) (hl : ss.length < 100000) (hv : σ[j]? = some (some (.ref D))) (e : ∀ G', Same G1 G' → EvA S n k t σ G' (RL R [x]))
    (hN : ∀ J', LcQ S G1 H1 (n + k) D R (ss ++ [x]) J' → (∀ b o, ¬ S.m b → b ≠ D → J b = some o → J' b = some o) → u (Ends.mk nx rt bk ct) σ J') : tSeq (tDrop (tBM K "list" rAppend (tVar j) t)) u (Ends.mk nx rt bk ct) σ J := by
  obtain ⟨G3, acc, s3, c, d, r⟩ := h
  refine ⟨_, hv, .inl ⟨rfl, _, SqL.of d⟩, e G3 s3.g G3 J (Same.refl _) s3.s _ fun ws G4 H4 s4 ev => ?_⟩
  obtain ⟨y, _, rfl, ry, rn⟩ := ev
  obtain rfl := (show _ = [] from rn)
  have d4 : H4 D = some (.lst acc) := s4.k.k D _ (st.fre a hD) d
  have c4 : G4 D = none := by
    cases e : G4 D with
    | none => rfl
    | some o =>
      rcases s4.n D o e with q | q
      · rw [c] at q
        cases q
      · rw [d] at q
        cases q
  have t := s3.trans s4
  have la := rl_len r
  exact ⟨D, acc, y, rfl, rfl, d4, Nat.lt_of_lt_of_le (show acc.length < 100000 by omega) (by decide), hN _ ⟨G4, acc ++ [y], ⟨t.g, kp_new t.k hD, st.chg a hD t.s c4, t.n⟩, c4, upd_same, rl_app (rl_mon s4.g r) ⟨y, [], rfl, ry, rfl⟩⟩ fun b o hb ne e => by
    rw [upd_ne ne]
    exact s4.k.k b o hb e⟩
theorem LcQ.step2 (st : Stab S) [∀ a, Mon (R a)] (a : S n0 G1 H1) (hD : H1 D = none) (h : LcQ S G1 H1 n D R ss J) : ∃ G3, Same G1 G3 ∧ S n G3 J ∧ ∀ {m G4 H4}, Stp S m G3 J G4 H4 → LcQ S G1 H1 m D R ss H4 ∧ G4 D = none := by
  obtain ⟨G3, acc, s3, c, d, r⟩ := h
  refine ⟨G3, s3.g, s3.s, fun {m G4 H4} s4 => ?_⟩
  have c4 : G4 D = none := by
    cases e : G4 D with
    | none => rfl
    | some o =>
      rcases s4.n D o e with q | q
      · rw [c] at q
        cases q
      · rw [d] at q
        cases q
  exact ⟨⟨G4, acc, s3.trans s4, c4, s4.k.k D _ (st.fre a hD) d, rl_mon s4.g r⟩, c4⟩
end
/-! ### all that stands but some lists -/
noncomputable def cut (G : Hp) (X : Addr → Prop) : Hp := fun b => open Classical in if X b then none else G b
theorem cut_in {G : Hp} {X : Addr → Prop} {b : Addr} (h : X b) : cut G X b = none := if_pos h
theorem cut_out {G : Hp} {X : Addr → Prop} {b : Addr} (h : ¬ X b) : cut G X b = G b := if_neg h
theorem cut_same {G : Hp} {X : Addr → Prop} : Same (cut G X) G := fun b o e => by
  by_cases h : X b
  · rw [cut_in h] at e
    cases e
  · rw [cut_out h] at e
    exact e
def LstX (G : Hp) (X : Addr → Prop) : Prop := ∀ b, X b → ∃ xs, G b = some (.lst xs)
theorem LstX.keep {G : Hp} {X : Addr → Prop} (h : LstX G X) {b : Addr} {o : HO} (e : G b = some o) (n : ∀ xs, o ≠ .lst xs) : cut G X b = some o := by
  rw [cut_out]
  · exact e
  · intro z
    obtain ⟨xs, hx⟩ := h b z
    rw [hx] at e
    exact n xs (Option.some.inj e).symm
theorem src_cut {st cl : Addr} {n : Nat} {G H : Hp} {X : Addr → Prop} (h : Src st cl n G H) : Src st cl n (cut G X) H := by
  obtain ⟨a, b, c, d⟩ := h
  have k : ∀ {b : Addr}, G b = none → cut G X b = none := fun {b} e => by
    by_cases z : X b
    · exact cut_in z
    · rw [cut_out z]; exact e
  exact ⟨cut_same.trans a, k b, k c, d⟩
/-! ### statements that change a list -/
end L2.DS
/-! Scales of tables: what the tables tell. -/
namespace L2.DS
open PySem PySem.Spec PyProof.Rows
def signsL : Str := "abcdefghijklmnopqrstuvwxyz0123456789"
def sgn (c : Nat) : Bool := !(Builtin.Str.occurrences signsL ⟨#[c]⟩ 0 signsL.length 1).isEmpty
def okNm (nm : Str) : Bool := (decide ((1 : Int) ≤ nm.length) && decide ((nm.length : Int) ≤ 12)) && (nm.cps.toList.map sgn).all id
theorem okNm_len {nm : Str} (h : okNm nm = true) : 1 ≤ nm.length ∧ nm.length ≤ 12 := by
  unfold okNm at h
  rw [Bool.and_eq_true, Bool.and_eq_true] at h
  have h1 := of_decide_eq_true h.1.1
  have h2 := of_decide_eq_true h.1.2
  omega
def joinR (rows : List (List Str)) : Str := Txt.join (" " : Str) (rows.map fun r => Txt.join (" " : Str) r)
def tbLab (names : List Str) (never still : Str) (joins products : List (List Str)) : Str :=
  ("(table (" : Str) ++ Txt.join (" " : Str) names ++ (") " : Str) ++ (never ++ (" " : Str) ++ still) ++ (" (" : Str) ++ joinR joins ++ (") (" : Str) ++ joinR products ++ ("))" : Str)
structure TbOk (names : List Str) (joins products : List (List Str)) (never still : Str) : Prop where
  l1 : 1 ≤ names.length
  l2 : names.length ≤ 16
  nd : names.Nodup
  ok : ∀ nm ∈ names, okNm nm = true
  nv : never ∈ names
  sl : still ∈ names
  jl : joins.length = names.length
  jr : ∀ r ∈ joins, r.length = names.length ∧ ∀ e ∈ r, e ∈ names
  pl : products.length = names.length
  pr : ∀ r ∈ products, r.length = names.length ∧ ∀ e ∈ r, e ∈ names
def idxT (names : List Str) (rows : List (List Str)) (a b : Nat) : Int := ((names.idxOf ((rows.getD a []).getD b ("" : Str)) : Nat) : Int)
/-- a list of texts, of places -/
def IsSR (row : List Str) : HR := fun v G => ∃ p, v = .ref p ∧ G p = some (.lst (row.map V.str))
instance (row) : Mon (IsSR row) := ⟨fun s ⟨p, e, h⟩ => ⟨p, e, s _ _ h⟩⟩
def IsIR (names row : List Str) : HR := fun v G => ∃ p, v = .ref p ∧ G p = some (.lst (row.map fun e => V.int (names.idxOf e : Nat)))
instance (names row) : Mon (IsIR names row) := ⟨fun s ⟨p, e, h⟩ => ⟨p, e, s _ _ h⟩⟩
def TabS (G : Hp) (p : Addr) (rows : List (List Str)) : Prop := ∃ vs, G p = some (.lst vs) ∧ RL IsSR rows vs G
theorem TabS.mono {G G' : Hp} {p : Addr} {rows : List (List Str)} (h : TabS G p rows) (s : Same G G') : TabS G' p rows := let ⟨vs, a, b⟩ := h; ⟨vs, s _ _ a, rl_mon s b⟩
def TabI (names : List Str) (G : Hp) (p : Addr) (rows : List (List Str)) : Prop := ∃ vs, G p = some (.lst vs) ∧ RL (IsIR names) rows vs G
theorem TabI.mono {names : List Str} {G G' : Hp} {p : Addr} {rows : List (List Str)} (h : TabI names G p rows) (s : Same G G') : TabI names G' p rows := let ⟨vs, a, b⟩ := h; ⟨vs, s _ _ a, rl_mon s b⟩
theorem idx_get {names : List Str} {e : Str} (h : e ∈ names) : names[names.idxOf e]? = some e := by
  have hj : names.idxOf e < names.length := List.idxOf_lt_length_iff.mpr h
  rw [List.getElem?_eq_getElem hj, List.getElem_idxOf hj]
/-! lengths -/
theorem join_len (ys : List Str) (L : Nat) (h : ∀ y ∈ ys, y.length ≤ L) : (ys.map (·.length)).sum + ys.length * 1 ≤ ys.length * (L + 1) ∧ (Txt.join (" " : Str) ys).length ≤ ys.length * (L + 1) := by
  have h1 : (ys.map (·.length)).sum + ys.length * 1 ≤ ys.length * (L + 1) := by
    induction ys with
    | nil => simp
    | cons y r ih =>
      have := ih fun z hz => h z (List.mem_cons_of_mem _ hz)
      have hy := h y List.mem_cons_self
      simp only [List.map_cons, List.sum_cons, List.length_cons, Nat.succ_mul]
      omega
  refine ⟨h1, ?_⟩
  have h2 := StrLaws.join_length_le (" " : Str) ys
  have e : (" " : Str).length = 1 := by decide +kernel
  rw [e] at h2
  show (Builtin.Str.glued (" " : Str) ys).length ≤ _
  rw [StrLaws.glued_eq_join]
  omega
theorem rows_len {names : List Str} {rows : List (List Str)} (hn : ∀ nm ∈ names, okNm nm = true) (h2 : names.length ≤ 16) (hl : rows.length = names.length) (hr : ∀ r ∈ rows, r.length = names.length ∧ ∀ e ∈ r, e ∈ names) : ∀ r ∈ rows, (r.map (·.length)).sum + r.length * 1 ≤ 208 ∧ (Txt.join (" " : Str) r).length ≤ 208 := by
  intro r hr'
  obtain ⟨a, b⟩ := hr r hr'
  have j := join_len r 12 fun y hy => (okNm_len (hn y (b y hy))).2
  omega
theorem joinR_len {names : List Str} {rows : List (List Str)} (hn : ∀ nm ∈ names, okNm nm = true) (h2 : names.length ≤ 16) (hl : rows.length = names.length) (hr : ∀ r ∈ rows, r.length = names.length ∧ ∀ e ∈ r, e ∈ names) :
    ((rows.map fun r => Txt.join (" " : Str) r).map (·.length)).sum + (rows.map fun r => Txt.join (" " : Str) r).length * 1 ≤ 16777216 ∧ (joinR rows).length ≤ 3344 := by
  have j := join_len (rows.map fun r => Txt.join (" " : Str) r) 208 fun y hy => by
    obtain ⟨r, hr', rfl⟩ := List.mem_map.mp hy
    exact (rows_len hn h2 hl hr r hr').2
  rw [List.length_map] at j ⊢
  unfold joinR
  omega
theorem names_join {names : List Str} (hn : ∀ nm ∈ names, okNm nm = true) (h2 : names.length ≤ 16) : (names.map (·.length)).sum + names.length * 1 ≤ 16777216 ∧ (Txt.join (" " : Str) names).length ≤ 208 := by
  have j := join_len names 12 fun y hy => (okNm_len (hn y hy)).2
  omega
/-! promises -/
def PIsN : List V → Hp → HR → Prop := fun vs _ R => ∃ nm : Str, vs = [.str nm] ∧ nm.length ≤ 1000 ∧ R = IsV (.bl (okNm nm))
def PTp : List V → Hp → HR → Prop := fun vs G R => ∃ (pd pt : Addr) (names : List Str) (rows : List (List Str)), vs = [.ref pd, .ref pt] ∧ G pd = some (.dK (plc names 0)) ∧ names.Nodup ∧ names.length ≤ 100 ∧ TabS G pt rows ∧ rows.length = names.length ∧ (∀ r ∈ rows, r.length = names.length ∧ ∀ e ∈ r, e ∈ names) ∧
  R = fun v G' => ∃ p, v = .ref p ∧ TabI names G' p rows
def PTbM (C0 : Addr) (fld : Str) : List V → Hp → HR → Prop := fun vs G R => ∃ (x dx p : Addr) (fs : List (Str × V)) (names : List Str) (rows : List (List Str)) (a b : Nat), vs = [.ref x, .int (a : Nat), .int (b : Nat)] ∧ G x = some (.ins C0 dx fs) ∧ fs.lookup fld = some (.ref p) ∧ TabI names G p rows ∧ a < rows.length ∧ (∀ r ∈ rows, b < r.length) ∧ R = IsV (.int (idxT names rows a b))
def tbF : List Str := ["written_joins", "written_products"]
def PTbI (C0 : Addr) : Addr → List (Str × V) → List V → Hp → OR → Prop := fun C fs rest G R => C = C0 ∧ fs = [] ∧ ∃ (pn pj pp : Addr) (names : List Str) (joins products : List (List Str)) (never still : Str),
  rest = [.ref pn, .ref pj, .ref pp, .str never, .str still] ∧ G pn = some (.lst (names.map V.str)) ∧ TabS G pj joins ∧ TabS G pp products ∧ TbOk names joins products never still ∧
  R = fun _ _ fs' G' => ScIs (tbLab names never still joins products) names (names.idxOf never : Nat) (names.idxOf still : Nat) 1 (idxT names products) (idxT names joins) fs' G' ∧ (∀ f, f ∉ scF → f ∉ tbF → fs'.lookup f = none)
end L2.DS
/-! The laws' own tables: drawn names, their places, data of tables. -/
namespace L2.DS
open PySem PySem.Spec PyProof.Rows
section
variable {S : SR} {n k : Nat} {ta : TA} {tb u : TS} {σ : L2.St} {G H : Hp} {nx bk ct : L2.St → Hp → Prop} {rt : VK} {i : Nat}
/-- for x in range(m), m as Pm tells, the turn below m -/
theorem q_forRB {Pm : Int → Prop} (st : Stab S) (s : S n G H) (e : EvA S n k ta σ G (RCons (IsI Pm) RNil)) (c : Nat → Nat) (P : Nat → L2.St → Hp → Hp → Prop) (hc : c 0 = 0) (hm : ∀ m, Pm m → 0 ≤ m ∧ m ≤ 100000) (h0 : ∀ H', Kp S H H' → S (n + k) G H' → P 0 σ G H')
    (hs : ∀ (m : Int) (j : Nat) σ' G' H', Pm m → (j : Int) < m → Same G G' → S (n + k + c j) G' H' → P j σ' G' H' →
      tb (Ends.mk (fun τ J => ∃ G2, Same G G2 ∧ S (n + k + c (j + 1)) G2 J ∧ P (j + 1) τ G2 J) rt (u (Ends.mk nx rt bk ct)) (fun τ J => ∃ G2, Same G G2 ∧ S (n + k + c (j + 1)) G2 J ∧ P (j + 1) τ G2 J)) (σ'.set i (some (.int j))) H')
    (hd : ∀ (m : Nat) σ' G' H', Pm (m : Nat) → Same G G' → S (n + k + c m) G' H' → P m σ' G' H' → u (Ends.mk nx rt bk ct) σ' H') : tSeq (tFor (iRng1 ta) (gName i) tb) u (Ends.mk nx rt bk ct) σ H := by
  refine e G H (Same.refl _) s _ fun v G1 H1 s1 ev => ?_
  obtain ⟨_, _, rfl, ⟨m, pm, rfl⟩, ev⟩ := ev
  obtain rfl := (show _ = _ from ev)
  obtain ⟨m0, m1⟩ := hm m pm
  have hs2 := st.anti s s1.s s1.g
  refine ⟨m, rfl, by omega, by omega, for_range (lo := 0) (n := m.toNat) (fun j τ J => ∃ G2, Same G G2 ∧ S (n + k + c j) G2 J ∧ P j τ G2 J) ⟨G, Same.refl _, by rw [hc]; exact hs2, h0 H1 s1.k hs2⟩ (fun j τ J hx ⟨G2, a, b, d⟩ => ?_) fun τ J ⟨G2, a, b, d⟩ => hd m.toNat τ G2 J (by rw [show ((m.toNat : Nat) : Int) = m by omega]; exact pm) a b d⟩
  show tb _ (τ.set i (some (.int (0 + j)))) J
  rw [Int.zero_add]
  exact hs m j τ G2 J pm (by omega) a b d
end
/-! names that are drawn -/
def alphL : Str := "0123456789abcdefghijklmnopqrstuvwxyz"
def alphC (i : Nat) : Nat := alphL.cps.toList.getD i 0
theorem alph_len : alphL.length = 36 := by decide +kernel
theorem alph_ok : ∀ i, i < 36 → sgn (alphC i) = true := by decide +kernel
theorem alph_asc : ∀ i, i < 36 → alphC i < 128 := by decide +kernel
theorem alph_at {i : Nat} (h : i < 36) : atI alphL.cps.toList ((i : Nat) : Int) = some (alphC i) := by
  have e : alphL.cps.toList.length = 36 := alph_len
  unfold atI ixN
  rw [if_pos (by omega), if_pos (by rw [e]; omega)]
  show alphL.cps.toList[i]? = _
  unfold alphC
  rw [List.getD_eq_getElem?_getD, List.getElem?_eq_getElem (by rw [e]; exact h)]
  rfl
theorem cutS_pre {z : Str} {c : Nat} (h : c ≤ z.length) : (cutS z none (some (c : Nat))).cps.toList = z.cps.toList.take c := by
  unfold cutS
  have e1 : HT.sIx z.length 0 none = 0 := rfl
  have e2 : HT.sIx z.length z.length (some ((c : Nat) : Int)) = c := by
    rw [HT.sIx_nat]
    omega
  rw [e1, e2]
  simp
theorem cutS_suf {z : Str} {c : Nat} (h : c ≤ z.length) : (cutS z (some (c : Nat)) none).cps.toList = z.cps.toList.drop c := by
  unfold cutS
  have e1 : HT.sIx z.length 0 (some ((c : Nat) : Int)) = c := by
    rw [HT.sIx_nat]
    omega
  have e2 : HT.sIx z.length z.length none = z.length := rfl
  rw [e1, e2]
  have e3 : z.cps.toList.length = z.length := rfl
  show List.take (z.length - c) (List.drop c z.cps.toList) = _
  rw [List.take_of_length_le (by rw [List.length_drop, e3]; omega)]
/-- the k-th drawn name -/
def tname (pre suf : Str) (b k : Nat) : Str := pre ++ (⟨#[alphC ((b + 7 * k) % 36)]⟩ : Str) ++ suf
theorem tname_cps (pre suf : Str) (b k : Nat) : (tname pre suf b k).cps.toList = pre.cps.toList ++ alphC ((b + 7 * k) % 36) :: suf.cps.toList := by
  unfold tname
  rw [Str.cps_append, Str.cps_append]
  simp
theorem tname_ok {w : Str} {c b k : Nat} (hc : c ≤ w.length) (hl : w.length ≤ 11) (hw : ∀ x ∈ w.cps.toList, sgn x = true ∧ x < 128) : okNm (tname (cutS w none (some (c : Nat))) (cutS w (some (c : Nat)) none) b k) = true ∧ PyData.strOk (tname (cutS w none (some (c : Nat))) (cutS w (some (c : Nat)) none) b k) = true ∧ (tname (cutS w none (some (c : Nat))) (cutS w (some (c : Nat)) none) b k).length = w.length + 1 := by
  have ec := tname_cps (cutS w none (some (c : Nat))) (cutS w (some (c : Nat)) none) b k
  rw [cutS_pre hc, cutS_suf hc] at ec
  generalize tname (cutS w none (some (c : Nat))) (cutS w (some (c : Nat)) none) b k = nm at ec ⊢
  have hmem : ∀ x ∈ nm.cps.toList, sgn x = true ∧ x < 128 := fun x hx => by
    rw [ec, List.mem_append, List.mem_cons] at hx
    rcases hx with h | rfl | h
    · exact hw x (List.mem_of_mem_take h)
    · exact ⟨alph_ok _ (Nat.mod_lt _ (by decide)), alph_asc _ (Nat.mod_lt _ (by decide))⟩
    · exact hw x (List.mem_of_mem_drop h)
  have hlen : nm.length = w.length + 1 := by
    have e1 : nm.length = nm.cps.toList.length := rfl
    have e2 : w.cps.toList.length = w.length := rfl
    rw [e1, ec, List.length_append, List.length_cons, List.length_take, List.length_drop, e2]
    omega
  refine ⟨?_, ?_, hlen⟩
  · unfold okNm
    rw [Bool.and_eq_true, Bool.and_eq_true]
    refine ⟨⟨decide_eq_true (by omega), decide_eq_true (by omega)⟩, ?_⟩
    rw [List.all_map, List.all_eq_true]
    exact fun x hx => (hmem x hx).1
  · unfold PyData.strOk
    rw [Array.all_eq_true]
    intro i hi
    have := (hmem (nm.cps[i]) (by simp)).2
    simp
    omega
/-- a row of names -/
def IsRw (names : List Str) : HR := fun v G => ∃ row : List Str, IsSR row v G ∧ row.length = names.length ∧ ∀ e ∈ row, e ∈ names
instance (names) : Mon (IsRw names) := ⟨fun s ⟨row, a, b⟩ => ⟨row, Mon.mon s a, b⟩⟩
/-- rows newly made -/
def IsSRn (F : Hp) (row : List Str) : HR := IsNew F (.lst (row.map V.str))
instance (F row) : Mon (IsSRn F row) := inferInstanceAs (Mon (IsNew _ _))
/-! tables as data -/
def rowD (row : List Str) : PyData := .list (row.map PyData.str)
theorem dp_strs {K : PySem.W.Frag} {G : Hp} : ∀ xs : List Str, DpAll K G (xs.map V.str) (xs.map PyData.str)
  | [] => .nil
  | a :: r => .cons (.str a) (dp_strs r)
theorem dp_sr {K : PySem.W.Frag} {G : Hp} {row : List Str} {v : V} (h : IsSR row v G) : Dp K G v (rowD row) := by
  obtain ⟨p, rfl, g⟩ := h
  exact .lst (SqL.of g) (dp_strs row)
theorem dp_rows {K : PySem.W.Frag} {G : Hp} : ∀ {rows : List (List Str)} {vs : List V}, RL IsSR rows vs G → DpAll K G vs (rows.map rowD)
  | [], _, h => by rw [show _ = [] from h]; exact .nil
  | _ :: _, _, ⟨v, w, e, a, b⟩ => by rw [e]; exact .cons (dp_sr a) (dp_rows b)
theorem depth_strs (xs : List Str) : PyData.depthAll (xs.map PyData.str) = 0 := by
  induction xs with
  | nil => rfl
  | cons a r ih =>
    show max (PyData.depth (.str a)) (PyData.depthAll (r.map PyData.str)) = 0
    rw [ih]
    rfl
theorem depth_row (row : List Str) : PyData.depth (rowD row) = 1 := by
  show PyData.depthAll (row.map PyData.str) + 1 = 1
  rw [depth_strs]
theorem depth_rows (rows : List (List Str)) : PyData.depth (.list (rows.map rowD)) ≤ 2 := by
  have h : PyData.depthAll (rows.map rowD) ≤ 1 := by
    induction rows with
    | nil => exact Nat.zero_le _
    | cons a r ih =>
      show max (PyData.depth (rowD a)) (PyData.depthAll (r.map rowD)) ≤ 1
      rw [depth_row]
      omega
  show PyData.depthAll (rows.map rowD) + 1 ≤ 2
  omega
end L2.DS
/-! Scales of any of some classes; defs with a star parameter; pairs of ranges. -/
namespace L2.DS
open PySem PySem.Spec PyProof.Rows
/-! ### scales -/
structure SD where
  label : Str
  names : List Str
  nv : Int
  sl : Int
  dep : Int
  th : Nat → Nat → Int
  jn : Nat → Nat → Int
structure ClsOk (K : PySem.W.Frag) (C : Addr) : Prop where
  c : Cls K C
  n : ∀ f ∈ scF, NoAttr K C f
def ScD (K : PySem.W.Frag) (Cs : List Addr) (d : SD) (x : Addr) (G : Hp) : Prop := ∃ C ∈ Cs, ClsOk K C ∧ ScC C x d.label d.names d.nv d.sl d.dep d.th d.jn G
theorem ScD.mono {K : PySem.W.Frag} {Cs : List Addr} {d : SD} {x : Addr} {G G' : Hp} (h : ScD K Cs d x G) (s : Same G G') : ScD K Cs d x G' := let ⟨C, a, b, c⟩ := h; ⟨C, a, b, c.mono s⟩
def IsScD (K : PySem.W.Frag) (Cs : List Addr) (d : SD) : HR := fun v G => ∃ x, v = .ref x ∧ ScD K Cs d x G
instance (K Cs d) : Mon (IsScD K Cs d) := ⟨fun s ⟨x, e, h⟩ => ⟨x, e, h.mono s⟩⟩
/-! ### a, b = f(..) -/
/-! ### [el for i in range(m) for j in range(c)] -/
/-! ### defs with a star parameter -/
end L2.DS
/-! Scales of pairs, turned scales. -/
namespace L2.DS
open PySem PySem.Spec PyProof.Rows
/-- the depth above some scales -/
def depL (ds : List SD) : Int := ds.foldl (fun m d => if d.dep ≥ m then d.dep + 1 else m) 1
def pairNames (d1 d2 : SD) : List Str := (List.range d1.names.length).flatMap fun a => (List.range d2.names.length).map fun b => ("<" : Str) ++ d1.names.getD a ("" : Str) ++ ("/" : Str) ++ d2.names.getD b ("" : Str) ++ (">" : Str)
def pairSD (d1 d2 : SD) : SD where
  label := ("(pair " : Str) ++ d1.label ++ (" " : Str) ++ d2.label ++ (")" : Str)
  names := pairNames d1 d2
  nv := d1.nv * d2.names.length + d2.nv
  sl := d1.sl * d2.names.length + d2.sl
  dep := depL [d1, d2]
  th := fun a b => d1.th (a / d2.names.length) (b / d2.names.length) * d2.names.length + d2.th (a % d2.names.length) (b % d2.names.length)
  jn := fun a b => d1.jn (a / d2.names.length) (b / d2.names.length) * d2.names.length + d2.jn (a % d2.names.length) (b % d2.names.length)
def turnSD (d : SD) : SD where
  label := ("(turned " : Str) ++ d.label ++ (")" : Str)
  names := d.names
  nv := d.nv
  sl := d.sl
  dep := depL [d]
  th := fun a b => d.th b a
  jn := d.jn
/-- what is known of a scale beside what it holds -/
structure SdOk (d : SD) : Prop where
  nd : d.names.Nodup
  l1 : 1 ≤ d.names.length
  l2 : d.names.length ≤ 64
  sh : ∀ nm ∈ d.names, nm.length ≤ 100000
  ll : d.label.length ≤ 1000000
  nv : 0 ≤ d.nv ∧ d.nv < d.names.length
  sl : 0 ≤ d.sl ∧ d.sl < d.names.length
  th : ∀ a b, a < d.names.length → b < d.names.length → 0 ≤ d.th a b ∧ d.th a b < d.names.length
  jn : ∀ a b, a < d.names.length → b < d.names.length → 0 ≤ d.jn a b ∧ d.jn a b < d.names.length
theorem flat_len {α : Type} (f : Nat → Nat → α) (c : Nat) : ∀ m, ((List.range m).flatMap fun a => (List.range c).map fun b => f a b).length = m * c := by
  intro m
  induction m with
  | zero => simp
  | succ m ih => rw [List.range_succ, List.flatMap_append, List.length_append, ih, List.flatMap_cons, List.flatMap_nil, List.append_nil, List.length_map, List.length_range, Nat.succ_mul]
theorem pairNames_len (d1 d2 : SD) : (pairNames d1 d2).length = d1.names.length * d2.names.length := flat_len _ _ _
/-! promises -/
def ScI (d : SD) (fs : List (Str × V)) (G : Hp) : Prop := ScIs d.label d.names d.nv d.sl d.dep d.th d.jn fs G
end L2.DS
/-! The law's own rows of pairs and turned scales. -/
namespace L2.DS
open PySem PySem.Spec PyProof.Rows
/-- a table of whole numbers -/
def IsIRow (n : Nat) (f : Nat → Int) : HR := fun v G => ∃ q, v = .ref q ∧ G q = some (.lst ((List.range n).map fun b => V.int (f b)))
instance (n f) : Mon (IsIRow n f) := ⟨fun s ⟨q, e, h⟩ => ⟨q, e, s _ _ h⟩⟩
def TabN (G : Hp) (p : Addr) (n : Nat) (f : Nat → Nat → Int) : Prop := ∃ vs, G p = some (.lst vs) ∧ RL (fun a => IsIRow n (f a)) (List.range n) vs G
theorem TabN.mono {G G' : Hp} {p : Addr} {n : Nat} {f : Nat → Nat → Int} (h : TabN G p n f) (s : Same G G') : TabN G' p n f := let ⟨vs, a, b⟩ := h; ⟨vs, s _ _ a, rl_mon s b⟩
/-- the rows of a scale as the law holds them -/
def RowsAt (G : Hp) (p : Addr) (d : SD) : Prop := ∃ pn pj pp, G p = some (.lst [.ref pn, .ref pj, .ref pp, .int d.nv, .int d.sl]) ∧ G pn = some (.lst (d.names.map V.str)) ∧ TabN G pj d.names.length d.jn ∧ TabN G pp d.names.length d.th
theorem RowsAt.mono {G G' : Hp} {p : Addr} {d : SD} (h : RowsAt G p d) (s : Same G G') : RowsAt G' p d := let ⟨a, b, c, h1, h2, h3, h4⟩ := h; ⟨a, b, c, s _ _ h1, s _ _ h2, h3.mono s, h4.mono s⟩
def IsRows (d : SD) : HR := fun v G => ∃ p, v = .ref p ∧ RowsAt G p d
instance (d) : Mon (IsRows d) := ⟨fun s ⟨p, e, h⟩ => ⟨p, e, h.mono s⟩⟩
def rnames (sign : Str) (m : Nat) : List Str := (List.range m).map fun k => sign ++ (toString (((m : Nat) : Int) - (k : Nat)) : Str)
/-- rows drawn for m names -/
structure RowOk (sign : Str) (m : Nat) (d : SD) : Prop where
  nm : d.names = rnames sign m
  nv : 0 ≤ d.nv ∧ d.nv < m
  sl : 0 ≤ d.sl ∧ d.sl < m
  th : ∀ a b, a < m → b < m → 0 ≤ d.th a b ∧ d.th a b < m
  jn : ∀ a b, a < m → b < m → 0 ≤ d.jn a b ∧ d.jn a b < m
/-- two scales' rows told alike -/
structure Tells (ds dr : SD) (turned : Bool) : Prop where
  nm : ds.names = dr.names
  nv : ds.nv = dr.nv
  sl : ds.sl = dr.sl
  th : ∀ a b, a < dr.names.length → b < dr.names.length → ds.th a b = if turned then dr.th b a else dr.th a b
  jn : ∀ a b, a < dr.names.length → b < dr.names.length → ds.jn a b = dr.jn a b
theorem SdOk.turn {d : SD} (o : SdOk d) (h : d.label.length ≤ 900000) : SdOk (turnSD d) := by
  refine ⟨o.nd, o.l1, o.l2, o.sh, ?_, o.nv, o.sl, fun a b ha hb => o.th b a hb ha, o.jn⟩
  show (("(turned " : Str) ++ d.label ++ (")" : Str)).length ≤ _
  have c1 : ("(turned " : Str).length = 8 ∧ (")" : Str).length = 1 := by decide +kernel
  rw [Str.length_append, Str.length_append]
  omega
theorem pairs_bd {n1 n2 : Nat} {u v : Int} (u0 : 0 ≤ u) (u1 : u < n1) (v0 : 0 ≤ v) (v1 : v < n2) : 0 ≤ u * n2 + v ∧ u * n2 + v < ((n1 * n2 : Nat) : Int) := by
  obtain ⟨a, rfl⟩ : ∃ a : Nat, u = (a : Nat) := ⟨u.toNat, by omega⟩
  obtain ⟨b, rfl⟩ : ∃ b : Nat, v = (b : Nat) := ⟨v.toNat, by omega⟩
  have ha : a < n1 := by omega
  have hb : b < n2 := by omega
  have e : ((a : Nat) : Int) * ((n2 : Nat) : Int) + ((b : Nat) : Int) = ((a * n2 + b : Nat) : Int) := by rw [Int.natCast_add, Int.natCast_mul]
  rw [e]
  have : (a + 1) * n2 ≤ n1 * n2 := Nat.mul_le_mul_right n2 (by omega)
  rw [Nat.succ_mul] at this
  omega
theorem SdOk.pair {d1 d2 : SD} (o1 : SdOk d1) (o2 : SdOk d2) (h64 : d1.names.length * d2.names.length ≤ 64) (nd : (pairNames d1 d2).Nodup) (sh : ∀ nm ∈ pairNames d1 d2, nm.length ≤ 100000) (h1 : d1.label.length ≤ 400000) (h2 : d2.label.length ≤ 400000) : SdOk (pairSD d1 d2) := by
  have hl : (pairSD d1 d2).names.length = d1.names.length * d2.names.length := pairNames_len d1 d2
  have b1 : ∀ {c : Nat}, c < d1.names.length * d2.names.length → c / d2.names.length < d1.names.length := fun h => Nat.div_lt_of_lt_mul (by rw [Nat.mul_comm]; exact h)
  have b2 : ∀ {c : Nat}, c % d2.names.length < d2.names.length := Nat.mod_lt _ o2.l1
  refine ⟨nd, ?_, by rw [hl]; exact h64, sh, ?_, ?_, ?_, fun a b ha hb => ?_, fun a b ha hb => ?_⟩
  · rw [hl]
    exact Nat.mul_pos o1.l1 o2.l1
  · show (("(pair " : Str) ++ d1.label ++ (" " : Str) ++ d2.label ++ (")" : Str)).length ≤ _
    have c1 : ("(pair " : Str).length = 6 ∧ (" " : Str).length = 1 ∧ (")" : Str).length = 1 := by decide +kernel
    rw [Str.length_append, Str.length_append, Str.length_append, Str.length_append]
    omega
  · rw [hl]
    exact pairs_bd o1.nv.1 o1.nv.2 o2.nv.1 o2.nv.2
  · rw [hl]
    exact pairs_bd o1.sl.1 o1.sl.2 o2.sl.1 o2.sl.2
  · rw [hl] at ha hb ⊢
    have t1 := o1.th _ _ (b1 ha) (b1 hb)
    have t2 := o2.th _ _ (b2 (c := a)) (b2 (c := b))
    exact pairs_bd t1.1 t1.2 t2.1 t2.2
  · rw [hl] at ha hb ⊢
    have t1 := o1.jn _ _ (b1 ha) (b1 hb)
    have t2 := o2.jn _ _ (b2 (c := a)) (b2 (c := b))
    exact pairs_bd t1.1 t1.2 t2.1 t2.2
/-! the table scale made of rows -/
def rowsS (names : List Str) (f : Nat → Nat → Int) : List (List Str) := (List.range names.length).map fun a => (List.range names.length).map fun b => names.getD (f a b).toNat ("" : Str)
theorem rowsS_ok {names : List Str} {f : Nat → Nat → Int} (h : ∀ a b, a < names.length → b < names.length → 0 ≤ f a b ∧ f a b < names.length) : (rowsS names f).length = names.length ∧ ∀ r ∈ rowsS names f, r.length = names.length ∧ ∀ e ∈ r, e ∈ names := by
  unfold rowsS
  refine ⟨by rw [List.length_map, List.length_range], fun r hr => ?_⟩
  obtain ⟨a, ha, rfl⟩ := List.mem_map.mp hr
  have ha := List.mem_range.mp ha
  refine ⟨by rw [List.length_map, List.length_range], fun e he => ?_⟩
  obtain ⟨b, hb, rfl⟩ := List.mem_map.mp he
  have hb := List.mem_range.mp hb
  have := h a b ha hb
  have hi : (f a b).toNat < names.length := by omega
  rw [List.getD_eq_getElem?_getD, List.getElem?_eq_getElem hi]
  exact List.getElem_mem hi
theorem idx_getD {names : List Str} (nd : names.Nodup) {i : Nat} (h : i < names.length) : names.getD i ("" : Str) ∈ names ∧ names.idxOf (names.getD i ("" : Str)) = i := by
  have e : names.getD i ("" : Str) = names[i] := by rw [List.getD_eq_getElem?_getD, List.getElem?_eq_getElem h]; rfl
  rw [e]
  exact ⟨List.getElem_mem h, nd.idxOf_getElem i h⟩
/-! promises -/
/-- rows drawn -/
def IsTabl (sign : Str) : HR := fun v G => ∃ (m : Nat) (d : SD), 1 ≤ m ∧ m < 5 ∧ IsRows d v G ∧ RowOk sign m d
instance (sign) : Mon (IsTabl sign) := ⟨fun s ⟨m, d, a, b, h, o⟩ => ⟨m, d, a, b, Mon.mon s h, o⟩⟩
def IsRI (m : Nat) : HR := fun v G => ∃ fr : Nat → Int, IsIRow m fr v G ∧ ∀ b, b < m → 0 ≤ fr b ∧ fr b < m
instance (m) : Mon (IsRI m) := ⟨fun s ⟨fr, a, b⟩ => ⟨fr, Mon.mon s a, b⟩⟩
theorem Tells.pair {d1 d2 e1 e2 : SD} (h1 : Tells e1 d1 false) (h2 : Tells e2 d2 false) (l2 : 0 < d2.names.length) : Tells (pairSD e1 e2) (pairSD d1 d2) false := by
  have hl : (pairSD d1 d2).names.length = d1.names.length * d2.names.length := pairNames_len d1 d2
  have n2 : e2.names.length = d2.names.length := by rw [h2.nm]
  have b1 : ∀ {c : Nat}, c < d1.names.length * d2.names.length → c / d2.names.length < d1.names.length := fun h => Nat.div_lt_of_lt_mul (by rw [Nat.mul_comm]; exact h)
  have b2 : ∀ {c : Nat}, c % d2.names.length < d2.names.length := Nat.mod_lt _ l2
  refine ⟨?_, ?_, ?_, fun a b ha hb => ?_, fun a b ha hb => ?_⟩
  · show pairNames e1 e2 = pairNames d1 d2
    unfold pairNames
    rw [h1.nm, h2.nm]
  · show e1.nv * e2.names.length + e2.nv = d1.nv * d2.names.length + d2.nv
    rw [h1.nv, h2.nv, n2]
  · show e1.sl * e2.names.length + e2.sl = d1.sl * d2.names.length + d2.sl
    rw [h1.sl, h2.sl, n2]
  · rw [hl] at ha hb
    show e1.th (a / e2.names.length) (b / e2.names.length) * e2.names.length + e2.th (a % e2.names.length) (b % e2.names.length) = d1.th (a / d2.names.length) (b / d2.names.length) * d2.names.length + d2.th (a % d2.names.length) (b % d2.names.length)
    rw [n2, h1.th _ _ (b1 ha) (b1 hb), h2.th _ _ b2 b2]
    rfl
  · rw [hl] at ha hb
    show e1.jn (a / e2.names.length) (b / e2.names.length) * e2.names.length + e2.jn (a % e2.names.length) (b % e2.names.length) = d1.jn (a / d2.names.length) (b / d2.names.length) * d2.names.length + d2.jn (a % d2.names.length) (b % d2.names.length)
    rw [n2, h1.jn _ _ (b1 ha) (b1 hb), h2.jn _ _ b2 b2]
theorem Tells.turn {ds dr : SD} {t : Bool} (h : Tells ds dr t) : Tells (turnSD ds) dr (!t) := by
  refine ⟨h.nm, h.nv, h.sl, fun a b ha hb => ?_, h.jn⟩
  show ds.th b a = _
  rw [h.th b a hb ha]
  cases t <;> rfl
section
variable {K : PySem.W.Frag} {Cs : List Addr} {C : Addr} {G : Hp} {v : V} {d d1 d2 : SD} {l r : Addr}
theorem ScI.to {fs : List (Str × V)} {x dx : Addr} (hCs : C ∈ Cs) (hC : ClsOk K C) (hx : G x = some (.ins C dx fs)) (h : ScI d fs G) (hm : ∀ f ∈ metF, fs.lookup f = none) : ScD K Cs d x G := ⟨C, hCs, hC, dx, fs, hx, h, hm⟩
end
end L2.DS
/-! Scales of heaps. -/
namespace L2.DS
open PySem PySem.Spec PyProof.Rows
/-- the places that a number tells -/
def bitsOf (n : Nat) (a : Nat) : List Nat := (List.range n).filter fun k => decide (Builtin.bitAnd (((a : Nat) : Int) / 2 ^ k) 1 = 1)
def heapName (names : List Str) (a : Nat) : Str := ("{" : Str) ++ Txt.join ("," : Str) ((bitsOf names.length a).map fun k => names.getD k ("" : Str)) ++ ("}" : Str)
def heapNames (names : List Str) : List Str := (List.range (2 ^ names.length)).map (heapName names)
/-- the sets of all products -/
def hth (n : Nat) (th : Nat → Nat → Int) (a b : Nat) : Int := (bitsOf n a).foldl (fun f k => (bitsOf n b).foldl (fun f l => Builtin.bitOr f (1 * 2 ^ (th k l).toNat)) f) 0
def heapSD (d : SD) : SD where
  label := ("(heap " : Str) ++ d.label ++ (")" : Str)
  names := heapNames d.names
  nv := 0
  sl := 1 * 2 ^ d.sl.toNat
  dep := depL [d]
  th := hth d.names.length d.th
  jn := fun a b => Builtin.bitOr (a : Nat) (b : Nat)
/-! bits -/
/-- a list of places -/
def IsIL (L : List Nat) : HR := fun v G => ∃ q, v = .ref q ∧ G q = some (.lst (L.map fun k => V.int (k : Nat)))
instance (L) : Mon (IsIL L) := ⟨fun s ⟨q, e, h⟩ => ⟨q, e, s _ _ h⟩⟩
def HeapsAt (n : Nat) (G : Hp) (p : Addr) : Prop := ∃ hs, G p = some (.lst hs) ∧ RL (fun a => IsIL (bitsOf n a)) (List.range (2 ^ n)) hs G
theorem HeapsAt.mono {n : Nat} {G G' : Hp} {p : Addr} (h : HeapsAt n G p) (s : Same G G') : HeapsAt n G' p := let ⟨hs, a, b⟩ := h; ⟨hs, s _ _ a, rl_mon s b⟩
end L2.DS
/-! The law's own rows of heaps. -/
namespace L2.DS
open PySem PySem.Spec PyProof.Rows
/-- rows of a scale as the law holds them -/
def InnAt (K : PySem.W.Frag) (Cs : List Addr) (d : SD) (G : Hp) (p : Addr) : Prop := ∃ x pn pp, G p = some (.lst [.ref x, .ref pn, .ref pp, .int d.sl]) ∧ ScD K Cs d x G ∧ G pn = some (.lst (d.names.map V.str)) ∧ TabN G pp d.names.length d.th
theorem InnAt.mono {K : PySem.W.Frag} {Cs : List Addr} {d : SD} {G G' : Hp} {p : Addr} (h : InnAt K Cs d G p) (s : Same G G') : InnAt K Cs d G' p := let ⟨x, a, b, h1, h2, h3, h4⟩ := h; ⟨x, a, b, s _ _ h1, h2.mono s, s _ _ h3, h4.mono s⟩
def IsInn (K : PySem.W.Frag) (Cs : List Addr) (d : SD) : HR := fun v G => ∃ p, v = .ref p ∧ InnAt K Cs d G p
instance (K Cs d) : Mon (IsInn K Cs d) := ⟨fun s ⟨p, e, h⟩ => ⟨p, e, h.mono s⟩⟩
structure InOk (d : SD) : Prop where
  ok : SdOk d
  n5 : d.names.length ≤ 5
  d0 : 1 ≤ d.dep
  dp : d.dep ≤ 4
  ll : d.label.length ≤ 60000
  hn : (heapNames d.names).Nodup
  sh : ∀ nm ∈ d.names, nm.length ≤ 100
structure FreeOk (sign : Str) (m : Nat) (d : SD) : Prop where
  nm : d.names = rnames sign m
  ok : InOk d
  dp : d.dep = 1
  ll : d.label.length ≤ 20000
def IsFree (K : PySem.W.Frag) (Cs : List Addr) (sign : Str) (mx : Nat) : HR := fun v G => ∃ (m : Nat) (d : SD), 1 ≤ m ∧ m ≤ mx ∧ IsInn K Cs d v G ∧ FreeOk sign m d
instance (K Cs sign mx) : Mon (IsFree K Cs sign mx) := ⟨fun s ⟨m, d, a, b, h, o⟩ => ⟨m, d, a, b, Mon.mon s h, o⟩⟩
def IsInner (K : PySem.W.Frag) (Cs : List Addr) : HR := fun v G => ∃ d : SD, IsInn K Cs d v G ∧ InOk d
instance (K Cs) : Mon (IsInner K Cs) := ⟨fun s ⟨d, h, o⟩ => ⟨d, Mon.mon s h, o⟩⟩
/-! promises -/
end L2.DS
/-! The inner scales of the law of heaps; tables by two comprehensions. -/
namespace L2.DS
open PySem PySem.Spec PyProof.Rows
/-! the law's tables -/
/-- a list of whole numbers -/
def IsIV (L : List Int) : HR := fun v G => ∃ q, v = .ref q ∧ G q = some (.lst (L.map V.int))
instance (L) : Mon (IsIV L) := ⟨fun s ⟨q, e, h⟩ => ⟨q, e, s _ _ h⟩⟩
/-- the scale that stands first in a row -/
def IsFrS (K : PySem.W.Frag) (Cs : List Addr) (sign : Str) (m : Nat) : HR := fun v G => ∃ d, IsScD K Cs d v G ∧ FreeOk sign m d
instance (K Cs sign m) : Mon (IsFrS K Cs sign m) := ⟨fun s ⟨d, h, o⟩ => ⟨d, Mon.mon s h, o⟩⟩
/-! the law's products -/
theorem depthAll_le {k : Nat} : ∀ {ds : List PyData}, (∀ d ∈ ds, PyData.depth d ≤ k) → PyData.depthAll ds ≤ k
  | [], _ => Nat.zero_le _
  | d :: r, h => by
    show max (PyData.depth d) (PyData.depthAll r) ≤ k
    have := h d List.mem_cons_self
    have := depthAll_le fun x hx => h x (List.mem_cons_of_mem _ hx)
    omega
end L2.DS
/-! Regular scales: the rules of joins and products, kept by pairs, turned scales and heaps. -/
namespace L2.DS
open PySem PySem.Spec PyProof.Rows
structure RegF (n : Nat) (t j : Nat → Nat → Nat) (z u : Nat) : Prop where
  zn : z < n
  un : u < n
  tb : ∀ {a b}, a < n → b < n → t a b < n
  jb : ∀ {a b}, a < n → b < n → j a b < n
  jj : ∀ {a}, a < n → j a a = a
  jc : ∀ {a b}, a < n → b < n → j a b = j b a
  ja : ∀ {a b c}, a < n → b < n → c < n → j (j a b) c = j a (j b c)
  jz : ∀ {a}, a < n → j a z = a
  ta : ∀ {a b c}, a < n → b < n → c < n → t (t a b) c = t a (t b c)
  tu : ∀ {a}, a < n → t u a = a ∧ t a u = a
  tz : ∀ {a}, a < n → t z a = z ∧ t a z = z
  dl : ∀ {a b c}, a < n → b < n → c < n → t a (j b c) = j (t a b) (t a c)
  dr : ∀ {a b c}, a < n → b < n → c < n → t (j a b) c = j (t a c) (t b c)
def SD.T (d : SD) (a b : Nat) : Nat := (d.th a b).toNat
def SD.J (d : SD) (a b : Nat) : Nat := (d.jn a b).toNat
def Reg (d : SD) : Prop := RegF d.names.length d.T d.J d.nv.toNat d.sl.toNat
/-! counts -/
def cntSD (t : Nat) (up : Bool) : SD := ⟨clabel (t : Nat) up, ("never" : Str) :: cwords t, 0, 1, 1, cth (t : Nat), cjn up⟩
/-! spans -/
def spanSD (m : Nat) : SD := ⟨slabel (m : Nat), ("never" : Str) :: swords m, 0, 1, 1, sth m, sjn m⟩
/-! sets -/
def stSD (c : Nat) (may : Bool) : SD := ⟨tlabel (c : Nat) may, ("never" : Str) :: twords c, 0, 1, 1, tth, tjn may⟩
/-! relations -/
def wtSD (s : Nat) : SD := ⟨wlabel (s : Nat), wwords s, 0, wstill s, 1, wth s, wjn⟩
/-! turned scales, pairs, heaps -/
end L2.DS
/-! Names of pairs and heaps are told apart: words with brackets. -/
namespace L2.DS
open PySem PySem.Spec PyProof.Rows
def opnC (c : Nat) : Bool := c == 60 || c == 123
def clsC (c : Nat) : Bool := c == 62 || c == 125
def sepC (c : Nat) : Bool := c == 44 || c == 47
def scanW : Nat → List Nat → Option Nat
  | d, [] => some d
  | d, c :: r => if opnC c then scanW (d + 1) r else if clsC c then (match d with | 0 => none | e + 1 => scanW e r) else if sepC c then (match d with | 0 => none | e + 1 => scanW (e + 1) r) else scanW d r
def okW (s : Str) : Prop := s.cps.toList ≠ [] ∧ scanW 0 s.cps.toList = some 0
instance (s) : Decidable (okW s) := inferInstanceAs (Decidable (_ ∧ _))
theorem str_inj {a b : Str} (h : a.cps.toList = b.cps.toList) : a = b := by
  cases a
  cases b
  congr
  exact Array.toList_inj.mp h
theorem cps_app (a b : Str) : (a ++ b).cps.toList = a.cps.toList ++ b.cps.toList := by
  rw [Str.cps_append]
  simp
/-! pairs -/
/-! heaps -/
end L2.DS
/-! Scales around scales: all that is known of them. -/
namespace L2.DS
open PySem PySem.Spec PyProof.Rows
def nmB (n : Nat) : Nat := 20 * 8 ^ n
def lbB (n : Nat) : Nat := 100 * 3 ^ n
theorem nmB_s (n : Nat) : nmB (n + 1) = nmB n * 8 := by unfold nmB; rw [Nat.pow_succ, Nat.mul_assoc]
theorem lbB_s (n : Nat) : lbB (n + 1) = lbB n * 3 := by unfold lbB; rw [Nat.pow_succ, Nat.mul_assoc]
/-- all that is known of a scale that is n deep at most *above* a family -/
structure TrOk (n : Nat) (d : SD) : Prop where
  ok : SdOk d
  rg : Reg d
  wd : ∀ nm ∈ d.names, okW nm
  nl : ∀ nm ∈ d.names, nm.length ≤ nmB n
  ll : d.label.length ≤ lbB n
  d1 : 1 ≤ d.dep
  d2 : d.dep ≤ n + 1
theorem TrOk.up {n : Nat} {d : SD} (h : TrOk n d) : TrOk (n + 1) d := by
  have e := h.d2
  exact ⟨h.ok, h.rg, h.wd, fun nm m => Nat.le_trans (h.nl nm m) (by rw [nmB_s]; omega), Nat.le_trans h.ll (by rw [lbB_s]; omega), h.d1, by omega⟩
/-! families -/
/-! scales around scales -/
/-- some scale of that kind -/
def IsTr (K : PySem.W.Frag) (Cs : List Addr) (n : Nat) : HR := fun v G => ∃ d, IsScD K Cs d v G ∧ TrOk n d
instance (K Cs n) : Mon (IsTr K Cs n) := ⟨fun s ⟨d, a, b⟩ => ⟨d, Mon.mon s a, b⟩⟩
end L2.DS
/-! The rules of regular scales as sides; the first fault. -/
namespace L2.DS
open PySem PySem.Spec PyProof.Rows
/-! ### general -/
/-- a tuple of values -/
def IsTup (L : List V) : HR := fun v G => ∃ p, v = .ref p ∧ G p = some (.tup L)
instance (L) : Mon (IsTup L) := ⟨fun s ⟨p, e, h⟩ => ⟨p, e, s _ _ h⟩⟩
/-- a tuple of two data -/
def IsPd (K : PySem.W.Frag) (l r : PyData) : HR := fun v G => ∃ p u w, v = .ref p ∧ SqT K G p [u, w] ∧ Dp K G u l ∧ Dp K G w r
instance (K l r) : Mon (IsPd K l r) := ⟨fun s ⟨p, u, w, e, h, a, b⟩ => ⟨p, u, w, e, same_t s h, dp_mon s a, dp_mon s b⟩⟩
/-! ### sides -/
section
variable {S : SR} {n : Nat} {t0 ta tb : TE} {σ : L2.St} {G : Hp} {K : PySem.W.Frag} {Cs : List Addr} {d : SD} {x : Addr} {E : XK} {a b : Nat}
theorem SdOk.T {d : SD} (o : SdOk d) {a b : Nat} (ha : a < d.names.length) (hb : b < d.names.length) : ((d.T a b : Nat) : Int) = d.th a b ∧ d.T a b < d.names.length := by
  have := o.th a b ha hb
  unfold SD.T
  omega
theorem SdOk.J {d : SD} (o : SdOk d) {a b : Nat} (ha : a < d.names.length) (hb : b < d.names.length) : ((d.J a b : Nat) : Int) = d.jn a b ∧ d.J a b < d.names.length := by
  have := o.jn a b ha hb
  unfold SD.J
  omega
end
/-! ### the first worths for which two sides are not equal -/
def wordsF (i : Nat) : Str := (["join-same", "join-swap", "join-group", "join-never", "then-group", "then-still", "then-never", "spread-left", "spread-right"] : List Str).getD i ("" : Str)
def IsFn : Option (List Nat) → HR
  | none => IsV .non
  | some t => fun v G => ∃ p, v = .ref p ∧ G p = some (.tup (t.map fun k => V.int (k : Nat)))
instance : (o : Option (List Nat)) → Mon (IsFn o)
  | none => inferInstanceAs (Mon (IsV .non))
  | some t => ⟨fun s ⟨p, e, h⟩ => ⟨p, e, s _ _ h⟩⟩
def IsFt (K : PySem.W.Frag) (d : SD) : Option (Nat × List Nat) → HR
  | none => IsV .non
  | some (i, t) => fun v G => ∃ p q, v = .ref p ∧ SqT K G p [.str (wordsF i), .ref q] ∧ G q = some (.tup (t.map fun k => V.str (d.names.getD k ("" : Str))))
instance (K d) : (o : Option (Nat × List Nat)) → Mon (IsFt K d o)
  | none => inferInstanceAs (Mon (IsV .non))
  | some (i, t) => ⟨fun s ⟨p, q, e, h, h'⟩ => ⟨p, q, e, same_t s h, s _ _ h'⟩⟩
end L2.DS
/-! Scales that a law makes. -/
namespace L2.DS
open PySem PySem.Spec PyProof.Rows
/-- a scale of which P tells -/
def IsScP (K : PySem.W.Frag) (Cs : List Addr) (P : SD → Prop) : HR := fun v G => ∃ d, IsScD K Cs d v G ∧ P d
instance (K Cs P) : Mon (IsScP K Cs P) := ⟨fun s ⟨d, a, b⟩ => ⟨d, Mon.mon s a, b⟩⟩
end L2.DS
/-! Operators of own classes. -/
namespace L2.DS
open PySem PySem.Spec PyProof.Rows
/-! ### x != y by an own __eq__ -/
/-! ### rules -/
/-! ### own errors without an own __init__ -/
/-- .. over ValueError -/
structure Ex0C (K : PySem.W.Frag) (C : Addr) : Prop where
  q : PySem.W.excIn K C (eTail "ValueError") "ValueError.__new__" = true
  kC : PySem.W.keepIn K (.ref C) = true
  b : PySem.W.subIn K (.ref C) (.type "BaseException") = some true
  t : PySem.W.typeIn K (.ref C) = some (.type "type")
/-- raise C() -/
def tRaise0 (C : Addr) (W : WX) : TS := fun _ σ H => W (.ref C) none σ H
theorem q_raise0 {W : WX} {C : Addr} {u : TS} {σ : L2.St} {H : Hp} {nx bk ct : L2.St → Hp → Prop} {rt : VK} (h : W (.ref C) none σ H) : tSeq (tRaise0 C W) u (Ends.mk nx rt bk ct) σ H := h
/-! ### while -/
/-! ### errors that go on -/
theorem passE {X : Cx} {E : XK} (tk : Takes X (fun cls d _ H => E cls d H)) : Passes (L2.CX X.prog X.w) X E := fun pins σ H s e s' I c => passAt tk σ pins H s e s' I c
end L2.DS
/-! Worths: what their defs promise; powers and stars. -/
namespace L2.DS
open PySem PySem.Spec PyProof.Rows
def wtF : List Str := ["scale", "place", "name"]
/-- a worth p of the scale d stands at w -/
def WtAt (K : PySem.W.Frag) (Cs : List Addr) (CW : Addr) (d : SD) (p : Nat) (w : Addr) (G : Hp) : Prop := ∃ dx fs x, G w = some (.ins CW dx fs) ∧ fs.lookup ("scale" : Str) = some (.ref x) ∧ fs.lookup ("place" : Str) = some (.int (p : Nat)) ∧ fs.lookup ("name" : Str) = some (.str (d.names.getD p ("" : Str))) ∧
  ScD K Cs d x G ∧ p < d.names.length ∧ ∀ f, f ∉ wtF → fs.lookup f = none
theorem WtAt.mono {K : PySem.W.Frag} {Cs : List Addr} {CW : Addr} {d : SD} {p : Nat} {w : Addr} {G G' : Hp} (h : WtAt K Cs CW d p w G) (s : Same G G') : WtAt K Cs CW d p w G' := by
  obtain ⟨dx, fs, x, a, b, c, e, f, g⟩ := h
  exact ⟨dx, fs, x, s _ _ a, b, c, e, f.mono s, g⟩
def IsWt (K : PySem.W.Frag) (Cs : List Addr) (CW : Addr) (d : SD) (p : Nat) : HR := fun v G => ∃ w, v = .ref w ∧ WtAt K Cs CW d p w G
instance (K Cs CW d p) : Mon (IsWt K Cs CW d p) := ⟨fun s ⟨w, e, h⟩ => ⟨w, e, h.mono s⟩⟩
/-! ### promises -/
/-! ### powers -/
def pw (d : SD) (p : Nat) : Nat → Nat
  | 0 => d.sl.toNat
  | n + 1 => d.T (pw d p n) p
theorem SdOk.sl' {d : SD} (o : SdOk d) : d.sl.toNat < d.names.length := by have := o.sl; omega
theorem pw_lt {d : SD} (o : SdOk d) {p : Nat} (hp : p < d.names.length) : ∀ n, pw d p n < d.names.length
  | 0 => o.sl'
  | n + 1 => (o.T (pw_lt o hp n) hp).2
/-- the first L powers are told apart -/
def Dst (d : SD) (p L : Nat) : Prop := ∀ i j, i < j → j < L → pw d p i ≠ pw d p j
/-- .. and the next one is among them, at b -/
structure Orb (d : SD) (p L b : Nat) : Prop where
  ds : Dst d p L
  lt : b < L
  eq : pw d p L = pw d p b
def pwL (d : SD) (p L : Nat) : List Nat := (List.range L).map (pw d p)
theorem pwL_len (d : SD) (p L : Nat) : (pwL d p L).length = L := by unfold pwL; rw [List.length_map, List.length_range]
theorem pwL_mem {d : SD} {p L x : Nat} : x ∈ pwL d p L ↔ ∃ i, i < L ∧ pw d p i = x := by
  unfold pwL
  rw [List.mem_map]
  constructor
  · rintro ⟨i, hi, e⟩
    exact ⟨i, List.mem_range.mp hi, e⟩
  · rintro ⟨i, hi, e⟩
    exact ⟨i, List.mem_range.mpr hi, e⟩
theorem Dst.snoc {d : SD} {p L : Nat} (h : Dst d p L) (n : pw d p L ∉ pwL d p L) : Dst d p (L + 1) := by
  intro i j hij hj e
  by_cases hjl : j = L
  · subst hjl
    exact n (pwL_mem.mpr ⟨i, hij, e⟩)
  · exact h i j hij (by omega) e
/-- boxes and pigeons -/
theorem pig : ∀ (n : Nat) (l : List Nat), l.Nodup → (∀ x ∈ l, x < n) → l.length ≤ n
  | 0, [], _, _ => Nat.le_refl 0
  | 0, a :: _, _, h => absurd (h a List.mem_cons_self) (Nat.not_lt_zero _)
  | n + 1, l, nd, h => by
    have z := pig n (l.erase n) (nd.erase n) fun x hx => by
      have h1 := h x (List.mem_of_mem_erase hx)
      have h2 : x ≠ n := ((List.Nodup.mem_erase_iff nd).mp hx).1
      omega
    by_cases hm : n ∈ l
    · rw [List.length_erase_of_mem hm] at z
      omega
    · rw [List.erase_of_not_mem hm] at z
      omega
theorem Dst.len {d : SD} {p L : Nat} (o : SdOk d) (hp : p < d.names.length) (h : Dst d p L) : L ≤ d.names.length := by
  have z := pig d.names.length (pwL d p L) ?_ fun x hx => by
    obtain ⟨i, _, rfl⟩ := pwL_mem.mp hx
    exact pw_lt o hp i
  · rw [pwL_len] at z
    exact z
  · unfold pwL List.Nodup
    rw [List.pairwise_map]
    refine List.Pairwise.imp_of_mem (fun {x y} hx hy hxy => h x y hxy (List.mem_range.mp hy)) (List.pairwise_lt_range (n := L))
/-! ### stars -/
/-- the join of the powers 0 to n -/
def stj (d : SD) (p : Nat) : Nat → Nat
  | 0 => d.sl.toNat
  | n + 1 => d.J (stj d p n) (pw d p (n + 1))
/-- a.star -/
def IsStar (K : PySem.W.Frag) (Cs : List Addr) (CW : Addr) (d : SD) (p : Nat) : HR := fun v G => ∃ L b, Orb d p L b ∧ IsWt K Cs CW d (stj d p (L - 1)) v G
instance (K Cs CW d p) : Mon (IsStar K Cs CW d p) := ⟨fun s ⟨L, b, o, h⟩ => ⟨L, b, o, Mon.mon s h⟩⟩
/-! ### lists of places -/
abbrev nVs (l : List Nat) : List V := l.map fun k => V.int (k : Nat)
/-! ### operators by values -/
end L2.DS
/-! The laws' own tables of places, and the table scale made of them. -/
namespace L2.DS
open PySem PySem.Spec PyProof.Rows
/-- the scale that a table of places makes -/
def tabSD (names : List Str) (nv sl : Nat) (th jn : Nat → Nat → Int) : SD := ⟨tbLab names (names.getD nv ("" : Str)) (names.getD sl ("" : Str)) (rowsS names jn) (rowsS names th), names, (nv : Nat), (sl : Nat), 1, th, jn⟩
/-- what is known of such tables -/
structure TbIs (names : List Str) (nv sl : Nat) (th jn : Nat → Nat → Int) : Prop where
  l1 : 1 ≤ names.length
  l2 : names.length ≤ 16
  nd : names.Nodup
  ok : ∀ nm ∈ names, okNm nm = true
  so : ∀ nm ∈ names, PyData.strOk nm = true
  nv : nv < names.length
  sl : sl < names.length
  th : ∀ a b, a < names.length → b < names.length → 0 ≤ th a b ∧ th a b < names.length
  jn : ∀ a b, a < names.length → b < names.length → 0 ≤ jn a b ∧ jn a b < names.length
section
variable {names : List Str} {nv sl : Nat} {th jn : Nat → Nat → Int}
theorem TbIs.tb (h : TbIs names nv sl th jn) : TbOk names (rowsS names jn) (rowsS names th) (names.getD nv ("" : Str)) (names.getD sl ("" : Str)) := by
  have rj := rowsS_ok h.jn
  have rt := rowsS_ok h.th
  exact ⟨h.l1, h.l2, h.nd, h.ok, (idx_getD h.nd h.nv).1, (idx_getD h.nd h.sl).1, rj.1, rj.2, rt.1, rt.2⟩
end
/-- the laws' rows of a table scale: names, joins, products, never, still, the scale -/
def TbAt (K : PySem.W.Frag) (Cs : List Addr) (names : List Str) (nv sl : Nat) (th jn : Nat → Nat → Int) (p : Addr) (G : Hp) : Prop := ∃ pn pj pp x, G p = some (.lst [.ref pn, .ref pj, .ref pp, .int (nv : Nat), .int (sl : Nat), .ref x]) ∧ G pn = some (.lst (names.map V.str)) ∧ TabN G pj names.length jn ∧ TabN G pp names.length th ∧ ScD K Cs (tabSD names nv sl th jn) x G
theorem TbAt.mono {K : PySem.W.Frag} {Cs : List Addr} {names : List Str} {nv sl : Nat} {th jn : Nat → Nat → Int} {p : Addr} {G G' : Hp} (h : TbAt K Cs names nv sl th jn p G) (s : Same G G') : TbAt K Cs names nv sl th jn p G' := by
  obtain ⟨pn, pj, pp, x, a, b, c, d, e⟩ := h
  exact ⟨pn, pj, pp, x, s _ _ a, s _ _ b, c.mono s, d.mono s, e.mono s⟩
def IsTb (K : PySem.W.Frag) (Cs : List Addr) (P : SD → Prop) : HR := fun v G => ∃ (p : Addr) (names : List Str) (nv sl : Nat) (th jn : Nat → Nat → Int), v = .ref p ∧ TbAt K Cs names nv sl th jn p G ∧ TbIs names nv sl th jn ∧ P (tabSD names nv sl th jn)
instance (K Cs P) : Mon (IsTb K Cs P) := ⟨fun s ⟨p, names, nv, sl, th, jn, e, a, b, c⟩ => ⟨p, names, nv, sl, th, jn, e, a.mono s, b, c⟩⟩
/-! ### the five sorts of regular tables -/
/-! ### a list that was newly made is changed -/
/-- a row newly made -/
def IsIRn (F : Hp) (n : Nat) (f : Nat → Int) : HR := IsNew F (.lst ((List.range n).map fun b => V.int (f b)))
instance (F n f) : Mon (IsIRn F n f) := inferInstanceAs (Mon (IsNew _ _))
/-! ### rows told apart -/
end L2.DS
/-! Residuals and stars on regular scales; joins of lists of places. -/
/-! Lists of things of one kind that grow; the values of and, or, not of worths. -/
namespace L2.DS
open PySem PySem.Spec PyProof.Rows
/-- n things of one kind -/
def AllR (R : HR) (n : Nat) : HRs := fun xs G => ∃ ss : List Nat, RL (fun _ => R) ss xs G ∧ ss.length = n
instance (R : HR) [Mon R] (n : Nat) : Mons (AllR R n) := ⟨fun s ⟨ss, r, l⟩ => ⟨ss, rl_mon s r, l⟩⟩
theorem AllR.len {R : HR} {n : Nat} {xs : List V} {G : Hp} (h : AllR R n xs G) : xs.length = n := by
  obtain ⟨ss, r, l⟩ := h
  rw [rl_len r, l]
theorem AllR.app {R : HR} {n m : Nat} {xs ys : List V} {G : Hp} (h : AllR R n xs G) (h' : AllR R m ys G) : AllR R (n + m) (xs ++ ys) G := by
  obtain ⟨ss, r, l⟩ := h
  obtain ⟨ts, r', l'⟩ := h'
  exact ⟨ss ++ ts, rl_app r r', by rw [List.length_append, l, l']⟩
theorem AllR.one {R : HR} {v : V} {G : Hp} (h : R v G) : AllR R 1 [v] G := ⟨[0], rl_one h, rfl⟩
theorem AllR.get {R : HR} {n i : Nat} {xs : List V} {G : Hp} (h : AllR R n xs G) (hi : i < n) : ∃ v, xs[i]? = some v ∧ R v G := by
  obtain ⟨ss, r, l⟩ := h
  exact rl_get r (List.getElem?_eq_getElem (by omega))
/-- a list newly made of things that stood before it -/
def IsNXF (S : SR) (G0 : Hp) (RA : HRs) : HR := fun v G => ∃ F p xs m J, S m F J ∧ v = .ref p ∧ Same G0 F ∧ F p = none ∧ Same F G ∧ RA xs F ∧ G p = some (.lst xs)
instance (S G0 RA) : Mon (IsNXF S G0 RA) := ⟨fun s ⟨F, p, xs, m, J, z, e, a, b, c, d, g⟩ => ⟨F, p, xs, m, J, z, e, a, b, c.trans s, d, s _ _ g⟩⟩
section
variable {S : SR} {n k ka kb m i : Nat} {te to : TE} {t : TA} {σ : L2.St} {G : Hp} {K : PySem.W.Frag} {R : HR} {p q : Addr} {xs ys : List V}
theorem Fr.new {S : SR} {G H F G1 H1 : Hp} {D : Addr} {o : HO} (f : Fr S G H G1 H1) (a : Same G F) (hF : F D = none) (hD : G1 D = some o) : H D = none := (f.n D o hD).resolve_left fun z => by rw [a _ _ z] at hF; cases hF
end
/-! ### worths of one scale -/
/-- some worth of d -/
def IsWtA (K : PySem.W.Frag) (Cs : List Addr) (CW : Addr) (d : SD) : HR := fun v G => ∃ (w : Addr) (p : Nat), v = .ref w ∧ WtAt K Cs CW d p w G
instance (K Cs CW d) : Mon (IsWtA K Cs CW d) := ⟨fun s ⟨w, p, e, h⟩ => ⟨w, p, e, h.mono s⟩⟩
end L2.DS
/-! Texts cut into words; lists of lists that grow and are closed. -/
namespace L2.DS
open PySem PySem.Spec PyProof.Rows
/-! ### a def in which a token is out -/
section
variable {X : Cx} {o e : Expr} {to te : TE}
theorem pmk_ownS {C : Addr} {m x : Str} {j : Nat} {p p2 pos : Pos} (e : Ex0C X.K C) (gC : X.mg x = some (.ref C)) (hg : Gl X x := by rfl) (hdb : (x == ("__debug__" : Str)) = false := by decide) : L2.PMk X (.Call (.Name x p) [.Constant (.str m) j p2] [] pos) (fun _ H Q => Q (.ref C) none H) :=
  pmk_own PySem.F.excBase_ValueError e.q gC e.kC (raises_own e.b e.t) hg hdb
end
/-- raise C('..') -/
theorem ps_raiseS {X : Cx} {W : WX} {C : Addr} {m x : Str} {j : Nat} {p p2 pos pos2 : Pos} (hc : X.calm = true) (e : Ex0C X.K C) (gC : X.mg x = some (.ref C)) (tk : Takes X W) (hg : Gl X x := by rfl) (hdb : (x == ("__debug__" : Str)) = false := by decide) : PS X (.Raise (some (.Call (.Name x p) [.Constant (.str m) j p2] [] pos)) none pos2) (tRaise0 C W) :=
  ps_raise hc tk (pmk_ownS e gC hg hdb)
/-! ### words in lists -/
inductive Wd where
  | w (s : Str)
  | l (ws : List Wd)
mutual
def WdAt : Wd → V → Hp → Prop
  | .w s, v, _ => v = .str s
  | .l ws, v, G => ∃ p xs, v = .ref p ∧ G p = some (.lst xs) ∧ WdsAt ws xs G
def WdsAt : List Wd → List V → Hp → Prop
  | [], xs, _ => xs = []
  | a :: r, xs, G => ∃ x ys, xs = x :: ys ∧ WdAt a x G ∧ WdsAt r ys G
end
mutual
theorem WdAt.mono : ∀ {a : Wd} {v : V} {G G' : Hp}, WdAt a v G → Same G G' → WdAt a v G'
  | .w _, _, _, _, h, _ => by
    unfold WdAt at h ⊢
    exact h
  | .l ws, _, _, _, h, s => by
    unfold WdAt at h ⊢
    obtain ⟨p, xs, e, g, h⟩ := h
    exact ⟨p, xs, e, s _ _ g, WdsAt.mono h s⟩
theorem WdsAt.mono : ∀ {a : List Wd} {v : List V} {G G' : Hp}, WdsAt a v G → Same G G' → WdsAt a v G'
  | [], _, _, _, h, _ => by
    unfold WdsAt at h ⊢
    exact h
  | a :: r, _, _, _, h, s => by
    unfold WdsAt at h ⊢
    obtain ⟨x, ys, e, h1, h2⟩ := h
    exact ⟨x, ys, e, WdAt.mono h1 s, WdsAt.mono h2 s⟩
end
theorem WdsAt.nil {G : Hp} : WdsAt [] [] G := by
  unfold WdsAt
  rfl
theorem WdsAt.cons {a : Wd} {r : List Wd} {x : V} {ys : List V} {G : Hp} (h : WdAt a x G) (h' : WdsAt r ys G) : WdsAt (a :: r) (x :: ys) G := by
  unfold WdsAt
  exact ⟨x, ys, rfl, h, h'⟩
theorem WdsAt.of_nil {xs : List V} {G : Hp} (h : WdsAt [] xs G) : xs = [] := by
  unfold WdsAt at h
  exact h
theorem WdsAt.of_cons {a : Wd} {r : List Wd} {xs : List V} {G : Hp} (h : WdsAt (a :: r) xs G) : ∃ x ys, xs = x :: ys ∧ WdAt a x G ∧ WdsAt r ys G := by
  unfold WdsAt at h
  exact h
theorem WdsAt.len : ∀ {a : List Wd} {xs : List V} {G : Hp}, WdsAt a xs G → xs.length = a.length
  | [], _, _, h => by rw [h.of_nil]; rfl
  | a :: r, _, _, h => by
    obtain ⟨x, ys, rfl, _, h2⟩ := h.of_cons
    rw [List.length_cons, List.length_cons, h2.len]
theorem WdsAt.snoc : ∀ {a : List Wd} {xs : List V} {G : Hp} {b : Wd} {y : V}, WdsAt a xs G → WdAt b y G → WdsAt (a ++ [b]) (xs ++ [y]) G
  | [], _, _, _, _, h, h' => by
    rw [h.of_nil]
    exact .cons h' .nil
  | a :: r, _, _, _, _, h, h' => by
    obtain ⟨x, ys, rfl, h1, h2⟩ := h.of_cons
    exact .cons h1 (h2.snoc h')
theorem WdsAt.get : ∀ {a : List Wd} {xs : List V} {G : Hp} {i : Nat} {b : Wd}, WdsAt a xs G → a[i]? = some b → ∃ x, xs[i]? = some x ∧ WdAt b x G
  | [], _, _, _, _, _, e => by simp at e
  | a :: r, _, _, 0, _, h, e => by
    obtain ⟨x, ys, rfl, h1, h2⟩ := h.of_cons
    obtain rfl : a = _ := by simpa using e
    exact ⟨x, rfl, h1⟩
  | a :: r, _, _, i + 1, _, h, e => by
    obtain ⟨x, ys, rfl, h1, h2⟩ := h.of_cons
    exact h2.get (i := i) (by simpa using e)
theorem WdAt.w {s : Str} {G : Hp} : WdAt (.w s) (.str s) G := by
  unfold WdAt
  rfl
theorem WdAt.l {ws : List Wd} {p : Addr} {xs : List V} {G : Hp} (g : G p = some (.lst xs)) (h : WdsAt ws xs G) : WdAt (.l ws) (.ref p) G := by
  unfold WdAt
  exact ⟨p, xs, rfl, g, h⟩
/-! ### parentheses -/
def nwOp (t : Str) (st : List (List Wd)) : Option (List (List Wd)) :=
  if t = ("(" : Str) then some ([] :: st) else if t = (")" : Str) then (match st with | a :: b :: r => some ((b ++ [.l a]) :: r) | _ => none) else if t = ("" : Str) then some st else match st with | a :: r => some ((a ++ [.w t]) :: r) | [] => none
def nwStep (D : Nat) (t : Str) (st : List (List Wd)) : Option (List (List Wd)) := (nwOp t st).bind fun s => if s.length ≤ D then some s else none
def nwRun (D : Nat) : List Str → List (List Wd) → Option (List (List Wd))
  | [], st => some st
  | t :: r, st => (nwStep D t st).bind (nwRun D r)
def nwEnd : List (List Wd) → Option (List Wd)
  | [ws] => some ws
  | _ => none
def nw (D : Nat) (ts : List Str) : Option (List Wd) := (nwRun D ts [[]]).bind nwEnd
def toks (x : Str) : List Str := Txt.split (Txt.replace (Txt.replace x ("(" : Str) (" ( " : Str)) (")" : Str) (" ) " : Str)) (" " : Str)
def Opn (H G : Hp) : List Addr → List (List Wd) → Prop
  | [], [] => True
  | r :: rs, ws :: st => (∃ xs, H r = some (.lst xs) ∧ WdsAt ws xs G) ∧ Opn H G rs st
  | _, _ => False
theorem Opn.len {H G : Hp} : ∀ {rs : List Addr} {st : List (List Wd)}, Opn H G rs st → rs.length = st.length
  | [], [], _ => rfl
  | _ :: rs, _ :: st, h => by rw [List.length_cons, List.length_cons, h.2.len]
  | [], _ :: _, h => h.elim
  | _ :: _, [], h => h.elim
theorem Opn.go {H G H' G' : Hp} : ∀ {rs : List Addr} {st : List (List Wd)}, Opn H G rs st → Same G G' → (∀ r ∈ rs, ∀ xs, H r = some (.lst xs) → H' r = some (.lst xs)) → Opn H' G' rs st
  | [], [], _, _, _ => trivial
  | r :: rs, _ :: st, h, s, k => by
    obtain ⟨⟨xs, hx, hw⟩, h⟩ := h
    exact ⟨⟨xs, k r List.mem_cons_self _ hx, hw.mono s⟩, h.go s fun r' hr => k r' (List.mem_cons_of_mem _ hr)⟩
  | [], _ :: _, h, _, _ => h.elim
  | _ :: _, [], h, _, _ => h.elim
theorem Opn.some {H G : Hp} : ∀ {rs : List Addr} {st : List (List Wd)}, Opn H G rs st → ∀ r ∈ rs, ∃ xs, H r = some (.lst xs)
  | [], [], _, r, hr => by cases hr
  | a :: rs, _ :: st, h, r, hr => by
    rcases List.mem_cons.mp hr with rfl | hr
    · exact ⟨_, h.1.choose_spec.1⟩
    · exact h.2.some r hr
  | [], _ :: _, h, _, _ => h.elim
  | _ :: _, [], h, _, _ => h.elim
/-- the open lists at L, in the heap H; G tells of what stands still -/
structure NwI (G0 H0 G H : Hp) (L : Addr) (rs : List Addr) (st : List (List Wd)) : Prop where
  s : Grow G0 H0 G H
  l : H L = some (.lst (rs.reverse.map V.ref))
  o : Opn H G rs st
  n : (L :: rs).Nodup
  h0 : ∀ r ∈ L :: rs, H0 r = none
  g : ∀ r ∈ L :: rs, G r = none
section
variable {G0 H0 G H J : Hp} {L r : Addr} {rs : List Addr} {st : List (List Wd)} {K : PySem.W.Frag}
theorem NwI.sp (h : NwI G0 H0 G H L rs st) : (SP0 G0 H0).s 0 G H := h.s
theorem NwI.pub (hs : Same G0 H0) (h : NwI G0 H0 G H L rs st) : (SP0 G0 H0).s 0 (upd G L (.lst (rs.reverse.map V.ref))) H :=
  (stab0 G0 H0).pub (n := 0) (m := 0) (Grow.refl hs) (h.h0 L List.mem_cons_self) h.sp (h.g L List.mem_cons_self) h.l
theorem NwI.same (h : NwI G0 H0 G H L rs st) : Same G (upd G L (.lst (rs.reverse.map V.ref))) := fun b o e => by
  rw [upd_ne (ne_of_none e (h.g L List.mem_cons_self))]
  exact e
theorem NwI.k (h : NwI G0 H0 G H L rs st) (k : Kp (SP0 G0 H0) H J) (s : Grow G0 H0 G J) : NwI G0 H0 G J L rs st :=
  ⟨s, k.k _ _ (fun z => z) h.l, h.o.go (Same.refl _) fun r hr xs e => k.k _ _ (fun z => z) e, h.n, h.h0, h.g⟩
theorem NwI.grow {n : Nat} {G2 H2 : Hp} (h : NwI G0 H0 G H L rs st) (s : Stp (SP0 G0 H0) n G H G2 H2) : NwI G0 H0 G2 H2 L rs st := by
  refine ⟨s.s, s.k.k _ _ (fun z => z) h.l, h.o.go s.g fun r hr xs e => s.k.k _ _ (fun z => z) e, h.n, h.h0, fun r hr => ?_⟩
  cases hz : G2 r with
  | none => rfl
  | some o =>
    rcases s.n r o hz with e | e
    · rw [h.g r hr] at e
      cases e
    · rcases List.mem_cons.mp hr with rfl | hr
      · rw [h.l] at e
        cases e
      · obtain ⟨xs, e'⟩ := h.o.some r hr
        rw [e'] at e
        cases e
/-- a list more -/
theorem NwI.push (h : NwI G0 H0 G H L rs st) (k : Kp (SP0 G0 H0) H J) (hr : J r = some (.lst [])) (hr0 : H r = none) (gr : G r = none) (s : Grow G0 H0 G (upd J L (.lst (rs.reverse.map V.ref ++ [.ref r])))) : NwI G0 H0 G (upd J L (.lst (rs.reverse.map V.ref ++ [.ref r]))) L (r :: rs) ([] :: st) := by
  have hl : H L ≠ none := by rw [h.l]; simp
  have rL : r ≠ L := fun e => hl (e ▸ hr0)
  have rr : r ∉ rs := fun hm => by
    obtain ⟨xs, e⟩ := h.o.some r hm
    rw [hr0] at e
    cases e
  have nL : L ∉ rs := (List.nodup_cons.mp h.n).1
  refine ⟨s, ?_, ⟨⟨[], by rw [upd_ne rL]; exact hr, .nil⟩, h.o.go (Same.refl _) fun r' hr' xs e => ?_⟩, ?_, fun r' hm => ?_, fun r' hm => ?_⟩
  · rw [upd_same, List.reverse_cons, List.map_append]
    rfl
  · rw [upd_ne (show r' ≠ L from fun z => nL (z ▸ hr'))]
    exact k.k _ _ (fun z => z) e
  · refine List.nodup_cons.mpr ⟨fun hm => ?_, List.nodup_cons.mpr ⟨rr, (List.nodup_cons.mp h.n).2⟩⟩
    rcases List.mem_cons.mp hm with e | hm
    · exact rL e.symm
    · exact nL hm
  · rcases List.mem_cons.mp hm with rfl | hm
    · exact h.h0 _ List.mem_cons_self
    rcases List.mem_cons.mp hm with rfl | hm
    · cases hz : H0 r' with
      | none => rfl
      | some o =>
        have := h.s.h _ _ hz
        rw [hr0] at this
        cases this
    · exact h.h0 _ (List.mem_cons_of_mem _ hm)
  · rcases List.mem_cons.mp hm with rfl | hm
    · exact h.g _ List.mem_cons_self
    rcases List.mem_cons.mp hm with rfl | hm
    · exact gr
    · exact h.g _ (List.mem_cons_of_mem _ hm)
/-- the last list is closed -/
theorem NwI.close {ws : List Wd} {xs : List V} (hs : Same G0 H0) (h : NwI G0 H0 G H L (r :: rs) (ws :: st)) (hx : H r = some (.lst xs)) (hw : WdsAt ws xs G) (s : Grow G0 H0 G (upd H L (.lst (rs.reverse.map V.ref)))) : NwI G0 H0 (upd G r (.lst xs)) (upd H L (.lst (rs.reverse.map V.ref))) L rs st ∧ WdAt (.l ws) (.ref r) (upd G r (.lst xs)) := by
  have nL := (List.nodup_cons.mp h.n).1
  have nn := List.nodup_cons.mp (List.nodup_cons.mp h.n).2
  have rm : r ∈ L :: r :: rs := List.mem_cons_of_mem _ List.mem_cons_self
  have rL : r ≠ L := fun z => nL (z ▸ List.mem_cons_self)
  have su : Same G (upd G r (.lst xs)) := fun b o e => by
    rw [upd_ne (ne_of_none e (h.g r rm))]
    exact e
  refine ⟨⟨(stab0 G0 H0).pub (n := 0) (m := 0) (Grow.refl hs) (h.h0 r rm) s (h.g r rm) (by rw [upd_ne rL]; exact hx), upd_same, h.o.2.go su fun r' hr' xs' e => ?_, List.nodup_cons.mpr ⟨fun hm => nL (List.mem_cons_of_mem _ hm), nn.2⟩, fun r' hm => ?_, fun r' hm => ?_⟩, .l upd_same (hw.mono su)⟩
  · rw [upd_ne (show r' ≠ L from fun z => nL (z ▸ List.mem_cons_of_mem _ hr'))]
    exact e
  · rcases List.mem_cons.mp hm with rfl | hm
    · exact h.h0 _ List.mem_cons_self
    · exact h.h0 _ (List.mem_cons_of_mem _ (List.mem_cons_of_mem _ hm))
  · have e : r' ≠ r := by
      rcases List.mem_cons.mp hm with e | hm
      · rw [e]
        exact fun z => rL z.symm
      · exact fun z => nn.1 (z ▸ hm)
    rw [upd_ne e]
    rcases List.mem_cons.mp hm with rfl | hm
    · exact h.g _ List.mem_cons_self
    · exact h.g _ (List.mem_cons_of_mem _ (List.mem_cons_of_mem _ hm))
end
end L2.DS
/-! The words of a label (plain law). -/
namespace L2.DS
open PySem PySem.Spec PyProof.Rows _root_.TL
/-! ### signs -/
def g1S (k : Nat) : List Nat := if k = 40 then [32, 40, 32] else [k]
def g2S (k : Nat) : List Nat := if k = 41 then [32, 41, 32] else [k]
def gS (k : Nat) : List Nat := if k = 40 then [32, 40, 32] else if k = 41 then [32, 41, 32] else [k]
theorem repl_one {c : Nat} {z : List Nat} : ∀ l : List Nat, StrLaws.replL [c] z l = l.flatMap fun k => if k = c then z else [k]
  | [] => StrLaws.replL_nil
  | k :: r => by
    rw [List.flatMap_cons]
    by_cases h : k = c
    · subst h
      rw [StrLaws.replL_hit (by simp) (by simp), if_pos rfl]
      show z ++ StrLaws.replL [k] z r = _
      rw [repl_one r]
    · rw [StrLaws.replL_miss (by simpa using h), if_neg h, repl_one r]
      rfl
theorem gS_is (l : List Nat) : (l.flatMap g1S).flatMap g2S = l.flatMap gS := by
  rw [List.flatMap_assoc]
  congr 1
  funext k
  unfold g1S gS
  by_cases h : k = 40
  · rw [if_pos h, if_pos h]
    decide
  · rw [if_neg h, if_neg h]
    show g2S k ++ [] = _
    rw [List.append_nil]
    rfl
theorem toks_tl (x : Str) : (toks x).map tl = TL.spl [32] 0 [] ((tl x).flatMap gS) := by
  unfold toks
  have a1 : tl (Txt.replace x ("(" : Str) (" ( " : Str)) = (tl x).flatMap g1S := by
    rw [show tl (Txt.replace x ("(" : Str) (" ( " : Str)) = _ from StrLaws.replace_list (by decide +kernel), show ("(" : Str).cps.toList = [40] from by decide +kernel, show (" ( " : Str).cps.toList = [32, 40, 32] from by decide +kernel, repl_one]
    rfl
  have a2 : tl (Txt.replace (Txt.replace x ("(" : Str) (" ( " : Str)) (")" : Str) (" ) " : Str)) = (tl x).flatMap gS := by
    rw [show tl (Txt.replace (Txt.replace x ("(" : Str) (" ( " : Str)) (")" : Str) (" ) " : Str)) = _ from StrLaws.replace_list (by decide +kernel), show (")" : Str).cps.toList = [41] from by decide +kernel, show (" ) " : Str).cps.toList = [32, 41, 32] from by decide +kernel, repl_one]
    show (tl (Txt.replace x ("(" : Str) (" ( " : Str))).flatMap g2S = _
    rw [a1, gS_is]
  have sp : tl (" " : Str) = [32] := by decide +kernel
  rw [split_spl _ _ (by rw [sp]; simp) (by
    have : Builtin.Str.strKind (" " : Str) = 1 := by decide +kernel
    rw [this]
    unfold Builtin.Str.strKind
    split
    · omega
    · split <;> omega), a2, sp]
/-- the words of a text that are not empty -/
def TLw (l : List Nat) : List (List Nat) := (TL.spl [32] 0 [] (l.flatMap gS)).filter (· ≠ [])
def Tk (x : Str) : List Str := (toks x).filter (· ≠ ("" : Str))
theorem tl_nil {x : Str} : x = ("" : Str) ↔ tl x = [] := ⟨fun h => by rw [h]; decide +kernel, fun h => ext_tl (by rw [h]; decide +kernel)⟩
theorem Tk_tl (x : Str) : (Tk x).map tl = TLw (tl x) := by
  unfold Tk TLw
  rw [← toks_tl, List.filter_map]
  congr 1
  apply List.filter_congr
  intro a _
  show decide (a ≠ ("" : Str)) = decide (tl a ≠ [])
  exact decide_eq_decide.mpr (not_congr tl_nil)
theorem spl_app {b : List Nat} : ∀ (a acc : List Nat), TL.spl [32] 0 acc (a ++ 32 :: b) = TL.spl [32] 0 acc a ++ TL.spl [32] 0 [] b
  | [], acc => by
    rw [List.nil_append, spl_hit (by simp [pre]), spl_nil]
    rfl
  | c :: r, acc => by
    by_cases h : c = 32
    · subst h
      rw [List.cons_append, spl_hit (by simp [pre]), spl_hit (by simp [pre])]
      show acc :: TL.spl [32] 0 [] (r ++ 32 :: b) = acc :: TL.spl [32] 0 [] r ++ _
      rw [spl_app r]
      rfl
    · have hp : ∀ q, pre [32] (c :: q) = false := fun q => by simp [pre, h]
      rw [List.cons_append, spl_miss (hp _), spl_miss (hp _), spl_app r]
theorem TLw_sp (a b : List Nat) : TLw (a ++ 32 :: b) = TLw a ++ TLw b := by
  unfold TLw
  rw [List.flatMap_append, List.flatMap_cons, show gS 32 = [32] from by decide]
  show (TL.spl [32] 0 [] (a.flatMap gS ++ 32 :: b.flatMap gS)).filter _ = _
  rw [spl_app, List.filter_append]
theorem TLw_par {c : Nat} (hc : c = 40 ∨ c = 41) (a b : List Nat) : TLw (a ++ c :: b) = TLw a ++ [c] :: TLw b := by
  unfold TLw
  have e : gS c = [32, c, 32] := by rcases hc with rfl | rfl <;> decide
  rw [List.flatMap_append, List.flatMap_cons, e]
  show (TL.spl [32] 0 [] (a.flatMap gS ++ 32 :: ([c] ++ 32 :: b.flatMap gS))).filter _ = _
  rw [spl_app, spl_app, show TL.spl [32] 0 [] [c] = [[c]] from by rcases hc with rfl | rfl <;> decide, List.filter_append]
  rfl
theorem TLw_nil : TLw [] = [] := by decide
/-- no blank, no parenthesis -/
def plW (l : List Nat) : Prop := l ≠ [] ∧ ∀ k ∈ l, k ≠ 32 ∧ k ≠ 40 ∧ k ≠ 41
theorem TLw_word {l : List Nat} (h : plW l) : TLw l = [l] := by
  have e : l.flatMap gS = l := by
    have : ∀ l : List Nat, (∀ k ∈ l, k ≠ 32 ∧ k ≠ 40 ∧ k ≠ 41) → l.flatMap gS = l := fun l => by
      induction l with
      | nil => exact fun _ => rfl
      | cons k r ih =>
        intro h
        have hk := h k List.mem_cons_self
        rw [List.flatMap_cons, ih fun x hx => h x (List.mem_cons_of_mem _ hx)]
        unfold gS
        rw [if_neg hk.2.1, if_neg hk.2.2]
        rfl
    exact this l h.2
  unfold TLw
  rw [e, spl_last1 (s := 32) (S := []) fun m => (h.2 32 m).1 rfl, List.nil_append]
  simp [h.1]
/-! ### texts -/
theorem Tk_sp (a b : Str) : Tk (a ++ (" " : Str) ++ b) = Tk a ++ Tk b := map_tl_inj (by
  rw [List.map_append, Tk_tl, Tk_tl, Tk_tl, tl_append, tl_append, show tl (" " : Str) = [32] from by decide +kernel, List.append_assoc]
  exact TLw_sp _ _)
theorem Tk_lp (a b : Str) : Tk (a ++ ("(" : Str) ++ b) = Tk a ++ ("(" : Str) :: Tk b := map_tl_inj (by
  rw [List.map_append, List.map_cons, Tk_tl, Tk_tl, Tk_tl, tl_append, tl_append, show tl ("(" : Str) = [40] from by decide +kernel, List.append_assoc]
  exact TLw_par (.inl rfl) _ _)
theorem Tk_rp (a b : Str) : Tk (a ++ (")" : Str) ++ b) = Tk a ++ (")" : Str) :: Tk b := map_tl_inj (by
  rw [List.map_append, List.map_cons, Tk_tl, Tk_tl, Tk_tl, tl_append, tl_append, show tl (")" : Str) = [41] from by decide +kernel, List.append_assoc]
  exact TLw_par (.inr rfl) _ _)
theorem Tk_nil : Tk ("" : Str) = [] := map_tl_inj (by
  rw [Tk_tl, show tl ("" : Str) = [] from by decide +kernel]
  exact TLw_nil)
def PlW (s : Str) : Prop := plW (tl s)
theorem Tk_word {s : Str} (h : PlW s) : Tk s = [s] := map_tl_inj (by rw [Tk_tl, TLw_word h]; rfl)
theorem Tk_join : ∀ {ws : List Str}, (∀ s ∈ ws, PlW s) → Tk (Txt.join (" " : Str) ws) = ws
  | [], _ => Tk_nil
  | [a], h => Tk_word (h a List.mem_cons_self)
  | a :: b :: r, h => by
    have e : Txt.join (" " : Str) (a :: b :: r) = a ++ (" " : Str) ++ Txt.join (" " : Str) (b :: r) := by
      show Builtin.Str.glued _ _ = _ ++ _ ++ Builtin.Str.glued _ _
      rw [StrLaws.glued_eq_join, StrLaws.glued_eq_join]
      rfl
    rw [e, Tk_sp, Tk_word (h a List.mem_cons_self), Tk_join fun s hs => h s (List.mem_cons_of_mem _ hs)]
    rfl
theorem Tk_joins : ∀ ws : List Str, Tk (Txt.join (" " : Str) ws) = ws.flatMap Tk
  | [] => Tk_nil
  | [a] => by
    show Tk a = Tk a ++ []
    rw [List.append_nil]
  | a :: b :: r => by
    have e : Txt.join (" " : Str) (a :: b :: r) = a ++ (" " : Str) ++ Txt.join (" " : Str) (b :: r) := by
      show Builtin.Str.glued _ _ = _ ++ _ ++ Builtin.Str.glued _ _
      rw [StrLaws.glued_eq_join, StrLaws.glued_eq_join]
      rfl
    rw [e, Tk_sp, Tk_joins (b :: r)]
    rfl
/-! ### words in lists, written -/
mutual
def tkW : Wd → List Str
  | .w s => [s]
  | .l ws => ("(" : Str) :: (tkWs ws ++ [(")" : Str)])
def tkWs : List Wd → List Str
  | [] => []
  | a :: r => tkW a ++ tkWs r
end
mutual
def dpW : Wd → Nat
  | .w _ => 0
  | .l ws => dpWs ws + 1
def dpWs : List Wd → Nat
  | [] => 0
  | a :: r => max (dpW a) (dpWs r)
end
mutual
def PlWd : Wd → Prop
  | .w s => PlW s
  | .l ws => PlWds ws
def PlWds : List Wd → Prop
  | [] => True
  | a :: r => PlWd a ∧ PlWds r
end
theorem PlW.ne {s : Str} (h : PlW s) : s ≠ ("(" : Str) ∧ s ≠ (")" : Str) ∧ s ≠ ("" : Str) := by
  refine ⟨fun e => ?_, fun e => ?_, fun e => ?_⟩
  · have := h.2 40 (by rw [e]; decide +kernel)
    exact this.2.1 rfl
  · have := h.2 41 (by rw [e]; decide +kernel)
    exact this.2.2 rfl
  · exact h.1 (by rw [e]; decide +kernel)
mutual
theorem run_tkW {D : Nat} {rest : List Str} : ∀ {w : Wd} {a : List Wd} {st : List (List Wd)}, PlWd w → dpW w + st.length + 1 ≤ D → nwRun D (tkW w ++ rest) (a :: st) = nwRun D rest ((a ++ [w]) :: st)
  | .w s, a, st, h, hd => by
    unfold PlWd at h
    unfold dpW at hd
    obtain ⟨h1, h2, h3⟩ := h.ne
    unfold tkW
    show (nwStep D s (a :: st)).bind (nwRun D rest) = _
    unfold nwStep nwOp
    rw [if_neg h1, if_neg h2, if_neg h3]
    show ((if ((a ++ [.w s]) :: st).length ≤ D then some ((a ++ [.w s]) :: st) else none).bind _) = _
    rw [if_pos (by rw [List.length_cons]; omega)]
    rfl
  | .l ws, a, st, h, hd => by
    unfold PlWd at h
    unfold dpW at hd
    unfold tkW
    rw [List.cons_append, List.append_assoc]
    show (nwStep D ("(" : Str) (a :: st)).bind (nwRun D (tkWs ws ++ ([(")" : Str)] ++ rest))) = _
    unfold nwStep nwOp
    rw [if_pos rfl]
    show ((if ([] :: a :: st).length ≤ D then some ([] :: a :: st) else none).bind _) = _
    rw [if_pos (by rw [List.length_cons, List.length_cons]; omega)]
    show nwRun D (tkWs ws ++ ([(")" : Str)] ++ rest)) ([] :: a :: st) = _
    rw [run_tkWs h (by rw [List.length_cons]; omega), List.nil_append]
    show (nwStep D (")" : Str) (ws :: a :: st)).bind (nwRun D rest) = _
    unfold nwStep nwOp
    rw [if_neg (by decide +kernel), if_pos rfl]
    show ((if ((a ++ [.l ws]) :: st).length ≤ D then some ((a ++ [.l ws]) :: st) else none).bind _) = _
    rw [if_pos (by rw [List.length_cons]; omega)]
    rfl
theorem run_tkWs {D : Nat} {rest : List Str} : ∀ {ws : List Wd} {a : List Wd} {st : List (List Wd)}, PlWds ws → dpWs ws + st.length + 1 ≤ D → nwRun D (tkWs ws ++ rest) (a :: st) = nwRun D rest ((a ++ ws) :: st)
  | [], a, st, _, _ => by
    unfold tkWs
    rw [List.nil_append, List.append_nil]
  | w :: r, a, st, h, hd => by
    unfold PlWds at h
    unfold dpWs at hd
    unfold tkWs
    rw [List.append_assoc, run_tkW h.1 (by omega), run_tkWs h.2 (by omega), List.append_assoc]
    rfl
end
theorem nwRun_filter {D : Nat} : ∀ (ts : List Str) (st : List (List Wd)), st.length ≤ D → nwRun D ts st = nwRun D (ts.filter (· ≠ ("" : Str))) st
  | [], _, _ => rfl
  | t :: r, st, h => by
    by_cases e : t = ("" : Str)
    · rw [List.filter_cons_of_neg (by simpa using e)]
      show (nwStep D t st).bind _ = _
      unfold nwStep nwOp
      rw [if_neg (by rw [e]; decide +kernel), if_neg (by rw [e]; decide +kernel), if_pos e]
      show ((if st.length ≤ D then some st else none).bind _) = _
      rw [if_pos h]
      exact nwRun_filter r st h
    · rw [List.filter_cons_of_pos (by simpa using e)]
      show (nwStep D t st).bind _ = (nwStep D t st).bind _
      cases hz : nwStep D t st with
      | none => rfl
      | some s2 =>
        have hl : s2.length ≤ D := by
          unfold nwStep at hz
          cases hy : nwOp t st with
          | none =>
            rw [hy] at hz
            cases hz
          | some s3 =>
            rw [hy] at hz
            replace hz : (if s3.length ≤ D then some s3 else none) = some s2 := hz
            split at hz
            · rw [← Option.some.inj hz]
              assumption
            · cases hz
        exact nwRun_filter r s2 hl
theorem nw_of {D : Nat} {x : Str} {ws : List Wd} (h : Tk x = tkWs ws) (p : PlWds ws) (hd : dpWs ws + 1 ≤ D) : nw D (toks x) = some ws := by
  unfold nw
  rw [nwRun_filter _ _ (by simp; omega)]
  show (nwRun D (Tk x) [[]]).bind _ = _
  rw [h, ← List.append_nil (tkWs ws), run_tkWs p (by simpa using hd)]
  rfl
theorem tkWs_map (l : List Str) : tkWs (l.map Wd.w) = l := by
  induction l with
  | nil => unfold tkWs; rfl
  | cons a r ih =>
    rw [List.map_cons]
    unfold tkWs tkW
    rw [ih]
    rfl
theorem PlWds_map {l : List Str} (h : ∀ s ∈ l, PlW s) : PlWds (l.map Wd.w) := by
  induction l with
  | nil => unfold PlWds; trivial
  | cons a r ih =>
    rw [List.map_cons]
    unfold PlWds PlWd
    exact ⟨h a List.mem_cons_self, ih fun s hs => h s (List.mem_cons_of_mem _ hs)⟩
theorem dpWs_map (l : List Str) : dpWs (l.map Wd.w) = 0 := by
  induction l with
  | nil => unfold dpWs; rfl
  | cons a r ih =>
    rw [List.map_cons]
    unfold dpWs dpW
    rw [ih]
    rfl
/-! ### the label of a table -/
def wdTb (names : List Str) (never still : Str) (joins products : List (List Str)) : Wd := .l [.w ("table" : Str), .l (names.map Wd.w), .w never, .w still, .l (joins.flatten.map Wd.w), .l (products.flatten.map Wd.w)]
theorem Tk_joinR {rows : List (List Str)} (h : ∀ r ∈ rows, ∀ s ∈ r, PlW s) : Tk (joinR rows) = rows.flatten := by
  unfold joinR
  rw [Tk_joins, List.flatMap_map]
  induction rows with
  | nil => rfl
  | cons a r ih =>
    rw [List.flatMap_cons, List.flatten_cons, ih fun x hx => h x (List.mem_cons_of_mem _ hx), Tk_join (h a List.mem_cons_self)]
theorem Tk_tbLab {names : List Str} {never still : Str} {joins products : List (List Str)} (hn : ∀ s ∈ names, PlW s) (h1 : PlW never) (h2 : PlW still) (hj : ∀ r ∈ joins, ∀ s ∈ r, PlW s) (hp : ∀ r ∈ products, ∀ s ∈ r, PlW s) : Tk (tbLab names never still joins products) = tkWs [wdTb names never still joins products] := map_tl_inj (by
  have eN : TLw (tl (Txt.join (" " : Str) names)) = names.map tl := by rw [← Tk_tl, Tk_join hn]
  have eJ : TLw (tl (joinR joins)) = joins.flatten.map tl := by rw [← Tk_tl, Tk_joinR hj]
  have eP : TLw (tl (joinR products)) = products.flatten.map tl := by rw [← Tk_tl, Tk_joinR hp]
  have e1 : TLw (tl never) = [tl never] := TLw_word h1
  have e2 : TLw (tl still) = [tl still] := TLw_word h2
  have e3 : TLw [116, 97, 98, 108, 101] = [[116, 97, 98, 108, 101]] := TLw_word (by constructor <;> decide)
  have lit : tl ("(table (" : Str) = [40, 116, 97, 98, 108, 101, 32, 40] ∧ tl (") " : Str) = [41, 32] ∧ tl (" " : Str) = [32] ∧ tl (" (" : Str) = [32, 40] ∧ tl (") (" : Str) = [41, 32, 40] ∧ tl ("))" : Str) = [41, 41] ∧ tl ("(" : Str) = [40] ∧ tl (")" : Str) = [41] ∧ tl ("table" : Str) = [116, 97, 98, 108, 101] := by decide +kernel
  obtain ⟨l1, l2, l3, l4, l5, l6, l7, l8, l9⟩ := lit
  rw [Tk_tl]
  unfold tbLab
  simp only [tl_append, l1, l2, l3, l4, l5, l6, List.append_assoc, List.cons_append, List.nil_append]
  show TLw ([] ++ 40 :: ([116, 97, 98, 108, 101] ++ 32 :: ([] ++ 40 :: (tl (Txt.join (" " : Str) names) ++ 41 :: ([] ++ 32 :: (tl never ++ 32 :: (tl still ++ 32 :: ([] ++ 40 :: (tl (joinR joins) ++ 41 :: ([] ++ 32 :: ([] ++ 40 :: (tl (joinR products) ++ 41 :: ([] ++ 41 :: []))))))))))))) = _
  rw [TLw_par (.inl rfl), TLw_sp, TLw_par (.inl rfl), TLw_par (.inr rfl), TLw_sp, TLw_sp, TLw_sp, TLw_par (.inl rfl), TLw_par (.inr rfl), TLw_sp, TLw_par (.inl rfl), TLw_par (.inr rfl), TLw_par (.inr rfl), TLw_nil, eN, eJ, eP, e1, e2, e3]
  unfold wdTb
  simp only [tkWs, tkW, tkWs_map, List.map_append, List.map_cons, List.map_nil, List.append_nil, List.nil_append, List.cons_append, List.append_assoc, l7, l8, l9])
end L2.DS
/-! Rows cut from a list; tables read. -/
namespace L2.DS
open PySem PySem.Spec PyProof.Rows
section
variable {S : SR} {n k ka kb kc i c1 : Nat} {te el : TE} {tl th : TO} {σ : L2.St} {G : Hp} {K : PySem.W.Frag} {vs : List Nat} {lo hi : Option Int} {p : Addr} {xs : List V}
/-- l[lo:hi] -/
theorem ev_slLN (st : Stab S) (h : Ev S n ka te σ G (IsV (.ref p))) (hq : SqL K G p xs) (h1 : EvO S (n + ka) kb tl σ G lo) (h2 : EvO S (n + ka + kb) kc th σ G hi) :
    Ev S n (ka + kb + kc) (tSl (rSlL K) te tl th) σ G (IsNew G (.lst (cutV xs lo hi))) := fun G1 H1 s0 s Q q =>
  h G1 H1 s0 s _ fun v G2 H2 s2 e => h1 G2 H2 (s0.trans s2.g) s2.s _ fun G3 H3 s3 => h2 G3 H3 ((s0.trans s2.g).trans s3.g) s3.s _ fun G4 H4 s4 => by
    obtain rfl := (show _ = _ from e)
    have t := (s2.trans s3).trans s4
    have g4 : Same G G4 := s0.trans t.g
    refine ⟨p, xs, rfl, (g4.trans (st.sub t.s)).seq hq, fun q' hp => ?_⟩
    have nn := st.new (o := .lst (cutV xs lo hi)) t.s hp
    have tt : Stp S (n + (ka + kb + kc)) G1 H1 (upd G4 q' (.lst (cutV xs lo hi))) (upd H4 q' (.lst (cutV xs lo hi))) := by
      have := t.trans nn
      rw [show n + ka + kb + kc = n + (ka + kb + kc) by omega] at this
      exact this
    exact q (.ref q') _ _ tt ⟨q', rfl, (g4.trans (st.sub t.s)).free hp, upd_same⟩
end
theorem sgn_no : sgn 32 = false ∧ sgn 40 = false ∧ sgn 41 = false := by decide +kernel
theorem okNm_pl {nm : Str} (h : okNm nm = true) : PlW nm := by
  obtain ⟨h1, h2⟩ := okNm_len h
  unfold okNm at h
  rw [Bool.and_eq_true] at h
  have ha := List.all_eq_true.mp h.2
  refine ⟨fun e => ?_, fun k hk => ?_⟩
  · have : nm.length = 0 := by rw [_root_.TL.len_tl, e]; rfl
    omega
  · have := ha (sgn k) (List.mem_map_of_mem hk)
    refine ⟨fun e => ?_, fun e => ?_, fun e => ?_⟩
    · rw [e, sgn_no.1] at this
      cases this
    · rw [e, sgn_no.2.1] at this
      cases this
    · rw [e, sgn_no.2.2] at this
      cases this
def IsTabS (rows : List (List Str)) : HR := fun v G' => ∃ q, v = .ref q ∧ TabS G' q rows
instance (rows) : Mon (IsTabS rows) := ⟨fun s ⟨q, e, h⟩ => ⟨q, e, h.mono s⟩⟩
/-! ### promises -/
/-- the words of a table -/
def wdT (names : List Str) (nv sl : Nat) (th jn : Nat → Nat → Int) : List Wd := [.l (names.map Wd.w), .w (names.getD nv ("" : Str)), .w (names.getD sl ("" : Str)), .l ((rowsS names jn).flatten.map Wd.w), .l ((rowsS names th).flatten.map Wd.w)]
def IsWd (a : Wd) : HR := fun v G => WdAt a v G
instance (a) : Mon (IsWd a) := ⟨fun s h => WdAt.mono h s⟩
end L2.DS
/-! A def that a try watches. -/
namespace L2.DS
open PySem PySem.Spec PyProof.Rows
/-! ### two lists that grow and a list of two numbers, all newly made -/
structure Mu (S : SR) (n : Nat) (H0 G J : Hp) (D : Addr) (Fs : Nat → Addr) (d : Nat → Nat) (l : Nat → List Bool) : Prop where
  s : S n G J
  d : J D = some (.lst [.int (d 0 : Nat), .int (d 1 : Nat)])
  f : ∀ i, i < 2 → J (Fs i) = some (.lst ((l i).map V.bl))
  nd : ∀ i, i < 2 → D ≠ Fs i
  nf : Fs 0 ≠ Fs 1
  hD : H0 D = none
  hF : ∀ i, i < 2 → H0 (Fs i) = none
  gD : G D = none
  gF : ∀ i, i < 2 → G (Fs i) = none
section
variable {S : SR} {n m n0 : Nat} {G0 H0 G J G' J' : Hp} {D : Addr} {Fs : Nat → Addr} {d : Nat → Nat} {l : Nat → List Bool}
theorem Mu.k (h : Mu S n H0 G J D Fs d l) (st : Stab S) (s0 : S n0 G0 H0) (k : Kp S J J') (s : S m G J') : Mu S m H0 G J' D Fs d l :=
  ⟨s, k.k _ _ (st.fre s0 h.hD) h.d, fun i hi => k.k _ _ (st.fre s0 (h.hF i hi)) (h.f i hi), h.nd, h.nf, h.hD, h.hF, h.gD, h.gF⟩
theorem Mu.grow (h : Mu S n H0 G J D Fs d l) (st : Stab S) (s0 : S n0 G0 H0) (s : Stp S m G J G' J') : Mu S m H0 G' J' D Fs d l := by
  have gn : ∀ {b : Addr} {o : HO}, G b = none → J b = some o → G' b = none := fun {b o} g j => by
    cases hz : G' b with
    | none => rfl
    | some o' =>
      rcases s.n b o' hz with e | e
      · rw [g] at e
        cases e
      · rw [j] at e
        cases e
  exact ⟨s.s, s.k.k _ _ (st.fre s0 h.hD) h.d, fun i hi => s.k.k _ _ (st.fre s0 (h.hF i hi)) (h.f i hi), h.nd, h.nf, h.hD, h.hF, gn h.gD h.d, fun i hi => gn (h.gF i hi) (h.f i hi)⟩
theorem Mu.ne (h : Mu S n H0 G J D Fs d l) {i j : Nat} (hi : i < 2) (hj : j < 2) (e : i ≠ j) : Fs i ≠ Fs j := by
  have : (i = 0 ∧ j = 1) ∨ (i = 1 ∧ j = 0) := by omega
  rcases this with ⟨rfl, rfl⟩ | ⟨rfl, rfl⟩
  · exact h.nf
  · exact h.nf.symm
theorem Mu.app (h : Mu S n H0 G J D Fs d l) {i : Nat} (hi : i < 2) {b : Bool} (s : S m G (upd J (Fs i) (.lst ((l i).map V.bl ++ [.bl b])))) : Mu S m H0 G (upd J (Fs i) (.lst ((l i).map V.bl ++ [.bl b]))) D Fs d (fun j => if j = i then l i ++ [b] else l j) := by
  refine ⟨s, ?_, fun j hj => ?_, h.nd, h.nf, h.hD, h.hF, h.gD, h.gF⟩
  · rw [upd_ne (h.nd i hi)]
    exact h.d
  · by_cases e : j = i
    · subst e
      rw [upd_same, if_pos rfl, List.map_append]
      rfl
    · rw [upd_ne (h.ne hj hi e), if_neg e]
      exact h.f j hj
theorem Mu.set (h : Mu S n H0 G J D Fs d l) {i v : Nat} (hi : i < 2) (s : S m G (upd J D (.lst ([V.int (d 0 : Nat), .int (d 1 : Nat)].set i (.int (v : Nat)))))) : Mu S m H0 G (upd J D (.lst ([V.int (d 0 : Nat), .int (d 1 : Nat)].set i (.int (v : Nat))))) D Fs (fun j => if j = i then v else d j) l := by
  refine ⟨s, ?_, fun j hj => ?_, h.nd, h.nf, h.hD, h.hF, h.gD, h.gF⟩
  · rw [upd_same]
    have : i = 0 ∨ i = 1 := by omega
    rcases this with rfl | rfl <;> rfl
  · rw [upd_ne (h.nd j hj).symm]
    exact h.f j hj
theorem Mu.pub (h : Mu S n H0 G J D Fs d l) (st : Stab S) (s0 : S n0 G0 H0) : S n (upd G D (.lst [.int (d 0 : Nat), .int (d 1 : Nat)])) J := st.pub s0 h.hD h.s h.gD h.d
theorem Mu.same (h : Mu S n H0 G J D Fs d l) {o : HO} : Same G (upd G D o) := fun b o e => by
  rw [upd_ne (ne_of_none e h.gD)]
  exact e
end
/-! ### what before and behind of a table look for (plain law) -/
end L2.DS
/-! Worths of scales that are told by a property; labels told apart; the lists of a turn published. -/
namespace L2.DS
open PySem PySem.Spec PyProof.Rows
section
variable {S : SR} {n m n0 : Nat} {G0 H0 G J G' J' : Hp} {D : Addr} {Fs : Nat → Addr} {d : Nat → Nat} {l : Nat → List Bool}
theorem Mu.all (h : Mu S n H0 G J D Fs d l) (st : Stab S) (s0 : S n0 G0 H0) : ∃ G', Same G G' ∧ S n G' J ∧ G' D = some (.lst [.int (d 0 : Nat), .int (d 1 : Nat)]) ∧ ∀ i, i < 2 → G' (Fs i) = some (.lst ((l i).map V.bl)) := by
  have a := h.pub st s0
  have n0 := h.nd 0 (by decide)
  have n1 := h.nd 1 (by decide)
  have g0 : upd G D (.lst [.int (d 0 : Nat), .int (d 1 : Nat)]) (Fs 0) = none := by rw [upd_ne n0.symm]; exact h.gF 0 (by decide)
  have b := st.pub s0 (h.hF 0 (by decide)) a g0 (h.f 0 (by decide))
  have g1 : upd (upd G D (.lst [.int (d 0 : Nat), .int (d 1 : Nat)])) (Fs 0) (.lst ((l 0).map V.bl)) (Fs 1) = none := by rw [upd_ne h.nf.symm, upd_ne n1.symm]; exact h.gF 1 (by decide)
  have c := st.pub s0 (h.hF 1 (by decide)) b g1 (h.f 1 (by decide))
  refine ⟨_, fun x o e => ?_, c, ?_, fun i hi => ?_⟩
  · rw [upd_ne (ne_of_none e (h.gF 1 (by decide))), upd_ne (ne_of_none e (h.gF 0 (by decide))), upd_ne (ne_of_none e h.gD)]
    exact e
  · rw [upd_ne n1, upd_ne n0, upd_same]
  · rcases (show i = 0 ∨ i = 1 by omega) with rfl | rfl
    · rw [upd_ne h.nf, upd_same]
    · rw [upd_same]
end
/-! labels told apart by their beginnings -/
theorem str_assoc (a b c : Str) : a ++ b ++ c = a ++ (b ++ c) := str_inj (by rw [cps_app, cps_app, cps_app, cps_app, List.append_assoc])
end L2.DS
/-! Operators of own classes that a try watches; ==, str of own classes; classmethods that raise. -/
namespace L2.DS
open PySem PySem.Spec PyProof.Rows
section
variable {X : Cx} {CX : CXT} {k : Nat} {C : Addr} {m : Str} {ps : List Str} {sp : Sp} {E : L2.St → XK} {E0 : XK} {a b e o : Expr} {es : List Expr} {ta tb : TE} {t : TA} {pos apos : Pos} {pins : List (Addr × Obj)} {σ : L2.St} {H : Hp} {s : Shared} {x y : V} {v u : Value} {Q : VK}
/-! ### C.m(..) in a try -/
/-! ### == with a text or a number -/
/-! ### str -/
/-- isinstance(e, c), e an error without fields that the suite holds -/
theorem call_isE0 {K : PySem.W.Frag} {a D : Addr} {cls : Value} {d : Option Addr} {oe : Obj} {pn : List (Addr × Obj)} (hK : X.K = K) (c : ExcC K D) (hz : Zc cls d oe) (hf : ∃ vs, oe.data = .fields vs) : CallR (X.suite a ((a, oe) :: pn)) (.builtin "isinstance") (fun xs H Q => cls = .ref D ∧ d = none ∧ rIsE K D a xs H Q) := by
  intro pins s σ H xs us Q I r h
  obtain ⟨rfl, rfl, q⟩ := h
  subst hK
  exact call_isE c hz hf pins s σ H xs us Q I r q
end
/-! ### what they give -/
section
variable {S : SR} {n k ka kb : Nat} {ta tb : TE} {t : TA} {σ : L2.St} {G H : Hp} {K : PySem.W.Frag} {Cs : List Addr} {CW CM C a b : Addr} {d e : SD} {p q : Nat} {E : L2.St → XK} {E0 : XK} {res : SD → Nat → Nat → HR} {c : V} {cv : Value} {bb : Bool} {R : HR} {z : Str} {P : List V → Hp → HR → Prop}
theorem c_isE (st : Stab S) (hc : ∀ w, RelV c w → w = cv) (hk : PySem.W.kitOne K (.ref C) cv = some bb) : RC S (fun xs H Q => Value.ref C = .ref C ∧ (none : Option Addr) = none ∧ rIsE K C a xs H Q) [.ref a, c] G (IsV (.bl bb)) :=
  rc_val (fun H s Q q => ⟨rfl, rfl, c, cv, bb, rfl, hc, hk, q⟩) st
end
/-! ### promises -/
end L2.DS
/-! Two tables newly made, one of them changed. -/
namespace L2.DS
open PySem PySem.Spec PyProof.Rows
/-- two tables newly made, the second one behind the first -/
def TwoN (G : Hp) (n : Nat) (fj ft : Nat → Nat → Int) : HRs := fun vs G2 => ∃ (p q : Addr) (ys zs : List V) (G1 : Hp), vs = [.ref p, .ref q] ∧ Same G G1 ∧ Same G1 G2 ∧ G p = none ∧ G1 p = some (.lst ys) ∧ RL (fun a => IsIRn G n (fj a)) (List.range n) ys G1 ∧ ys.Nodup ∧
  G1 q = none ∧ G2 q = some (.lst zs) ∧ RL (fun a => IsIRn G1 n (ft a)) (List.range n) zs G2 ∧ zs.Nodup
instance (G n fj ft) : Mons (TwoN G n fj ft) := ⟨fun s ⟨p, q, ys, zs, G1, e, a, b, c, d, f, g, h, i, j, k⟩ => ⟨p, q, ys, zs, G1, e, a, b.trans s, c, d, f, g, h, s _ _ i, rl_mon s j, k⟩⟩
theorem rl_row {F G : Hp} {n : Nat} {f : Nat → Nat → Int} : ∀ {l : List Nat} {vs : List V}, RL (fun a => IsIRn F n (f a)) l vs G → RL (fun a => IsIRow n (f a)) l vs G
  | [], _, h => h
  | _ :: _, _, ⟨v, w, e, ⟨q, e2, _, g⟩, r⟩ => ⟨v, w, e, ⟨q, e2, g⟩, rl_row r⟩
end L2.DS
/-! Labels of scales of any family, read (plain law). -/
namespace L2.DS
open PySem PySem.Spec PyProof.Rows _root_.TL
def dig (c : Nat) : Bool := !(Builtin.Str.occurrences ("0123456789" : Str) ⟨#[c]⟩ 0 ("0123456789" : Str).length 1).isEmpty
/-- the words of small numbers -/
theorem num_ok : ∀ m : Nat, m < 64 → PySem.intText? (toString ((m : Nat) : Int) : Str) = some ((m : Nat) : Int) ∧ 1 ≤ (toString ((m : Nat) : Int) : Str).length ∧ (toString ((m : Nat) : Int) : Str).length ≤ 60 ∧ (∀ c ∈ (toString ((m : Nat) : Int) : Str).cps.toList, dig c = true) := by decide +kernel
theorem num_pl : ∀ m : Nat, m < 64 → tl (toString ((m : Nat) : Int) : Str) ≠ [] ∧ ∀ k ∈ tl (toString ((m : Nat) : Int) : Str), k ≠ 32 ∧ k ≠ 40 ∧ k ≠ 41 := by decide +kernel
theorem heads_pl : ∀ s ∈ (["count", "span", "set", "watch", "pair", "turned", "heap", "table", "up", "down", "may", "must"] : List Str), tl s ≠ [] ∧ ∀ k ∈ tl s, k ≠ 32 ∧ k ≠ 40 ∧ k ≠ 41 := by decide +kernel
theorem ordS_pl (up : Bool) : PlW (ordS up) := by cases up <;> exact heads_pl _ (by decide)
theorem joinS_pl (may : Bool) : PlW (joinS may) := by cases may <;> exact heads_pl _ (by decide)
theorem app_nil (a : Str) : a ++ ("" : Str) = a := str_inj (by rw [cps_app, show ("" : Str).cps.toList = [] from by decide +kernel, List.append_nil])
theorem nil_app (a : Str) : ("" : Str) ++ a = a := str_inj (by rw [cps_app, show ("" : Str).cps.toList = [] from by decide +kernel, List.nil_append])
/-- (h b) -/
theorem Tk_frm {h : Str} (b : Str) (hw : PlW h) : Tk (("(" : Str) ++ h ++ (" " : Str) ++ b ++ (")" : Str)) = ("(" : Str) :: h :: (Tk b ++ [(")" : Str)]) := by
  have e1 := Tk_rp (("(" : Str) ++ h ++ (" " : Str) ++ b) ("" : Str)
  rw [app_nil, Tk_nil] at e1
  have e2 := Tk_lp ("" : Str) h
  rw [nil_app, Tk_nil, Tk_word hw] at e2
  rw [e1, Tk_sp, e2]
  rfl
inductive Rdb : Nat → SD → Wd → Prop
  | tab {n : Nat} {names : List Str} {nv sl : Nat} {th jn : Nat → Nat → Int} (T : TbIs names nv sl th jn) : Rdb n (tabSD names nv sl th jn) (.l (.w ("table" : Str) :: wdT names nv sl th jn))
  | cnt {n m : Nat} {up : Bool} (h : m < 63) : Rdb n (cntSD m up) (.l [.w ("count" : Str), .w (toString ((m : Nat) : Int) : Str), .w (ordS up)])
  | span {n m : Nat} (h : m < 10) : Rdb n (spanSD m) (.l [.w ("span" : Str), .w (toString ((m : Nat) : Int) : Str)])
  | set {n c : Nat} {may : Bool} (h0 : 1 ≤ c) (h : c < 6) : Rdb n (stSD c may) (.l [.w ("set" : Str), .w (toString ((c : Nat) : Int) : Str), .w (joinS may)])
  | watch {n s : Nat} (h0 : 1 ≤ s) (h : s < 3) : Rdb n (wtSD s) (.l [.w ("watch" : Str), .w (toString ((s : Nat) : Int) : Str)])
  | turn {n : Nat} {d : SD} {w : Wd} (h : Rdb n d w) (o : SdOk d) (hd : depL [d] ≤ 10) : Rdb (n + 1) (turnSD d) (.l [.w ("turned" : Str), w])
  | heap {n : Nat} {d : SD} {w : Wd} (h : Rdb n d w) (o : SdOk d) (l6 : d.names.length ≤ 6) (hd : depL [d] ≤ 10) (nd : (heapNames d.names).Nodup) : Rdb (n + 1) (heapSD d) (.l [.w ("heap" : Str), w])
  | pair {n : Nat} {d1 d2 : SD} {w1 w2 : Wd} (h1 : Rdb n d1 w1) (h2 : Rdb n d2 w2) (o1 : SdOk d1) (o2 : SdOk d2) (l64 : d1.names.length * d2.names.length ≤ 64) (hd : depL [d1, d2] ≤ 10) (nd : (pairNames d1 d2).Nodup) : Rdb (n + 1) (pairSD d1 d2) (.l [.w ("pair" : Str), w1, w2])
theorem Rdb.up {n : Nat} {d : SD} {w : Wd} (h : Rdb n d w) : Rdb (n + 1) d w := by
  induction h with
  | tab T => exact .tab T
  | cnt h => exact .cnt h
  | span h => exact .span h
  | set h0 h => exact .set h0 h
  | watch h0 h => exact .watch h0 h
  | turn h o hd ih => exact .turn ih o hd
  | heap h o l6 hd nd ih => exact .heap ih o l6 hd nd
  | pair h1 h2 o1 o2 l64 hd nd ih1 ih2 => exact .pair ih1 ih2 o1 o2 l64 hd nd
theorem tb_pl {names : List Str} {nv sl : Nat} {th jn : Nat → Nat → Int} (T : TbIs names nv sl th jn) : Tk (tabSD names nv sl th jn).label = tkW (.l (.w ("table" : Str) :: wdT names nv sl th jn)) ∧ PlWd (.l (.w ("table" : Str) :: wdT names nv sl th jn)) := by
  have tb := T.tb
  have hn : ∀ s ∈ names, PlW s := fun s h => okNm_pl (T.ok s h)
  have fl : ∀ {rows : List (List Str)}, (∀ r ∈ rows, ∀ s ∈ r, PlW s) → ∀ s ∈ rows.flatten, PlW s := fun h s hs => by
    obtain ⟨r, hr, hs⟩ := List.mem_flatten.mp hs
    exact h r hr s hs
  have hj : ∀ r ∈ rowsS names jn, ∀ s ∈ r, PlW s := fun r hr s hs => hn s ((tb.jr r hr).2 s hs)
  have hp : ∀ r ∈ rowsS names th, ∀ s ∈ r, PlW s := fun r hr s hs => hn s ((tb.pr r hr).2 s hs)
  refine ⟨?_, ?_⟩
  · have e := Tk_tbLab hn (hn _ tb.nv) (hn _ tb.sl) hj hp
    show Tk (tbLab _ _ _ _ _) = _
    rw [e]
    unfold wdTb wdT
    simp only [tkWs, List.append_nil]
  · unfold wdT
    simp only [PlWds, PlWd]
    exact ⟨heads_pl _ (by decide), PlWds_map hn, hn _ tb.nv, hn _ tb.sl, PlWds_map (fl hj), PlWds_map (fl hp), trivial⟩
/-- what a label's words are -/
theorem Rdb.tok {n : Nat} {d : SD} {w : Wd} (h : Rdb n d w) : Tk d.label = tkW w ∧ PlWd w ∧ dpW w ≤ n + 2 := by
  induction h with
  | tab T =>
    refine ⟨(tb_pl T).1, (tb_pl T).2, ?_⟩
    unfold wdT
    simp only [dpW, dpWs, dpWs_map]
    omega
  | @cnt n m up h =>
    have pm : PlW (toString ((m : Nat) : Int) : Str) := num_pl m (by omega)
    have e : (cntSD m up).label = ("(" : Str) ++ ("count" : Str) ++ (" " : Str) ++ ((toString ((m : Nat) : Int) : Str) ++ (" " : Str) ++ ordS up) ++ (")" : Str) := by
      show clabel _ _ = _
      unfold clabel
      rw [show ("(count " : Str) = ("(" : Str) ++ ("count" : Str) ++ (" " : Str) from by decide +kernel]
      simp only [str_assoc]
    refine ⟨?_, ?_, ?_⟩
    · rw [e, Tk_frm _ (heads_pl _ (by decide)), Tk_sp, Tk_word pm, Tk_word (ordS_pl up)]
      rfl
    · simp only [PlWd, PlWds]
      exact ⟨heads_pl _ (by decide), pm, ordS_pl up, trivial⟩
    · simp only [dpW, dpWs]
      omega
  | @span n m h =>
    have pm : PlW (toString ((m : Nat) : Int) : Str) := num_pl m (by omega)
    have e : (spanSD m).label = ("(" : Str) ++ ("span" : Str) ++ (" " : Str) ++ (toString ((m : Nat) : Int) : Str) ++ (")" : Str) := by
      show slabel _ = _
      unfold slabel
      rw [show ("(span " : Str) = ("(" : Str) ++ ("span" : Str) ++ (" " : Str) from by decide +kernel]
    refine ⟨?_, ?_, ?_⟩
    · rw [e, Tk_frm _ (heads_pl _ (by decide)), Tk_word pm]
      rfl
    · simp only [PlWd, PlWds]
      exact ⟨heads_pl _ (by decide), pm, trivial⟩
    · simp only [dpW, dpWs]
      omega
  | @set n c may h0 h =>
    have pm : PlW (toString ((c : Nat) : Int) : Str) := num_pl c (by omega)
    have e : (stSD c may).label = ("(" : Str) ++ ("set" : Str) ++ (" " : Str) ++ ((toString ((c : Nat) : Int) : Str) ++ (" " : Str) ++ joinS may) ++ (")" : Str) := by
      show tlabel _ _ = _
      unfold tlabel
      rw [show ("(set " : Str) = ("(" : Str) ++ ("set" : Str) ++ (" " : Str) from by decide +kernel]
      simp only [str_assoc]
    refine ⟨?_, ?_, ?_⟩
    · rw [e, Tk_frm _ (heads_pl _ (by decide)), Tk_sp, Tk_word pm, Tk_word (joinS_pl may)]
      rfl
    · simp only [PlWd, PlWds]
      exact ⟨heads_pl _ (by decide), pm, joinS_pl may, trivial⟩
    · simp only [dpW, dpWs]
      omega
  | @watch n s h0 h =>
    have pm : PlW (toString ((s : Nat) : Int) : Str) := num_pl s (by omega)
    have e : (wtSD s).label = ("(" : Str) ++ ("watch" : Str) ++ (" " : Str) ++ (toString ((s : Nat) : Int) : Str) ++ (")" : Str) := by
      show wlabel _ = _
      unfold wlabel
      rw [show ("(watch " : Str) = ("(" : Str) ++ ("watch" : Str) ++ (" " : Str) from by decide +kernel]
    refine ⟨?_, ?_, ?_⟩
    · rw [e, Tk_frm _ (heads_pl _ (by decide)), Tk_word pm]
      rfl
    · simp only [PlWd, PlWds]
      exact ⟨heads_pl _ (by decide), pm, trivial⟩
    · simp only [dpW, dpWs]
      omega
  | @turn n d w h o hd ih =>
    have e : (turnSD d).label = ("(" : Str) ++ ("turned" : Str) ++ (" " : Str) ++ d.label ++ (")" : Str) := by
      show ("(turned " : Str) ++ d.label ++ (")" : Str) = _
      rw [show ("(turned " : Str) = ("(" : Str) ++ ("turned" : Str) ++ (" " : Str) from by decide +kernel]
    refine ⟨?_, ?_, ?_⟩
    · rw [e, Tk_frm _ (heads_pl _ (by decide)), ih.1]
      simp only [tkW, tkWs, List.append_nil, List.cons_append, List.nil_append]
    · simp only [PlWd, PlWds]
      exact ⟨heads_pl _ (by decide), ih.2.1, trivial⟩
    · simp only [dpW, dpWs]
      have := ih.2.2
      omega
  | @heap n d w h o l6 hd nd ih =>
    have e : (heapSD d).label = ("(" : Str) ++ ("heap" : Str) ++ (" " : Str) ++ d.label ++ (")" : Str) := by
      show ("(heap " : Str) ++ d.label ++ (")" : Str) = _
      rw [show ("(heap " : Str) = ("(" : Str) ++ ("heap" : Str) ++ (" " : Str) from by decide +kernel]
    refine ⟨?_, ?_, ?_⟩
    · rw [e, Tk_frm _ (heads_pl _ (by decide)), ih.1]
      simp only [tkW, tkWs, List.append_nil, List.cons_append, List.nil_append]
    · simp only [PlWd, PlWds]
      exact ⟨heads_pl _ (by decide), ih.2.1, trivial⟩
    · simp only [dpW, dpWs]
      have := ih.2.2
      omega
  | @pair n d1 d2 w1 w2 h1 h2 o1 o2 l64 hd nd ih1 ih2 =>
    have e : (pairSD d1 d2).label = ("(" : Str) ++ ("pair" : Str) ++ (" " : Str) ++ (d1.label ++ (" " : Str) ++ d2.label) ++ (")" : Str) := by
      show ("(pair " : Str) ++ d1.label ++ (" " : Str) ++ d2.label ++ (")" : Str) = _
      rw [show ("(pair " : Str) = ("(" : Str) ++ ("pair" : Str) ++ (" " : Str) from by decide +kernel]
      simp only [str_assoc]
    refine ⟨?_, ?_, ?_⟩
    · rw [e, Tk_frm _ (heads_pl _ (by decide)), Tk_sp, ih1.1, ih2.1]
      simp only [tkW, tkWs, List.append_nil, List.cons_append, List.nil_append, List.append_assoc]
    · simp only [PlWd, PlWds]
      exact ⟨heads_pl _ (by decide), ih1.2.1, ih2.2.1, trivial⟩
    · simp only [dpW, dpWs]
      have a := ih1.2.2
      have b := ih2.2.2
      omega
theorem Rdb.nw {n : Nat} {d : SD} {w : Wd} (h : Rdb n d w) (hn : n ≤ 9) : nw 12 (toks d.label) = some [w] := by
  obtain ⟨a, b, c⟩ := h.tok
  refine nw_of (ws := [w]) ?_ ?_ ?_
  · rw [a]
    simp only [tkWs, List.append_nil]
  · simp only [PlWds]
    exact ⟨b, trivial⟩
  · simp only [dpWs]
    omega
/-! promises -/
end L2.DS
/-! Lists of texts and tuples of numbers compared; comprehensions over tuples; maps of worths. -/
namespace L2.DS
open PySem PySem.Spec PyProof.Rows
/-! ### maps -/
def mpF : List Str := ["source", "target", "image_places"]
/-- a map of worths from d to e, im the places of the images -/
def MpAt (K : PySem.W.Frag) (Cs : List Addr) (CM : Addr) (d e : SD) (im : List Nat) (m : Addr) (G : Hp) : Prop := ∃ dx fs x y p, G m = some (.ins CM dx fs) ∧ fs.lookup ("source" : Str) = some (.ref x) ∧ fs.lookup ("target" : Str) = some (.ref y) ∧ fs.lookup ("image_places" : Str) = some (.ref p) ∧
  ScD K Cs d x G ∧ ScD K Cs e y G ∧ G p = some (.tup (nVs im)) ∧ im.length = d.names.length ∧ (∀ i ∈ im, i < e.names.length) ∧ ∀ f, f ∉ mpF → fs.lookup f = none
theorem MpAt.mono {K : PySem.W.Frag} {Cs : List Addr} {CM : Addr} {d e : SD} {im : List Nat} {m : Addr} {G G' : Hp} (h : MpAt K Cs CM d e im m G) (s : Same G G') : MpAt K Cs CM d e im m G' := by
  obtain ⟨dx, fs, x, y, p, a, b, c, f, g, h, i, j, k, l⟩ := h
  exact ⟨dx, fs, x, y, p, s _ _ a, b, c, f, g.mono s, h.mono s, s _ _ i, j, k, l⟩
def IsMp (K : PySem.W.Frag) (Cs : List Addr) (CM : Addr) (d e : SD) (im : List Nat) : HR := fun v G => ∃ m, v = .ref m ∧ MpAt K Cs CM d e im m G
instance (K Cs CM d e im) : Mon (IsMp K Cs CM d e im) := ⟨fun s ⟨w, e, h⟩ => ⟨w, e, h.mono s⟩⟩
/-- the names of images -/
def imN (e : SD) (im : List Nat) : List Str := im.map fun i => e.names.getD i ("" : Str)
end L2.DS
/-! Small scales of all sorts, that a law makes. -/
namespace L2.DS
open PySem PySem.Spec PyProof.Rows
/-! ### six relations on two states -/
/-! ### one worth alone -/
/-! ### in the opposite order -/
/-- a small scale that is read back from its label -/
structure Smk (d : SD) : Prop where
  o : SdOk d
  r : ∃ w, Rdb 2 d w
  ll : d.label.length ≤ 20000
  n6 : d.names.length ≤ 6
  so : ∀ nm ∈ d.names, PyData.strOk nm = true
/-! promises -/
end L2.DS
/-! Maps that a law makes of drawn names. -/
namespace L2.DS
open PySem PySem.Spec PyProof.Rows
/-- a name -/
def IsNm (d : SD) : HR := fun v _ => ∃ i, i < d.names.length ∧ v = .str (d.names.getD i ("" : Str))
instance (d) : Mon (IsNm d) := ⟨fun _ h => h⟩
/-- a map and its list of names, in a list -/
def IsMN (K : PySem.W.Frag) (Cs : List Addr) (CM : Addr) (d e : SD) (im : List Nat) : HR := fun v G => ∃ p m pn, v = .ref p ∧ G p = some (.lst [.ref m, .ref pn]) ∧ MpAt K Cs CM d e im m G ∧ G pn = some (.lst ((imN e im).map V.str))
instance (K Cs CM d e im) : Mon (IsMN K Cs CM d e im) := ⟨fun s ⟨p, m, pn, a, b, c, g⟩ => ⟨p, m, pn, a, s _ _ b, c.mono s, s _ _ g⟩⟩
def IsMNs (K : PySem.W.Frag) (Cs : List Addr) (CM : Addr) (d e : SD) : HR := fun v G => ∃ im, IsMN K Cs CM d e im v G
instance (K Cs CM d e) : Mon (IsMNs K Cs CM d e) := ⟨fun s ⟨im, a⟩ => ⟨im, Mon.mon s a⟩⟩
end L2.DS
/-! A label tells the names. -/
namespace L2.DS
open PySem PySem.Spec PyProof.Rows
def hdW : Wd → Str
  | .l (.w s :: _) => s
  | _ => ""
def tlW : Wd → List Wd
  | .l (_ :: r) => r
  | _ => []
def wS : Wd → Str
  | .w s => s
  | _ => ""
def wL : Wd → List Wd
  | .l ws => ws
  | _ => []
theorem num_inj {m k : Nat} (hm : m < 64) (hk : k < 64) (h : (toString ((m : Nat) : Int) : Str) = (toString ((k : Nat) : Int) : Str)) : m = k := by
  have a := (num_ok m hm).1
  rw [h, (num_ok k hk).1] at a
  have := Option.some.inj a
  omega
theorem ordS_inj : ∀ {u v : Bool}, ordS u = ordS v → u = v := by decide +kernel
theorem joinS_inj : ∀ {u v : Bool}, joinS u = joinS v → u = v := by decide +kernel
theorem mapw_inj : ∀ {a b : List Str}, a.map Wd.w = b.map Wd.w → a = b
  | [], [], _ => rfl
  | [], _ :: _, h => nomatch h
  | _ :: _, [], h => nomatch h
  | x :: a, y :: b, h => by
    obtain ⟨h1, h2⟩ := List.cons.inj h
    rw [Wd.w.inj h1, mapw_inj h2]
theorem Rdb.names {n : Nat} {d : SD} {w : Wd} (h : Rdb n d w) : ∀ {m : Nat} {d' : SD} {w' : Wd}, Rdb m d' w' → w = w' → d.names = d'.names := by
  induction h with
  | tab T =>
    intro m d' w' h' e
    cases h' with
    | tab T' =>
      have t := congrArg tlW e
      exact mapw_inj (congrArg wL (List.cons.inj t).1)
    | _ => exact absurd (congrArg hdW e) (by first | exact (show ¬ (("table" : Str) = ("count" : Str)) by decide +kernel) | exact (show ¬ (("table" : Str) = ("span" : Str)) by decide +kernel) | exact (show ¬ (("table" : Str) = ("set" : Str)) by decide +kernel) | exact (show ¬ (("table" : Str) = ("watch" : Str)) by decide +kernel) | exact (show ¬ (("table" : Str) = ("turned" : Str)) by decide +kernel) | exact (show ¬ (("table" : Str) = ("heap" : Str)) by decide +kernel) | exact (show ¬ (("table" : Str) = ("pair" : Str)) by decide +kernel))
  | cnt hm =>
    intro m d' w' h' e
    cases h' with
    | cnt hk =>
      obtain ⟨t1, t2⟩ := List.cons.inj (congrArg tlW e)
      have e1 := num_inj (by omega) (by omega) (congrArg wS t1)
      have e2 := ordS_inj (congrArg wS (List.cons.inj t2).1)
      rw [e1, e2]
    | _ => exact absurd (congrArg hdW e) (by first | exact (show ¬ (("count" : Str) = ("table" : Str)) by decide +kernel) | exact (show ¬ (("count" : Str) = ("span" : Str)) by decide +kernel) | exact (show ¬ (("count" : Str) = ("set" : Str)) by decide +kernel) | exact (show ¬ (("count" : Str) = ("watch" : Str)) by decide +kernel) | exact (show ¬ (("count" : Str) = ("turned" : Str)) by decide +kernel) | exact (show ¬ (("count" : Str) = ("heap" : Str)) by decide +kernel) | exact (show ¬ (("count" : Str) = ("pair" : Str)) by decide +kernel))
  | span hm =>
    intro m d' w' h' e
    cases h' with
    | span hk =>
      obtain ⟨t1, t2⟩ := List.cons.inj (congrArg tlW e)
      have e1 := num_inj (by omega) (by omega) (congrArg wS t1)
      rw [e1]
    | _ => exact absurd (congrArg hdW e) (by first | exact (show ¬ (("span" : Str) = ("table" : Str)) by decide +kernel) | exact (show ¬ (("span" : Str) = ("count" : Str)) by decide +kernel) | exact (show ¬ (("span" : Str) = ("set" : Str)) by decide +kernel) | exact (show ¬ (("span" : Str) = ("watch" : Str)) by decide +kernel) | exact (show ¬ (("span" : Str) = ("turned" : Str)) by decide +kernel) | exact (show ¬ (("span" : Str) = ("heap" : Str)) by decide +kernel) | exact (show ¬ (("span" : Str) = ("pair" : Str)) by decide +kernel))
  | set h0 hm =>
    intro m d' w' h' e
    cases h' with
    | set h1 hk =>
      obtain ⟨t1, t2⟩ := List.cons.inj (congrArg tlW e)
      have e1 := num_inj (by omega) (by omega) (congrArg wS t1)
      have e2 := joinS_inj (congrArg wS (List.cons.inj t2).1)
      rw [e1, e2]
    | _ => exact absurd (congrArg hdW e) (by first | exact (show ¬ (("set" : Str) = ("table" : Str)) by decide +kernel) | exact (show ¬ (("set" : Str) = ("count" : Str)) by decide +kernel) | exact (show ¬ (("set" : Str) = ("span" : Str)) by decide +kernel) | exact (show ¬ (("set" : Str) = ("watch" : Str)) by decide +kernel) | exact (show ¬ (("set" : Str) = ("turned" : Str)) by decide +kernel) | exact (show ¬ (("set" : Str) = ("heap" : Str)) by decide +kernel) | exact (show ¬ (("set" : Str) = ("pair" : Str)) by decide +kernel))
  | watch h0 hm =>
    intro m d' w' h' e
    cases h' with
    | watch h1 hk =>
      obtain ⟨t1, t2⟩ := List.cons.inj (congrArg tlW e)
      have e1 := num_inj (by omega) (by omega) (congrArg wS t1)
      rw [e1]
    | _ => exact absurd (congrArg hdW e) (by first | exact (show ¬ (("watch" : Str) = ("table" : Str)) by decide +kernel) | exact (show ¬ (("watch" : Str) = ("count" : Str)) by decide +kernel) | exact (show ¬ (("watch" : Str) = ("span" : Str)) by decide +kernel) | exact (show ¬ (("watch" : Str) = ("set" : Str)) by decide +kernel) | exact (show ¬ (("watch" : Str) = ("turned" : Str)) by decide +kernel) | exact (show ¬ (("watch" : Str) = ("heap" : Str)) by decide +kernel) | exact (show ¬ (("watch" : Str) = ("pair" : Str)) by decide +kernel))
  | turn h o hd ih =>
    intro m d' w' h' e
    cases h' with
    | turn h2 o2 hd2 =>
      have := ih h2 (List.cons.inj (congrArg tlW e)).1
      exact this
    | _ => exact absurd (congrArg hdW e) (by first | exact (show ¬ (("turned" : Str) = ("table" : Str)) by decide +kernel) | exact (show ¬ (("turned" : Str) = ("count" : Str)) by decide +kernel) | exact (show ¬ (("turned" : Str) = ("span" : Str)) by decide +kernel) | exact (show ¬ (("turned" : Str) = ("set" : Str)) by decide +kernel) | exact (show ¬ (("turned" : Str) = ("watch" : Str)) by decide +kernel) | exact (show ¬ (("turned" : Str) = ("heap" : Str)) by decide +kernel) | exact (show ¬ (("turned" : Str) = ("pair" : Str)) by decide +kernel))
  | heap h o l6 hd nd ih =>
    intro m d' w' h' e
    cases h' with
    | heap h2 o2 l2 hd2 nd2 => exact congrArg heapNames (ih h2 (List.cons.inj (congrArg tlW e)).1)
    | _ => exact absurd (congrArg hdW e) (by first | exact (show ¬ (("heap" : Str) = ("table" : Str)) by decide +kernel) | exact (show ¬ (("heap" : Str) = ("count" : Str)) by decide +kernel) | exact (show ¬ (("heap" : Str) = ("span" : Str)) by decide +kernel) | exact (show ¬ (("heap" : Str) = ("set" : Str)) by decide +kernel) | exact (show ¬ (("heap" : Str) = ("watch" : Str)) by decide +kernel) | exact (show ¬ (("heap" : Str) = ("turned" : Str)) by decide +kernel) | exact (show ¬ (("heap" : Str) = ("pair" : Str)) by decide +kernel))
  | pair h1 h2 o1 o2 l hd nd ih1 ih2 =>
    intro m d' w' h' e
    cases h' with
    | pair h3 h4 o3 o4 l' hd' nd' =>
      obtain ⟨t1, t2⟩ := List.cons.inj (congrArg tlW e)
      have e1 := ih1 h3 t1
      have e2 := ih2 h4 (List.cons.inj t2).1
      show pairNames _ _ = pairNames _ _
      unfold pairNames
      rw [e1, e2]
    | _ => exact absurd (congrArg hdW e) (by first | exact (show ¬ (("pair" : Str) = ("table" : Str)) by decide +kernel) | exact (show ¬ (("pair" : Str) = ("count" : Str)) by decide +kernel) | exact (show ¬ (("pair" : Str) = ("span" : Str)) by decide +kernel) | exact (show ¬ (("pair" : Str) = ("set" : Str)) by decide +kernel) | exact (show ¬ (("pair" : Str) = ("watch" : Str)) by decide +kernel) | exact (show ¬ (("pair" : Str) = ("turned" : Str)) by decide +kernel) | exact (show ¬ (("pair" : Str) = ("heap" : Str)) by decide +kernel))
theorem Rdb.lab {n m : Nat} {d d' : SD} {w w' : Wd} (h : Rdb n d w) (h' : Rdb m d' w') (hn : n ≤ 9) (hm : m ≤ 9) (e : d.label = d'.label) : d.names = d'.names := by
  have a := h.nw hn
  rw [e, h'.nw hm] at a
  exact h.names h' (List.cons.inj (Option.some.inj a)).1.symm
theorem Smk.lab {d d' : SD} (h : Smk d) (h' : Smk d') (e : d.label = d'.label) : d.names = d'.names := by
  obtain ⟨w, a⟩ := h.r
  obtain ⟨w', a'⟩ := h'.r
  exact a.lab a' (by decide) (by decide) e
theorem cutV_to {xs : List V} {a : Nat} (h : a ≤ xs.length) : cutV xs none (some ((a : Nat) : Int)) = xs.take a := by
  unfold cutV
  rw [HT.sIx_nat, HT.sIx_none, Nat.min_eq_left h, Nat.sub_zero, List.drop_zero]
end L2.DS
/-! The law's own search for a fault. -/
namespace L2.DS
open PySem PySem.Spec PyProof.Rows
/-- the law's tables of a scale: joins, products, never, still -/
def LTb (d : SD) (p : Addr) (G : Hp) : Prop := ∃ pj pp, G p = some (.lst [.ref pj, .ref pp, .int (d.nv.toNat : Nat), .int (d.sl.toNat : Nat)]) ∧ TabN G pj d.names.length d.jn ∧ TabN G pp d.names.length d.th
theorem LTb.mono {d : SD} {p : Addr} {G G' : Hp} (h : LTb d p G) (s : Same G G') : LTb d p G' := let ⟨a, b, c, e, f⟩ := h; ⟨a, b, s _ _ c, e.mono s, f.mono s⟩
/-! promises -/
/-- tables of m places -/
def LTn (m nv sl : Nat) (th jn : Nat → Nat → Int) (p : Addr) (G : Hp) : Prop := ∃ pj pp, G p = some (.lst [.ref pj, .ref pp, .int (nv : Nat), .int (sl : Nat)]) ∧ TabN G pj m jn ∧ TabN G pp m th
theorem LTn.mono {m nv sl : Nat} {th jn : Nat → Nat → Int} {p : Addr} {G G' : Hp} (h : LTn m nv sl th jn p G) (s : Same G G') : LTn m nv sl th jn p G' := let ⟨a, b, c, e, f⟩ := h; ⟨a, b, s _ _ c, e.mono s, f.mono s⟩
structure LTok (m nv sl : Nat) (th jn : Nat → Nat → Int) : Prop where
  nv : nv < m
  sl : sl < m
  th : ∀ a b, a < m → b < m → 0 ≤ th a b ∧ th a b < m
  jn : ∀ a b, a < m → b < m → 0 ≤ jn a b ∧ jn a b < m
theorem LTn.tab {names : List Str} {nv sl : Nat} {th jn : Nat → Nat → Int} {p : Addr} {G : Hp} (h : LTn names.length nv sl th jn p G) : LTb (tabSD names nv sl th jn) p G := h
theorem LTok.tab {names : List Str} {nv sl : Nat} {th jn : Nat → Nat → Int} (h : LTok names.length nv sl th jn) (l1 : 1 ≤ names.length) (l2 : names.length ≤ 16) (nd : names.Nodup) (ok : ∀ nm ∈ names, okNm nm = true) (so : ∀ nm ∈ names, PyData.strOk nm = true) : TbIs names nv sl th jn := ⟨l1, l2, nd, ok, so, h.nv, h.sl, h.th, h.jn⟩
def IsLT (m : Nat) : HR := fun v G => ∃ p nv sl th jn, v = .ref p ∧ LTn m nv sl th jn p G ∧ LTok m nv sl th jn
instance (m) : Mon (IsLT m) := ⟨fun s ⟨p, nv, sl, th, jn, e, a, b⟩ => ⟨p, nv, sl, th, jn, e, a.mono s, b⟩⟩
def IsLTF (F : Hp) (m : Nat) : HR := fun v G => ∃ p, v = .ref p ∧ F p = none ∧ IsLT m v G
instance (F m) : Mon (IsLTF F m) := ⟨fun s ⟨p, e, f, h⟩ => ⟨p, e, f, Mon.mon s h⟩⟩
/-! ### tables whose lists are new -/
def TabF (F G : Hp) (p : Addr) (n : Nat) (f : Nat → Nat → Int) : Prop := F p = none ∧ ∃ vs, G p = some (.lst vs) ∧ RL (fun a => IsIRn F n (f a)) (List.range n) vs G
theorem TabF.mono {F G G' : Hp} {p : Addr} {n : Nat} {f : Nat → Nat → Int} (h : TabF F G p n f) (s : Same G G') : TabF F G' p n f := ⟨h.1, h.2.choose, s _ _ h.2.choose_spec.1, rl_mon s h.2.choose_spec.2⟩
theorem TabF.tab {F G : Hp} {p : Addr} {n : Nat} {f : Nat → Nat → Int} (h : TabF F G p n f) : TabN G p n f := ⟨_, h.2.choose_spec.1, rl_row h.2.choose_spec.2⟩
/-! ### lists that a def writes into, handed over by its caller -/
/-! ### the answers as data -/
end L2.DS
/-! Lists that grow in one another; joined ways; the rows of a pair and of a heap as the law makes them. -/
namespace L2.DS
open PySem PySem.Spec PyProof.Rows
section
variable {α : Type} {R : α → HR} {S : SR} {n n0 m k c1 : Nat} {te el : TE} {t ta tb : TA} {u t1 t2 : TS} {tt : TT} {σ : L2.St} {G H G1 H1 G3 J G4 H4 : Hp} {nx bk ct : L2.St → Hp → Prop} {rt : VK} {i j : Nat} {K : PySem.W.Frag} {D p : Addr} {ss : List α} {x : α} {acc xs : List V}
/-- the list at D grows; G3 tells all else -/
structure LcO (S : SR) (G1 H1 : Hp) (n : Nat) (D : Addr) (R : α → HR) (ss : List α) (G3 J : Hp) : Prop where
  s : Stp S n G1 H1 G3 J
  d : G3 D = none
  a : ∃ acc, J D = some (.lst acc) ∧ RL R ss acc G3
theorem LcO.q (h : LcO S G1 H1 n D R ss G3 J) : LcQ S G1 H1 n D R ss J := let ⟨acc, a, b⟩ := h.a; ⟨G3, acc, h.s, h.d, a, b⟩
theorem LcQ.o (h : LcQ S G1 H1 n D R ss J) : ∃ G3, LcO S G1 H1 n D R ss G3 J := let ⟨G3, acc, a, b, c, d⟩ := h; ⟨G3, a, b, acc, c, d⟩
theorem LcO.go (st : Stab S) [∀ a, Mon (R a)] (a : S n0 G1 H1) (hD : H1 D = none) (h : LcO S G1 H1 n D R ss G3 J) (s4 : Stp S m G3 J G4 H4) : LcO S G1 H1 m D R ss G4 H4 := by
  obtain ⟨s3, c, acc, d, r⟩ := h
  refine ⟨s3.trans s4, ?_, acc, s4.k.k D _ (st.fre a hD) d, rl_mon s4.g r⟩
  cases e : G4 D with
  | none => rfl
  | some o =>
    rcases s4.n D o e with q | q
    · rw [c] at q
      cases q
    · rw [d] at q
      cases q
theorem LcO.pub (st : Stab S) [∀ a, Mon (R a)] (a : S n0 G1 H1) (hn : n0 ≤ n) (hD : H1 D = none) (h : LcO S G1 H1 n D R ss G3 J) : ∃ G', Stp S n G1 H1 G' J ∧ Same G3 G' ∧ IsNX G1 (RL R ss) (.ref D) G' := by
  obtain ⟨s3, c, acc, d, r⟩ := h
  obtain ⟨b1, b2⟩ := st_pub st a hD s3.s c d
  refine ⟨upd G3 D (.lst acc), ⟨s3.g.trans b2, s3.k, b1, fun b o e => ?_⟩, b2, D, acc, rfl, (st.sub a).free hD, upd_same, rl_mon b2 r⟩
  by_cases hb : b = D
  · rw [hb]
    exact .inr hD
  · rw [upd_ne hb] at e
    exact s3.n b o e
/-- [..], all told, new -/
theorem ev_lstXN {RA : HRs} (st : Stab S) [Mons RA] (h : EvA S n k t σ G RA) (hl : ∀ vs G', RA vs G' → vs.length ≤ 100000) : Ev S n k (tLst t) σ G (IsNX G RA) := fun G1 H1 s0 s Q q =>
  h G1 H1 s0 s _ fun vs G2 H2 s2 e => ⟨Nat.le_trans (hl vs G2 e) (by decide), fun p hp => by
    have g := st.new (o := .lst vs) s2.s hp
    exact q (.ref p) _ _ (s2.trans g) ⟨p, vs, rfl, s0.free (s2.g.free ((st.sub s2.s).free hp)), upd_same, Mons.mon g.g e⟩⟩
/-- two ways that meet -/
theorem q_ifB {P : Bool → Prop} (st : Stab S) (Jn : L2.St → Hp → Prop) (s : S n G H) (e : EvT S n k tt σ G P) (hu : ∀ σ' H', Jn σ' H' → u (Ends.mk nx rt bk ct) σ' H')
    (h1 : ∀ H', (∀ σ' H', Jn σ' H' → u (Ends.mk nx rt bk ct) σ' H') → P true → Kp S H H' → S (n + k) G H' → t1 (Ends.mk (u (Ends.mk nx rt bk ct)) rt bk ct) σ H')
    (h2 : ∀ H', (∀ σ' H', Jn σ' H' → u (Ends.mk nx rt bk ct) σ' H') → P false → Kp S H H' → S (n + k) G H' → t2 (Ends.mk (u (Ends.mk nx rt bk ct)) rt bk ct) σ H') : tSeq (tIfS tt t1 t2) u (Ends.mk nx rt bk ct) σ H :=
  q_if st s e (fun H' p k s => h1 H' hu p k s) (fun H' p k s => h2 H' hu p k s)
end
/-- l[i] = v, l told, what v is told by R -/
theorem q_setNewR {S : SR} {n kc ka kb n0 : Nat} {to ti te : TE} {u : TS} {σ : L2.St} {G H G0 H0 : Hp} {nx bk ct : L2.St → Hp → Prop} {rt : VK} {D : Addr} {xs : List V} {i : Nat} {R : HR} (st : Stab S) (s0 : S n0 G0 H0) (hD0 : H0 D = none) (s : S n G H) (hc : ∀ m G' J, S m G' J → S m (cut G' (· = D)) J) (hD : G D = some (.lst xs)) (hi : i < xs.length)
    (e : Ev S n kc te σ G R) (e1 : ∀ G', Same G G' → Ev S (n + kc) ka to σ G' (IsV (.ref D))) (e2 : ∀ G', Same G G' → Ev S (n + kc + ka) kb ti σ G' (IsV (.int (i : Nat))))
    (h : ∀ v G' H', R v G' → Same G G' → S (n + kc + ka + kb) (upd G' D (.lst (xs.set i v))) H' → u (Ends.mk nx rt bk ct) σ H') : tSeq (tAsg te (gSub to ti rSetA)) u (Ends.mk nx rt bk ct) σ H := by
  refine e G H (Same.refl _) s _ fun v1 G1 H1 s1 ev1 => ?_
  refine e1 G1 s1.g G1 H1 (Same.refl _) s1.s _ fun v2 G2 H2 s2 ev2 => ?_
  obtain rfl := (show _ = _ from ev2)
  refine e2 G1 s1.g G2 H2 s2.g s2.s _ fun v3 G3 H3 s3 ev3 => ?_
  obtain rfl := (show _ = _ from ev3)
  have s23 := s2.trans s3
  have z3 := st.anti s1.s s23.s s23.g
  have hD1 := s1.g _ _ hD
  have hH3 : H3 D = some (.lst xs) := st.sub z3 _ _ hD1
  have cD : cut G1 (· = D) D = none := cut_in rfl
  have c3 := hc _ _ _ z3
  have chg := st.chg (o := .lst (xs.set i v1)) s0 hD0 c3 cD
  have pb := st.pub (o := .lst (xs.set i v1)) s0 hD0 chg cD upd_same
  have ec : upd (cut G1 (· = D)) D (.lst (xs.set i v1)) = upd G1 D (.lst (xs.set i v1)) := by
    funext b
    by_cases hb : b = D
    · subst hb
      rw [upd_same, upd_same]
    · rw [upd_ne hb, upd_ne hb]
      exact cut_out (X := fun x => x = D) hb
  rw [ec] at pb
  have hx : ixN xs.length ((i : Nat) : Int) = some i := by
    unfold ixN
    rw [if_pos (by omega), if_pos (by omega)]
    rfl
  exact .inl ⟨D, xs, (i : Nat), i, rfl, rfl, hH3, hx, h v1 G1 _ ev1 s1.g pb⟩
def IsTbN (n : Nat) (f : Nat → Nat → Int) : HR := fun v G => ∃ p, v = .ref p ∧ TabN G p n f
instance (n f) : Mon (IsTbN n f) := ⟨fun s ⟨p, e, h⟩ => ⟨p, e, h.mono s⟩⟩
/-! the tables behind the changes -/
end L2.DS
/-! Regular maps: their growing, worth by worth. -/
namespace L2.DS
open PySem PySem.Spec PyProof.Rows
/-! ### plain -/
def rF (d : SD) (w : Bool) (a b : Nat) : Nat := if w then d.J a b else d.T a b
theorem SdOk.r {d : SD} (o : SdOk d) {w : Bool} {a b : Nat} (ha : a < d.names.length) (hb : b < d.names.length) : rF d w a b < d.names.length := by
  unfold rF
  split
  · exact (o.J ha hb).2
  · exact (o.T ha hb).2
/-! ### tuples of places -/
def IsTI (K : PySem.W.Frag) (im : List Nat) : HR := IsT K (nVs im)
instance (K im) : Mon (IsTI K im) := inferInstanceAs (Mon (IsT K (nVs im)))
/-! ### lists of lists of places -/
/-! ### promises -/
end L2.DS
/-! Terms as tuples: what they hold, their texts. -/
namespace L2.DS
open PySem PySem.Spec PyProof.Rows
inductive Tm where
  | skip
  | deed (s : Str)
  | call (s : Str)
  | leave (s : Str)
  | loop (t : Tm)
  | times (n : Int) (t : Tm)
  | seq (t u : Tm)
  | either (t u : Tm)
  | clean (t u : Tm)
  | ctch (s : Str) (t u : Tm)
inductive Fd where
  | s (x : Str)
  | n (i : Int)
  | t (a : Tm)
def Tm.dat : Tm → PyData
  | .skip => .tuple [.str "skip"]
  | .deed s => .tuple [.str "deed", .str s]
  | .call s => .tuple [.str "call", .str s]
  | .leave s => .tuple [.str "leave", .str s]
  | .loop t => .tuple [.str "loop", t.dat]
  | .times n t => .tuple [.str "times", .int n, t.dat]
  | .seq t u => .tuple [.str "then", t.dat, u.dat]
  | .either t u => .tuple [.str "either", t.dat, u.dat]
  | .clean t u => .tuple [.str "clean", t.dat, u.dat]
  | .ctch s t u => .tuple [.str "catch", .str s, t.dat, u.dat]
def Fd.dat : Fd → PyData
  | .s x => .str x
  | .n i => .int i
  | .t a => a.dat
/-- a tuple with just these fields -/
def IsTq (R : HRs) : HR := fun v G => ∃ a xs, v = .ref a ∧ G a = some (.tup xs) ∧ R xs G
instance (R : HRs) [Mons R] : Mon (IsTq R) := ⟨fun s ⟨a, xs, e, g, r⟩ => ⟨a, xs, e, s _ _ g, Mons.mon s r⟩⟩
def IsTm : Tm → HR
  | .skip => IsTq (RCons (IsV (.str "skip")) RNil)
  | .deed s => IsTq (RCons (IsV (.str "deed")) (RCons (IsV (.str s)) RNil))
  | .call s => IsTq (RCons (IsV (.str "call")) (RCons (IsV (.str s)) RNil))
  | .leave s => IsTq (RCons (IsV (.str "leave")) (RCons (IsV (.str s)) RNil))
  | .loop t => IsTq (RCons (IsV (.str "loop")) (RCons (IsTm t) RNil))
  | .times n t => IsTq (RCons (IsV (.str "times")) (RCons (IsV (.int n)) (RCons (IsTm t) RNil)))
  | .seq t u => IsTq (RCons (IsV (.str "then")) (RCons (IsTm t) (RCons (IsTm u) RNil)))
  | .either t u => IsTq (RCons (IsV (.str "either")) (RCons (IsTm t) (RCons (IsTm u) RNil)))
  | .clean t u => IsTq (RCons (IsV (.str "clean")) (RCons (IsTm t) (RCons (IsTm u) RNil)))
  | .ctch s t u => IsTq (RCons (IsV (.str "catch")) (RCons (IsV (.str s)) (RCons (IsTm t) (RCons (IsTm u) RNil))))
def IsFd : Fd → HR
  | .s x => IsV (.str x)
  | .n i => IsV (.int i)
  | .t a => IsTm a
theorem tm_mon : ∀ (t : Tm) {v : V} {G G' : Hp}, Same G G' → IsTm t v G → IsTm t v G'
  | .skip, _, _, _, s, h => Mon.mon (R := IsTq (RCons (IsV (.str "skip")) RNil)) s h
  | .deed x, _, _, _, s, h => Mon.mon (R := IsTq (RCons (IsV (.str "deed")) (RCons (IsV (.str x)) RNil))) s h
  | .call x, _, _, _, s, h => Mon.mon (R := IsTq (RCons (IsV (.str "call")) (RCons (IsV (.str x)) RNil))) s h
  | .leave x, _, _, _, s, h => Mon.mon (R := IsTq (RCons (IsV (.str "leave")) (RCons (IsV (.str x)) RNil))) s h
  | .loop t, _, _, _, s, ⟨a, xs, e, g, v0, w0, e0, h0, v1, w1, e1, h1, hn⟩ => ⟨a, xs, e, s _ _ g, v0, w0, e0, h0, v1, w1, e1, tm_mon t s h1, hn⟩
  | .times n t, _, _, _, s, ⟨a, xs, e, g, v0, w0, e0, h0, v1, w1, e1, h1, v2, w2, e2, h2, hn⟩ => ⟨a, xs, e, s _ _ g, v0, w0, e0, h0, v1, w1, e1, h1, v2, w2, e2, tm_mon t s h2, hn⟩
  | .seq t u, _, _, _, s, ⟨a, xs, e, g, v0, w0, e0, h0, v1, w1, e1, h1, v2, w2, e2, h2, hn⟩ => ⟨a, xs, e, s _ _ g, v0, w0, e0, h0, v1, w1, e1, tm_mon t s h1, v2, w2, e2, tm_mon u s h2, hn⟩
  | .either t u, _, _, _, s, ⟨a, xs, e, g, v0, w0, e0, h0, v1, w1, e1, h1, v2, w2, e2, h2, hn⟩ => ⟨a, xs, e, s _ _ g, v0, w0, e0, h0, v1, w1, e1, tm_mon t s h1, v2, w2, e2, tm_mon u s h2, hn⟩
  | .clean t u, _, _, _, s, ⟨a, xs, e, g, v0, w0, e0, h0, v1, w1, e1, h1, v2, w2, e2, h2, hn⟩ => ⟨a, xs, e, s _ _ g, v0, w0, e0, h0, v1, w1, e1, tm_mon t s h1, v2, w2, e2, tm_mon u s h2, hn⟩
  | .ctch x t u, _, _, _, s, ⟨a, xs, e, g, v0, w0, e0, h0, v1, w1, e1, h1, v2, w2, e2, h2, v3, w3, e3, h3, hn⟩ => ⟨a, xs, e, s _ _ g, v0, w0, e0, h0, v1, w1, e1, h1, v2, w2, e2, tm_mon t s h2, v3, w3, e3, tm_mon u s h3, hn⟩
instance (t : Tm) : Mon (IsTm t) := ⟨fun s h => tm_mon t s h⟩
instance (f : Fd) : Mon (IsFd f) := match f with
  | .s x => (inferInstance : Mon (IsV (.str x)))
  | .n i => (inferInstance : Mon (IsV (.int i)))
  | .t a => (inferInstance : Mon (IsTm a))
/-! ### texts -/
def wrapS (ws : List Str) : Str := ("(" : Str) ++ Txt.join (" " : Str) ws ++ (")" : Str)
def Tm.txt : Tm → Str
  | .skip => "skip"
  | .deed s => wrapS ["deed", s]
  | .call s => wrapS ["call", s]
  | .leave s => wrapS ["leave", s]
  | .loop t => wrapS ["loop", t.txt]
  | .times n t => wrapS ["times", (toString n : Str), t.txt]
  | .seq t u => wrapS ["then", t.txt, u.txt]
  | .either t u => wrapS ["either", t.txt, u.txt]
  | .clean t u => wrapS ["clean", t.txt, u.txt]
  | .ctch s t u => wrapS ["catch", s, t.txt, u.txt]
def Fd.txt : Fd → Str
  | .s x => x
  | .n i => (toString i : Str)
  | .t a => a.txt
/-- the terms that the law draws: D, C, W are the names of deeds, procedures and ways; d its depth -/
def TmIn (D C W : Str → Prop) : Nat → Tm → Prop
  | _, .skip => True
  | _, .deed s => D s
  | _, .call s => C s
  | _, .leave s => W s
  | 0, _ => False
  | d + 1, .loop t => TmIn D C W d t
  | d + 1, .times n t => (0 ≤ n ∧ n < 10 ^ 60) ∧ TmIn D C W d t
  | d + 1, .seq t u => TmIn D C W d t ∧ TmIn D C W d u
  | d + 1, .either t u => TmIn D C W d t ∧ TmIn D C W d u
  | d + 1, .clean t u => TmIn D C W d t ∧ TmIn D C W d u
  | d + 1, .ctch s t u => W s ∧ TmIn D C W d t ∧ TmIn D C W d u
/-! ### names -/
def smC (c : Nat) : Bool := decide (97 ≤ c ∧ c ≤ 122)
def fgC (c : Nat) : Bool := decide (48 ≤ c ∧ c ≤ 57)
def kwL : List Str := ["deed", "call", "leave", "loop", "times", "then", "either", "clean", "catch", "skip", "program", "to", "end"]
structure NmOk (s : Str) : Prop where
  l1 : 1 ≤ s.length
  l2 : s.length ≤ 12
  kw : s ∉ kwL
  hd : ∃ c r, s.cps.toList = c :: r ∧ smC c = true
  al : ∀ c ∈ s.cps.toList, (smC c || fgC c) = true
/-- a name as it grows -/
structure NmG (k : Nat) (s : Str) : Prop where
  l : s.length = k
  hd : ∃ c r, s.cps.toList = c :: r ∧ smC c = true
  al : ∀ c ∈ s.cps.toList, (smC c || fgC c) = true
theorem NmG.app {k : Nat} {s : Str} {c : Nat} (h : NmG k s) (hc : (smC c || fgC c) = true) : NmG (k + 1) (s ++ (⟨#[c]⟩ : Str)) := by
  obtain ⟨a, r, e, ha⟩ := h.hd
  refine ⟨by rw [Str.length_append, h.l]; rfl, ⟨a, r ++ [c], by rw [cps_app, e]; rfl, ha⟩, fun x hx => ?_⟩
  rw [cps_app] at hx
  rcases List.mem_append.mp hx with hx | hx
  · exact h.al x hx
  · rw [List.mem_singleton.mp hx]
    exact hc
theorem NmG.one {c : Nat} (hc : smC c = true) : NmG 1 (⟨#[c]⟩ : Str) := ⟨rfl, ⟨c, [], rfl, hc⟩, fun x hx => by rw [List.mem_singleton.mp hx, hc]; rfl⟩
def IsNmL (p : Addr) (L : List Str) (G : Hp) : Prop := G p = some (.lst (L.map V.str)) ∧ 1 ≤ L.length ∧ L.length ≤ 1000
theorem IsNmL.mono {p : Addr} {L : List Str} {G G' : Hp} (h : IsNmL p L G) (s : Same G G') : IsNmL p L G' := ⟨s _ _ h.1, h.2⟩
def IsTt (P : Tm → Prop) : HR := fun v G => ∃ t, P t ∧ IsTm t v G
instance (P) : Mon (IsTt P) := ⟨fun s ⟨t, a, b⟩ => ⟨t, a, Mon.mon s b⟩⟩
theorem TmIn.up {D C W : Str → Prop} : ∀ {m : Nat} {t : Tm}, TmIn D C W m t → TmIn D C W (m + 1) t
  | 0, .skip, h => trivial
  | 0, .deed _, h => h
  | 0, .call _, h => h
  | 0, .leave _, h => h
  | m + 1, .skip, h => trivial
  | m + 1, .deed _, h => h
  | m + 1, .call _, h => h
  | m + 1, .leave _, h => h
  | m + 1, .loop t, h => TmIn.up (m := m) (t := t) h
  | m + 1, .times _ t, h => ⟨h.1, TmIn.up (m := m) (t := t) h.2⟩
  | m + 1, .seq t u, h => ⟨TmIn.up (m := m) (t := t) h.1, TmIn.up (m := m) (t := u) h.2⟩
  | m + 1, .either t u, h => ⟨TmIn.up (m := m) (t := t) h.1, TmIn.up (m := m) (t := u) h.2⟩
  | m + 1, .clean t u, h => ⟨TmIn.up (m := m) (t := t) h.1, TmIn.up (m := m) (t := u) h.2⟩
  | m + 1, .ctch _ t u, h => ⟨h.1, TmIn.up (m := m) (t := t) h.2.1, TmIn.up (m := m) (t := u) h.2.2⟩
section
variable {S : SR} {n k ka kb : Nat} {te : TE} {t : TA} {σ : L2.St} {G : Hp} {RA : HRs} {P : Tm → Prop}
theorem rc2_len {R1 R2 : HR} : ∀ vs G', RCons R1 (RCons R2 RNil) vs G' → vs.length ≤ 100000 := fun vs G' ⟨_, _, e, _, _, _, e1, _, e2⟩ => by
  rw [e, e1, show _ = [] from e2]
  exact Nat.le_of_ble_eq_true rfl
theorem rc3_len {R1 R2 R3 : HR} : ∀ vs G', RCons R1 (RCons R2 (RCons R3 RNil)) vs G' → vs.length ≤ 100000 := fun vs G' ⟨_, _, e, _, _, _, e1, _, _, _, e3, _, e2⟩ => by
  rw [e, e1, e3, show _ = [] from e2]
  exact Nat.le_of_ble_eq_true rfl
end
end L2.DS
/-! Texts of terms: comprehensions over tuples, slices, str of texts and ints. -/
namespace L2.DS
open PySem PySem.Spec PyProof.Rows
def IsTp (xs : List V) : HR := fun v G => ∃ p, v = .ref p ∧ G p = some (.tup xs)
instance (xs) : Mon (IsTp xs) := ⟨fun s ⟨p, e, h⟩ => ⟨p, e, s _ _ h⟩⟩
/-! ### terms: their data, the lengths of their texts -/
def Nm12 (s : Str) : Prop := s.length ≤ 12 ∧ PyData.strOk s = true
theorem wrap2_len {a b : Str} : (wrapS [a, b]).length = a.length + b.length + 3 := by
  have c1 : ("(" : Str).length = 1 ∧ (" " : Str).length = 1 ∧ (")" : Str).length = 1 := by decide +kernel
  unfold wrapS
  rw [show Txt.join (" " : Str) [a, b] = Str.join (" " : Str) [a, b] from StrLaws.glued_eq_join _ _]
  show (("(" : Str) ++ (a ++ (" " : Str) ++ b) ++ (")" : Str)).length = _
  rw [Str.length_append, Str.length_append, Str.length_append, Str.length_append]
  omega
theorem wrap3_len {a b c : Str} : (wrapS [a, b, c]).length = a.length + b.length + c.length + 4 := by
  have c1 : ("(" : Str).length = 1 ∧ (" " : Str).length = 1 ∧ (")" : Str).length = 1 := by decide +kernel
  unfold wrapS
  rw [show Txt.join (" " : Str) [a, b, c] = Str.join (" " : Str) [a, b, c] from StrLaws.glued_eq_join _ _]
  show (("(" : Str) ++ (a ++ (" " : Str) ++ (b ++ (" " : Str) ++ c)) ++ (")" : Str)).length = _
  rw [Str.length_append, Str.length_append, Str.length_append, Str.length_append, Str.length_append, Str.length_append]
  omega
theorem wrap4_len {a b c d : Str} : (wrapS [a, b, c, d]).length = a.length + b.length + c.length + d.length + 5 := by
  have c1 : ("(" : Str).length = 1 ∧ (" " : Str).length = 1 ∧ (")" : Str).length = 1 := by decide +kernel
  unfold wrapS
  rw [show Txt.join (" " : Str) [a, b, c, d] = Str.join (" " : Str) [a, b, c, d] from StrLaws.glued_eq_join _ _]
  show (("(" : Str) ++ (a ++ (" " : Str) ++ (b ++ (" " : Str) ++ (c ++ (" " : Str) ++ d))) ++ (")" : Str)).length = _
  rw [Str.length_append, Str.length_append, Str.length_append, Str.length_append, Str.length_append, Str.length_append, Str.length_append, Str.length_append]
  omega
theorem txt_len : ∀ {m : Nat} {t : Tm}, TmIn Nm12 Nm12 Nm12 m t → t.txt.length + 110 ≤ 200 * 2 ^ m := by
  intro m t
  have kw : ("deed" : Str).length = 4 ∧ ("call" : Str).length = 4 ∧ ("leave" : Str).length = 5 ∧ ("loop" : Str).length = 4 ∧ ("times" : Str).length = 5 ∧ ("then" : Str).length = 4 ∧ ("either" : Str).length = 6 ∧ ("clean" : Str).length = 5 ∧ ("catch" : Str).length = 5 ∧ ("skip" : Str).length = 4 := by decide +kernel
  have p : 1 ≤ 2 ^ m := Nat.one_le_two_pow
  have e2 : ∀ k, 2 ^ (k + 1) = 2 * 2 ^ k := fun k => by rw [Nat.pow_succ, Nat.mul_comm]
  induction t generalizing m with
  | skip =>
    intro _
    show ("skip" : Str).length + 110 ≤ _
    omega
  | deed s =>
    intro h
    have h : Nm12 s := by cases m <;> exact h
    have h := h.1
    show (wrapS ["deed", s]).length + 110 ≤ _
    rw [wrap2_len]
    omega
  | call s =>
    intro h
    have h : Nm12 s := by cases m <;> exact h
    have h := h.1
    show (wrapS ["call", s]).length + 110 ≤ _
    rw [wrap2_len]
    omega
  | leave s =>
    intro h
    have h : Nm12 s := by cases m <;> exact h
    have h := h.1
    show (wrapS ["leave", s]).length + 110 ≤ _
    rw [wrap2_len]
    omega
  | loop t ih =>
    intro h
    cases m with
    | zero => exact h.elim
    | succ m =>
      have a := ih (m := m) Nat.one_le_two_pow h
      show (wrapS ["loop", t.txt]).length + 110 ≤ _
      rw [wrap2_len, e2]
      omega
  | times n t ih =>
    intro h
    cases m with
    | zero => exact h.elim
    | succ m =>
      have a := ih (m := m) Nat.one_le_two_pow h.2
      have b := PyProof.Rows.toString_length_le h.1.1 (k := 60) (by decide) h.1.2
      show (wrapS ["times", (toString n : Str), t.txt]).length + 110 ≤ _
      rw [wrap3_len, e2]
      omega
  | seq t u i1 i2 =>
    intro h
    cases m with
    | zero => exact h.elim
    | succ m =>
      have a := i1 (m := m) Nat.one_le_two_pow h.1
      have b := i2 (m := m) Nat.one_le_two_pow h.2
      show (wrapS ["then", t.txt, u.txt]).length + 110 ≤ _
      rw [wrap3_len, e2]
      omega
  | either t u i1 i2 =>
    intro h
    cases m with
    | zero => exact h.elim
    | succ m =>
      have a := i1 (m := m) Nat.one_le_two_pow h.1
      have b := i2 (m := m) Nat.one_le_two_pow h.2
      show (wrapS ["either", t.txt, u.txt]).length + 110 ≤ _
      rw [wrap3_len, e2]
      omega
  | clean t u i1 i2 =>
    intro h
    cases m with
    | zero => exact h.elim
    | succ m =>
      have a := i1 (m := m) Nat.one_le_two_pow h.1
      have b := i2 (m := m) Nat.one_le_two_pow h.2
      show (wrapS ["clean", t.txt, u.txt]).length + 110 ≤ _
      rw [wrap3_len, e2]
      omega
  | ctch s t u i1 i2 =>
    intro h
    cases m with
    | zero => exact h.elim
    | succ m =>
      have a := i1 (m := m) Nat.one_le_two_pow h.2.1
      have b := i2 (m := m) Nat.one_le_two_pow h.2.2
      have c : s.length ≤ 12 := h.1.1
      show (wrapS ["catch", s, t.txt, u.txt]).length + 110 ≤ _
      rw [wrap4_len, e2]
      omega
theorem TmIn.imp {D C W D' C' W' : Str → Prop} (d : ∀ s, D s → D' s) (c : ∀ s, C s → C' s) (w : ∀ s, W s → W' s) : ∀ {m : Nat} {t : Tm}, TmIn D C W m t → TmIn D' C' W' m t
  | 0, .skip, h => trivial
  | 0, .deed _, h => d _ h
  | 0, .call _, h => c _ h
  | 0, .leave _, h => w _ h
  | m + 1, .skip, h => trivial
  | m + 1, .deed _, h => d _ h
  | m + 1, .call _, h => c _ h
  | m + 1, .leave _, h => w _ h
  | m + 1, .loop t, h => TmIn.imp d c w (m := m) (t := t) h
  | m + 1, .times _ t, h => ⟨h.1, TmIn.imp d c w (m := m) (t := t) h.2⟩
  | m + 1, .seq t u, h => ⟨TmIn.imp d c w (m := m) (t := t) h.1, TmIn.imp d c w (m := m) (t := u) h.2⟩
  | m + 1, .either t u, h => ⟨TmIn.imp d c w (m := m) (t := t) h.1, TmIn.imp d c w (m := m) (t := u) h.2⟩
  | m + 1, .clean t u, h => ⟨TmIn.imp d c w (m := m) (t := t) h.1, TmIn.imp d c w (m := m) (t := u) h.2⟩
  | m + 1, .ctch _ t u, h => ⟨w _ h.1, TmIn.imp d c w (m := m) (t := t) h.2.1, TmIn.imp d c w (m := m) (t := u) h.2.2⟩
def Tm.w : Tm → Str
  | .skip => "skip" | .deed _ => "deed" | .call _ => "call" | .leave _ => "leave" | .loop _ => "loop" | .times _ _ => "times" | .seq _ _ => "then" | .either _ _ => "either" | .clean _ _ => "clean" | .ctch _ _ _ => "catch"
/-- what is known of the fields -/
inductive FdOk (m : Nat) : Fd → Prop
  | s {x : Str} (h : x.length ≤ 12) : FdOk m (.s x)
  | n {i : Int} (h : 0 ≤ i ∧ i < 10 ^ 60) : FdOk m (.n i)
  | t {m' : Nat} {a : Tm} (h : m = m' + 1) (ha : TmIn Nm12 Nm12 Nm12 m' a) : FdOk m (.t a)
theorem FdOk.len {m : Nat} {f : Fd} (h : FdOk m f) : f.txt.length ≤ 200 * 2 ^ m := by
  have p : 1 ≤ 2 ^ m := Nat.one_le_two_pow
  cases h with
  | s h =>
    show Str.length _ ≤ _
    exact Nat.le_trans h (by omega)
  | n h =>
    have b := PyProof.Rows.toString_length_le h.1 (k := 60) (by decide) h.2
    show Str.length (toString _ : Str) ≤ _
    omega
  | @t m' a e ha =>
    subst e
    have := txt_len ha
    show a.txt.length ≤ _
    rw [Nat.pow_succ]
    omega
/-- the tuples stay, the lists may change -/
def SameT (G G' : Hp) : Prop := ∀ a ys, G a = some (.tup ys) → G' a = some (.tup ys)
theorem SameT.of {G G' : Hp} (s : Same G G') : SameT G G' := fun a ys h => s _ _ h
/-! ### terms with other counts -/
def FdR (D C W : Str → Prop) (m : Nat) : Fd → Fd → Prop
  | .s x, f => f = .s x
  | .n i, f => f = .n i
  | .t _, f => ∃ a' m', f = .t a' ∧ m = m' + 1 ∧ TmIn D C W m' a'
def FdsR (D C W : Str → Prop) (m : Nat) (fs gs : List Fd) : Prop := gs.length = fs.length ∧ ∀ (i : Nat) (f f' : Fd), fs[i]? = some f → gs[i]? = some f' → FdR D C W m f f'
theorem FdsR.set {D C W : Str → Prop} {m m' : Nat} {fs gs : List Fd} {i : Nat} {a b : Tm} (h : FdsR D C W m fs gs) (hi : fs[i]? = some (.t a)) (e : m = m' + 1) (hb : TmIn D C W m' b) : FdsR D C W m fs (gs.set i (.t b)) := by
  refine ⟨by rw [List.length_set]; exact h.1, fun j f f' e1 e2 => ?_⟩
  by_cases hj : i = j
  · subst hj
    rw [hi] at e1
    obtain rfl := Option.some.inj e1
    have : i < gs.length := by
      have := (List.getElem?_eq_some_iff.mp e2).1
      rwa [List.length_set] at this
    rw [List.getElem?_set_self this] at e2
    obtain rfl := Option.some.inj e2
    exact ⟨b, m', rfl, e, hb⟩
  · rw [List.getElem?_set_ne hj] at e2
    exact h.2 j f f' e1 e2
end L2.DS
/-! for at, sign in enumerate(text). -/
namespace L2.DS
open PySem PySem.Spec PyProof.Rows
/-! ### word += sign -/
/-! ### the tokens of a text with their places -/
def cuC (c : Nat) : Bool := decide (c = 32 ∨ c = 40 ∨ c = 41)
abbrev TkSt := List (Str × Nat) × Str × Nat
def tkStep (s : TkSt) (l c : Nat) : TkSt :=
  if cuC c then ((s.1 ++ (if s.2.1 = "" then [] else [(s.2.1, s.2.2)])) ++ (if c = 32 then [] else [((⟨#[c]⟩ : Str), l)]), "", s.2.2)
  else (s.1, s.2.1 ++ (⟨#[c]⟩ : Str), if s.2.1 = "" then l else s.2.2)
def tkAt (l : List Nat) : Nat → TkSt
  | 0 => ([], "", 0)
  | j + 1 => tkStep (tkAt l j) j (l.getD j 0)
def IsTk (p : Str × Nat) : HR := fun v G => ∃ a, v = .ref a ∧ G a = some (.tup [.str p.1, .int (p.2 : Nat)])
instance (p) : Mon (IsTk p) := ⟨fun s ⟨a, e, h⟩ => ⟨a, e, s _ _ h⟩⟩
end L2.DS
/-! The reader's words: names, counts; the table of forms. -/
namespace L2.DS
open PySem PySem.Spec PyProof.Rows
def formK : List Str := ["deed", "call", "leave", "loop", "times", "then", "either", "clean", "catch"]
def otherK : List Str := ["skip", "program", "to", "end"]
def c0 (s : Str) : Nat := s.cps.toList.headD 0
def nameB (s : Str) : Bool := !(decide (s = "") || (decide (12 < s.length) || (decide (s ∈ formK) || (decide (s ∈ otherK) || fgC (c0 s))))) && s.cps.toList.all fun c => smC c || fgC c
def countB (s : Str) : Bool := !(decide (s = "") || (decide (60 < s.length) || (decide (c0 s = 48) && !decide (s = "0")))) && s.cps.toList.all fgC
theorem kw_split : kwL = formK ++ otherK := rfl
theorem NmOk.name {s : Str} (h : NmOk s) : nameB s = true := by
  obtain ⟨c, r, e, hc⟩ := h.hd
  have h0 : ¬ s = "" := fun z => by
    have := h.l1
    rw [z] at this
    exact absurd this (by decide +kernel)
  have hk := h.kw
  rw [kw_split, List.mem_append] at hk
  have hf : fgC (c0 s) = false := by
    unfold c0
    rw [e]
    show fgC c = false
    unfold smC at hc
    unfold fgC
    have := of_decide_eq_true hc
    exact decide_eq_false (by omega)
  unfold nameB
  rw [decide_eq_false h0, decide_eq_false (by have := h.l2; omega), decide_eq_false fun z => hk (.inl z), decide_eq_false fun z => hk (.inr z), hf]
  show (true && _) = true
  rw [Bool.true_and, List.all_eq_true]
  exact h.al
end L2.DS
/-! The reader's pile as a machine on tokens; what it makes of a term's tokens. -/
namespace L2.DS
open PySem PySem.Spec PyProof.Rows
inductive Wi where
  | term | name | count | form | close | opn | prc | prcs
  | wd (s : Str)
  | bld (w : Str) (k : Nat)
def mkB (w : Str) (l : List PyData) : PyData := .tuple (if w = "" then l else .str w :: l)
def settle : List Wi → List PyData → List Wi × List PyData
  | .bld w k :: r, vs => settle r (mkB w (vs.take k).reverse :: vs.drop k)
  | ws, vs => (ws, vs)
def fieldsW (s : Str) : List Wi :=
  if s = "loop" then [.term] else if s = "times" then [.count, .term] else if s = "then" ∨ s = "either" ∨ s = "clean" then [.term, .term] else if s = "catch" then [.name, .term, .term] else [.name]
def cval (s : Str) : Int := ((NumText.digitsVal s.cps.toList : Nat) : Int)
abbrev Ms := List Wi × List PyData × Int
def opB (w : Wi) (r : List Wi) (vs : List PyData) (oc : Int) : Option Ms :=
  match w with
  | .term => some (.form :: r, vs, oc + 1)
  | .prc => some (.wd "to" :: .name :: .term :: .close :: .bld "" 2 :: .prcs :: r, vs, oc + 1)
  | .prcs => some (.wd "to" :: .name :: .term :: .close :: .bld "" 2 :: .prcs :: r, vs, oc + 1)
  | .opn => some (r, vs, oc + 1)
  | _ => none
def clB (w : Wi) (r : List Wi) (vs : List PyData) (oc : Int) : Option Ms :=
  match w with
  | .close => some (r, vs, oc - 1)
  | .prcs => some (r, vs, oc - 1)
  | _ => none
def tkB (w : Wi) (r : List Wi) (vs : List PyData) (oc : Int) (tok : Str) : Option Ms :=
  match w with
  | .term => if tok = "skip" then some (r, .tuple [.str "skip"] :: vs, oc) else none
  | .name => if nameB tok = true then some (r, .str tok :: vs, oc) else none
  | .count => if countB tok = true then some (r, .int (cval tok) :: vs, oc) else none
  | .form => if tok ∈ formK then some (fieldsW tok ++ (.close :: .bld tok (fieldsW tok).length :: r), vs, oc) else none
  | .wd s => if tok = s then some (r, vs, oc) else none
  | _ => none
def stepC (ws : List Wi) (vs : List PyData) (oc : Int) (tok : Str) : Option Ms :=
  match ws with
  | [] => none
  | w :: r => if tok = "" then none else if tok = "(" then (if oc = 40 then none else opB w r vs oc) else if tok = ")" then clB w r vs oc else tkB w r vs oc tok
/-! ### counts -/
/-! ### the machine reads a term's tokens -/
end L2.DS
/-! The tokens of a term's text; texts with other blanks. -/
namespace L2.DS
open PySem PySem.Spec PyProof.Rows
abbrev ScSt := List Str × Str
def fl (s : ScSt) : List Str := s.1 ++ (if s.2 = "" then [] else [s.2])
def scS (s : ScSt) (c : Nat) : ScSt := if cuC c then (fl s ++ (if c = 32 then [] else [(⟨#[c]⟩ : Str)]), "") else (s.1, s.2 ++ (⟨#[c]⟩ : Str))
def scan (s : Str) (st : ScSt) : ScSt := s.cps.toList.foldl scS st
theorem scn_app (a b : Str) (st : ScSt) : scan (a ++ b) st = scan b (scan a st) := by
  unfold scan
  rw [cps_app, List.foldl_append]
/-! ### pieces -/
theorem fl_e (ws : List Str) : fl (ws, "") = ws := by
  unfold fl
  rw [if_pos rfl, List.append_nil]
end L2.DS
/-! Texts with other blanks have the same tokens; a program's tokens and what the machine makes of them. -/
namespace L2.DS
open PySem PySem.Spec PyProof.Rows
def blkS (a : Nat) : Str := ⟨(List.replicate a 32).toArray⟩
theorem blkS_len (a : Nat) : (blkS a).length = a := by
  show (List.replicate a 32).toArray.size = a
  simp
theorem scan_sp (a : Nat) (st : ScSt) : scan (blkS a) st = if a = 0 then st else (fl st, ("" : Str)) := by
  have one : ∀ st : ScSt, scS st 32 = (fl st, ("" : Str)) := fun st => by
    unfold scS
    rw [if_pos (by decide), if_pos rfl, List.append_nil]
  have e : (blkS a).cps.toList = List.replicate a 32 := rfl
  unfold scan
  rw [e]
  clear e
  induction a generalizing st with
  | zero => rfl
  | succ a ih =>
    show (List.replicate a 32).foldl scS (scS st 32) = _
    rw [ih, one, if_neg (Nat.succ_ne_zero a)]
    split
    · rfl
    · rw [fl_e]
def scL (l : List Nat) : ScSt := l.foldl scS ([], "")
theorem scL_succ {l : List Nat} {k c : Nat} (h : l[k]? = some c) : scL (l.take (k + 1)) = scS (scL (l.take k)) c := by
  unfold scL
  rw [List.take_add_one, h, List.foldl_append]
  rfl
abbrev parC (c : Nat) : Prop := c = 40 ∨ c = 41
/-- a text made of the first k signs with other blanks -/
def SpI (s : List Nat) (k : Nat) (f : Str) : Prop := scan f ([], "") = scL (s.take k) ∨ ((∃ c, s[k]? = some c ∧ parC c) ∧ scL (s.take k) = (fl (scan f ([], "")), ("" : Str)))
theorem scan_one (c : Nat) (st : ScSt) : scan (⟨#[c]⟩ : Str) st = scS st c := rfl
theorem scS_par {st : ScSt} {c : Nat} (h : parC c) : scS st c = (fl st ++ [(⟨#[c]⟩ : Str)], ("" : Str)) := by
  unfold scS
  rw [if_pos (by unfold cuC; rcases h with h | h <;> simp [h]), if_neg (by rcases h with h | h <;> omega)]
theorem fl_sp (a : Nat) (st : ScSt) : fl (scan (blkS a) st) = fl st := by
  rw [scan_sp]
  split
  · rfl
  · exact fl_e _
theorem SpI.par {s : List Nat} {k c a b : Nat} {f : Str} (h : SpI s k f) (hk : s[k]? = some c) (hc : parC c) : SpI s (k + 1) (f ++ blkS a ++ (⟨#[c]⟩ : Str) ++ blkS b) := by
  refine .inl ?_
  rw [scL_succ hk, scn_app, scn_app, scn_app, scan_one, scS_par hc, scS_par hc, fl_sp]
  have e : fl (scL (s.take k)) = fl (scan f ([], "")) := by
    rcases h with h | ⟨_, h⟩
    · rw [h]
    · rw [h, fl_e]
  rw [e, scan_sp]
  split
  · rfl
  · rw [fl_e]
/-! ### programs -/
/-! ### " " * k -/
end L2.DS
/-! What changes while it is told: lists and instances; tuples as data. -/
namespace L2.DS
open PySem PySem.Spec PyProof.Rows
/-! ### tuples of texts, ints, tuples -/
mutual
def IsDt : PyData → HR
  | .str s => IsV (.str s)
  | .int i => IsV (.int i)
  | .tuple ds => IsTq (IsDts ds)
  | .none => fun _ _ => False
  | .bool _ => fun _ _ => False
  | .list _ => fun _ _ => False
  | .dict _ => fun _ _ => False
def IsDts : List PyData → HRs
  | [] => RNil
  | d :: r => RCons (IsDt d) (IsDts r)
end
mutual
theorem dt_monT {G G' : Hp} (s : SameT G G') : ∀ (d : PyData) {v : V}, IsDt d v G → IsDt d v G'
  | .str _, _, h => h
  | .int _, _, h => h
  | .tuple ds, _, ⟨a, xs, e, g, r⟩ => ⟨a, xs, e, s _ _ g, dts_monT s ds r⟩
  | .none, _, h => h.elim
  | .bool _, _, h => h.elim
  | .list _, _, h => h.elim
  | .dict _, _, h => h.elim
theorem dts_monT {G G' : Hp} (s : SameT G G') : ∀ (ds : List PyData) {xs : List V}, IsDts ds xs G → IsDts ds xs G'
  | [], _, h => h
  | d :: r, _, ⟨v, w, e, h, h'⟩ => ⟨v, w, e, dt_monT s d h, dts_monT s r h'⟩
end
instance (d : PyData) : Mon (IsDt d) := ⟨fun s h => dt_monT (SameT.of s) d h⟩
instance (ds : List PyData) : Mons (IsDts ds) := ⟨fun s h => dts_monT (SameT.of s) ds h⟩
theorem dts_app {G : Hp} : ∀ {as bs : List PyData} {xs ys : List V}, IsDts as xs G → IsDts bs ys G → IsDts (as ++ bs) (xs ++ ys) G
  | [], _, _, _, h, h' => by
    obtain rfl := (show _ = [] from h)
    exact h'
  | a :: r, _, _, _, ⟨v, w, e, h1, h2⟩, h' => by
    subst e
    exact ⟨v, _, rfl, h1, dts_app h2 h'⟩
theorem dts_one {G : Hp} {d : PyData} {v : V} (h : IsDt d v G) : IsDts [d] [v] G := ⟨v, [], rfl, h, rfl⟩
/-! ### what is told, changed -/
section
variable {S : SR} {n n0 ka kb i : Nat} {te to tv : TE} {t : TA} {u : TS} {σ : L2.St} {G H G0 H0 : Hp} {nx bk ct : L2.St → Hp → Prop} {rt : VK} {D : Addr} {xs : List V} {R : HR} {K : PySem.W.Frag}
theorem st_chgT (st : Stab S) (s0 : S n0 G0 H0) (hD0 : H0 D = none) (hc : ∀ m G' J, S m G' J → S m (cut G' (· = D)) J) (s : S n G H) (o : HO) : S n (upd G D o) (upd H D o) := by
  have cD : cut G (· = D) D = none := cut_in rfl
  have chg := st.chg (o := o) s0 hD0 (hc _ _ _ s) cD
  have pb := st.pub (o := o) s0 hD0 chg cD upd_same
  have ec : upd (cut G (· = D)) D o = upd G D o := by
    funext b
    by_cases hb : b = D
    · subst hb
      rw [upd_same, upd_same]
    · rw [upd_ne hb, upd_ne hb]
      exact cut_out (X := fun x => x = D) hb
  rw [ec] at pb
  exact pb
end
/-! ### the pile -/
def Wi.dat : Wi → PyData
  | .term => .tuple [.str "term"]
  | .name => .tuple [.str "name"]
  | .count => .tuple [.str "count"]
  | .form => .tuple [.str "form"]
  | .close => .tuple [.str "close"]
  | .opn => .tuple [.str "open"]
  | .prc => .tuple [.str "procedure"]
  | .prcs => .tuple [.str "procedures"]
  | .wd s => .tuple [.str "word", .str s]
  | .bld w k => .tuple [.str "build", .str w, .int (k : Nat)]
def pilM : List Str := ["wish", "settle", "meets", "meets_bracket"]
structure PilG (C x W U : Addr) (ws : List Wi) (vs : List PyData) (oc : Int) (G : Hp) : Prop where
  i : ∃ dx fs, G x = some (.ins C dx fs) ∧ fs.lookup ("wishes" : Str) = some (.ref W) ∧ fs.lookup ("read_values" : Str) = some (.ref U) ∧ fs.lookup ("open_count" : Str) = some (.int oc) ∧ (∀ f ∈ pilM, fs.lookup f = none) ∧ fs.length ≤ 10
  w : ∃ lw, G W = some (.lst lw) ∧ IsDts (ws.reverse.map Wi.dat) lw G
  v : ∃ lv, G U = some (.lst lv) ∧ IsDts vs.reverse lv G
  n : W ≠ U
/-- what does not belong to the pile stays -/
def OnlyX (x W U : Addr) (G G' : Hp) : Prop := ∀ b o, b ≠ x → b ≠ W → b ≠ U → G b = some o → G' b = some o
theorem PilG.mono {C x W U : Addr} {ws : List Wi} {vs : List PyData} {oc : Int} {G G' : Hp} (h : PilG C x W U ws vs oc G) (s : Same G G') : PilG C x W U ws vs oc G' := by
  obtain ⟨⟨dx, fs, a, b, c, d, e, f⟩, ⟨lw, g, i⟩, ⟨lv, j, k⟩, n⟩ := h
  exact ⟨⟨dx, fs, s _ _ a, b, c, d, e, f⟩, ⟨lw, s _ _ g, Mons.mon s i⟩, ⟨lv, s _ _ j, Mons.mon s k⟩, n⟩
theorem sameT_updO {G : Hp} {D : Addr} {o o' : HO} (h : G D = some o) (n : ∀ ys, o ≠ .tup ys) : SameT G (upd G D o') := fun a ys e => by
  rw [upd_ne (fun z => by rw [z, h] at e; exact n ys (Option.some.inj e))]
  exact e
theorem PilG.push {C x W U : Addr} {ws : List Wi} {vs : List PyData} {oc : Int} {G : Hp} {w : Wi} {v : V} {lw : List V} (h : PilG C x W U ws vs oc G) (gw : G W = some (.lst lw)) (hv : IsDt w.dat v G) : PilG C x W U (w :: ws) vs oc (upd G W (.lst (lw ++ [v]))) := by
  obtain ⟨⟨dx, fs, a, b, c, d, e, f⟩, ⟨lw', g, i⟩, ⟨lv, j, k⟩, n⟩ := h
  obtain rfl : lw' = lw := by
    rw [gw] at g
    exact (HO.lst.inj (Option.some.inj g)).symm
  have s : SameT G (upd G W (.lst (lw' ++ [v]))) := sameT_updO gw fun ys e => by cases e
  have xW : x ≠ W := fun z => by rw [z, gw] at a; cases a
  refine ⟨⟨dx, fs, by rw [upd_ne xW]; exact a, b, c, d, e, f⟩, ⟨_, upd_same, ?_⟩, ⟨lv, by rw [upd_ne (Ne.symm n)]; exact j, dts_monT s _ k⟩, n⟩
  rw [List.reverse_cons, List.map_append]
  exact dts_app (dts_monT s _ i) (dts_one (dt_monT s _ hv))
theorem OnlyX.trans {x W U U' : Addr} {G G1 G2 : Hp} (a : OnlyX x W U G G1) (b : OnlyX x W U' G1 G2) (h : ∀ b o, G b = some o → b ≠ U') : OnlyX x W U G G2 := fun c o h1 h2 h3 e => b c o h1 h2 (h c o e) (a c o h1 h2 h3 e)
theorem PilG.ne {C x W U : Addr} {ws : List Wi} {vs : List PyData} {oc : Int} {G : Hp} (h : PilG C x W U ws vs oc G) {b : Addr} {o : HO} (e : G b = some o) (n1 : ∀ xs, o ≠ .lst xs) (n2 : ∀ c d f, o ≠ .ins c d f) : b ≠ x ∧ b ≠ W ∧ b ≠ U := by
  obtain ⟨⟨dx, fs, a, _⟩, ⟨lw, g, _⟩, ⟨lv, j, _⟩, _⟩ := h
  refine ⟨fun z => ?_, fun z => ?_, fun z => ?_⟩
  · rw [z, a] at e
    exact n2 _ _ _ (Option.some.inj e).symm
  · rw [z, g] at e
    exact n1 _ (Option.some.inj e).symm
  · rw [z, j] at e
    exact n1 _ (Option.some.inj e).symm
theorem OnlyX.t {C x W U : Addr} {ws : List Wi} {vs : List PyData} {oc : Int} {G G' : Hp} (h : PilG C x W U ws vs oc G) (o : OnlyX x W U G G') : SameT G G' := fun a ys e => by
  obtain ⟨n1, n2, n3⟩ := h.ne e (fun _ z => by cases z) (fun _ _ _ z => by cases z)
  exact o a _ n1 n2 n3 e
end L2.DS
/-! The pile meets a token: the plain side, and what Pile.meets is asked. -/
namespace L2.DS
open PySem PySem.Spec PyProof.Rows
/-! ### FORMS[token] -/
/-- the j-th of what is told -/
def IsDj (ds : List PyData) (j : Nat) : HR := fun v G => ∃ d, ds[j]? = some d ∧ IsDt d v G
instance (ds : List PyData) (j : Nat) : Mon (IsDj ds j) := ⟨fun s ⟨d, e, h⟩ => ⟨d, e, Mon.mon s h⟩⟩
end L2.DS
/-! read_all: the reader's run over tokens with their places. -/
namespace L2.DS
open PySem PySem.Spec PyProof.Rows
/-- the first token that is not allowed, or what is read -/
def readM : List (Str × Nat) → Ms → Nat ⊕ List PyData
  | [], s => .inr s.2.1
  | p :: r, s =>
    if p.1 = "" ∧ (settle s.1 s.2.1).1 = [] then .inr (settle s.1 s.2.1).2
    else match stepC (settle s.1 s.2.1).1 (settle s.1 s.2.1).2 s.2.2 p.1 with
      | none => .inl p.2
      | some s' => readM r s'
/-! ### tokens of a text -/
theorem strOk_iff {s : Str} : PyData.strOk s = true ↔ ∀ c ∈ s.cps.toList, c < 0x110000 := by
  unfold PyData.strOk
  rw [Array.all_eq_true_iff_forall_mem]
  exact ⟨fun h c hc => of_decide_eq_true (h c (by simpa using hc)), fun h c hc => decide_eq_true (h c (by simpa using hc))⟩
/-! ### Pile(wishes) -/
end L2.DS
/-! Texts read back: what a term's and a program's tokens give; comprehensions over rows; lists of what is drawn. -/
namespace L2.DS
open PySem PySem.Spec PyProof.Rows
/-! ### tokens are not empty -/
/-! ### the tokens of texts -/
theorem join_cons2 (s a b : Str) (r : List Str) : Txt.join s (a :: b :: r) = a ++ s ++ Txt.join s (b :: r) := by
  rw [show Txt.join s (a :: b :: r) = Str.join s (a :: b :: r) from StrLaws.glued_eq_join _ _, show Txt.join s (b :: r) = Str.join s (b :: r) from StrLaws.glued_eq_join _ _]
  rfl
theorem join_one (s a : Str) : Txt.join s [a] = a := by
  rw [show Txt.join s [a] = Str.join s [a] from StrLaws.glued_eq_join _ _]
  rfl
/-! ### ends of texts -/
/-! ### comprehensions over rows, lists of what is drawn -/
section
variable {α : Type} {S : SR} {n k n0 i j : Nat} {te el : TE} {t : TA} {u : TS} {σ : L2.St} {G H : Hp} {nx bk ct : L2.St → Hp → Prop} {rt : VK} {K : PySem.W.Frag} {xs : List V} {p : Addr} {g : TG} {R : α → HR}
/-- [el for .. in l], l told row by row, values told by the rows -/
theorem ev_lcRL {vs : List Nat} {R0 : α → HR} {ss : List α} (st : Stab S) (f : α → V) (e : Ev S n k te σ G (IsV (.ref p))) (hq : SqL K G p xs) (rl : RL R0 ss xs G) (hl : ss.length ≤ 100000)
    (hs : ∀ a x, a ∈ ss → R0 a x G → ∃ σ' : L2.St, (∀ G' J, Same G G' → Same G' J → ∀ Q : L2.St → Hp → Prop, Q σ' J → g x (wipe σ vs) J Q) ∧ wipe σ' vs = wipe σ vs ∧ ∀ G', Same G G' → Ev S (n + k) 0 el σ' G' (IsV (f a))) :
    Ev S n k (tLc (iList K te) g tYes el vs) σ G (IsNew G (.lst (ss.map f))) := by
  have lx := rl_len rl
  have key : ∀ j : Nat, ∃ σ' : L2.St, wipe σ' vs = wipe σ vs ∧ ∀ x : V, xs[j]? = some x → ∀ a : α, ss[j]? = some a → (∀ G' J, Same G G' → Same G' J → ∀ Q : L2.St → Hp → Prop, Q σ' J → g x (wipe σ vs) J Q) ∧ ∀ G', Same G G' → Ev S (n + k) 0 el σ' G' (IsV (f a)) := by
    intro j
    by_cases hj : j < ss.length
    · have hg : ss[j]? = some ss[j] := List.getElem?_eq_getElem hj
      obtain ⟨x, hx, hr⟩ := rl_get rl hg
      obtain ⟨σ', h1, h2, h3⟩ := hs _ x (List.getElem_mem hj) hr
      refine ⟨σ', h2, fun x' hx' a ha => ?_⟩
      rw [hx] at hx'
      obtain rfl := Option.some.inj hx'
      rw [hg] at ha
      obtain rfl := Option.some.inj ha
      exact ⟨h1, h3⟩
    · exact ⟨σ, rfl, fun x _ a ha => absurd (List.getElem?_eq_some_iff.mp ha).1 hj⟩
  have ⟨σf, hσ⟩ := Classical.axiomOfChoice key
  have at_ : ∀ {j : Nat} {x : V}, xs[j]? = some x → ∃ a, ss[j]? = some a := fun {j x} hx => by
    have := (List.getElem?_eq_some_iff.mp hx).1
    exact ⟨_, List.getElem?_eq_getElem (by omega)⟩
  refine (ev_lcF (R := fun v : V => IsV v) (b := fun _ => true) (sj := fun j => (ss[j]?.map f).getD .non) (σf := σf) st e hq (by omega) (fun j x G' J hx s1 s2 Q q => ?_) (fun j => (hσ j).1) (fun j x G' _ _ => et_yes) (fun j x G' hx _ s' => ?_)).imp fun v G' _ h => ?_
  · obtain ⟨a, ha⟩ := at_ hx
    exact ((hσ j).2 x hx a ha).1 G' J s1 s2 Q q
  · obtain ⟨a, ha⟩ := at_ hx
    rw [ha]
    exact ((hσ j).2 x hx a ha).2 G' s'
  · rw [filt_true] at h
    have z := isNX_V (f := fun v : V => v) h
    rw [List.map_id'] at z
    have e : (List.range xs.length).map (fun j => (ss[j]?.map f).getD .non) = ss.map f := by
      refine List.ext_getElem? fun j => ?_
      rw [List.getElem?_map, List.getElem?_map]
      by_cases hj : j < ss.length
      · rw [List.getElem?_range (by omega)]
        show some ((Option.map f ss[j]?).getD .non) = _
        rw [List.getElem?_eq_getElem hj]
        rfl
      · rw [List.getElem?_eq_none (by rw [List.length_range]; omega), List.getElem?_eq_none (by omega)]
        rfl
    rw [e] at z
    exact z
def IsEx (P : α → Prop) (R : α → HR) : HR := fun v G => ∃ x, P x ∧ R x v G
instance (P : α → Prop) (R : α → HR) [∀ a, Mon (R a)] : Mon (IsEx P R) := ⟨fun s ⟨x, h, r⟩ => ⟨x, h, Mon.mon s r⟩⟩
end
/-! ### what the reader and the writer are asked -/
end L2.DS
/-! Data of texts, ints, tuples, lists: equal to itself; promises for any of some. -/
/-! The law's own reading of tokens, and the pile's. -/
namespace L2.DS
open PySem PySem.Spec PyProof.Rows
/-! ### what does not fit -/
/-! ### the law's own reading -/
/-- tokens with places, the last one empty -/
structure TkL (Lp : List (Str × Nat)) : Prop where
  ex : ∃ (ts : List (Str × Nat)) (n : Nat), Lp = ts ++ [(("" : Str), n)] ∧ ∀ p ∈ ts, ¬ p.1 = ""
section
variable {Lp : List (Str × Nat)} {p : Nat} {ws r : List Wi} {w : Wi} {v0 vs : List PyData} {oc : Int} {s' : Ms}
def tkA (Lp : List (Str × Nat)) (p : Nat) : Str := (Lp.map (·.1)).getD p ""
def plA (Lp : List (Str × Nat)) (p : Nat) : Nat := (Lp.map (·.2)).getD p 0
theorem tkA_of (hp : p < Lp.length) : tkA Lp p = (Lp[p]).1 ∧ plA Lp p = (Lp[p]).2 := by
  unfold tkA plA
  rw [List.getD_eq_getElem?_getD, List.getElem?_map, List.getElem?_eq_getElem hp, List.getD_eq_getElem?_getD, List.getElem?_map, List.getElem?_eq_getElem hp]
  exact ⟨rfl, rfl⟩
theorem TkL.next (h : TkL Lp) (hp : p < Lp.length) (hn : ¬ tkA Lp p = "") : p + 1 < Lp.length := by
  obtain ⟨ts, n, e, _⟩ := h.ex
  rw [(tkA_of hp).1] at hn
  subst e
  rw [List.length_append] at hp ⊢
  have : ([(("" : Str), n)] : List (Str × Nat)).length = 1 := rfl
  by_cases hl : p < ts.length
  · omega
  · refine absurd ?_ hn
    have e1 : p = ts.length := by omega
    subst e1
    simp
theorem TkL.ne (h : TkL Lp) (hp : p + 1 < Lp.length) : ¬ tkA Lp p = "" := by
  obtain ⟨ts, n, e, hn⟩ := h.ex
  have hp1 : p < Lp.length := by omega
  rw [(tkA_of hp1).1]
  subst e
  rw [List.length_append] at hp
  have hl : p < ts.length := by
    have : ([(("" : Str), n)] : List (Str × Nat)).length = 1 := rfl
    omega
  rw [List.getElem_append_left hl]
  exact hn _ (List.getElem_mem hl)
/-- what a reading of one term says of the machine -/
def RdOk (Lp : List (Str × Nat)) (p : Nat) (ws : List Wi) (v0 : List PyData) (oc : Int) (r : List Wi) (vs : List PyData) (z : Option PyData × Nat) : Prop :=
  (z.1 = none → z.2 < Lp.length ∧ readM (Lp.drop p) (ws, v0, oc) = .inl (plA Lp z.2)) ∧
  ∀ d, z.1 = some d → p < z.2 ∧ z.2 < Lp.length ∧ ∃ w1 v1, readM (Lp.drop p) (ws, v0, oc) = readM (Lp.drop z.2) (w1, v1, oc) ∧ settle w1 v1 = settle r (d :: vs)
theorem RdOk.no {q : Nat} (h1 : q < Lp.length) (h2 : readM (Lp.drop p) (ws, v0, oc) = .inl (plA Lp q)) : RdOk Lp p ws v0 oc r vs (none, q) := ⟨fun _ => ⟨h1, h2⟩, fun d e => (by cases e)⟩
/-! ### programs -/
def RrOk (Lp : List (Str × Nat)) (p : Nat) (ws : List Wi) (v0 : List PyData) (z : Option (List PyData) × Nat) : Prop :=
  (z.1 = none → z.2 < Lp.length ∧ readM (Lp.drop p) (ws, v0, 1) = .inl (plA Lp z.2)) ∧ ∀ rows, z.1 = some rows → z.2 < Lp.length ∧ readM (Lp.drop p) (ws, v0, 1) = readM (Lp.drop z.2) ([], rows.reverse, 0)
theorem RrOk.no {q : Nat} (h1 : q < Lp.length) (h2 : readM (Lp.drop p) (ws, v0, 1) = .inl (plA Lp q)) : RrOk Lp p ws v0 (none, q) := ⟨fun _ => ⟨h1, h2⟩, fun d e => (by cases e)⟩
end
end L2.DS
/-! The law's own reading, walked: strip, texts sign by sign, dicts written out, rows of tokens. -/
namespace L2.DS
open PySem PySem.Spec PyProof.Rows
/-! ### text.strip(signs) == '' -/
theorem str_nil {x : Str} : x = "" ↔ x.cps.toList = [] := ⟨fun e => by rw [e]; rfl, fun e => str_inj (by rw [e]; rfl)⟩
section
variable {S : SR} {n ka kb i : Nat} {te : TE} {t : TA} {σ : L2.St} {G H : Hp} {K : PySem.W.Frag} {a b z : Str} {tb u : TS} {nx bk ct : L2.St → Hp → Prop} {rt : VK} {k : Nat}
/-- for c in text -/
theorem q_forS (st : Stab S) (s : S n G H) (e : Ev S n k te σ G (IsV (.str z))) (Pv : Nat → L2.St → Hp → Prop) (h0 : ∀ G' H', Stp S (n + k) G H G' H' → Pv 0 σ H')
    (hs : ∀ (l : Nat) c σ' J, z.cps[l]? = some c → Pv l σ' J → tb (Ends.mk (Pv (l + 1)) rt (u (Ends.mk nx rt bk ct)) (Pv (l + 1))) (σ'.set i (some (.str ⟨#[c]⟩))) J)
    (hd : ∀ σ' J, Pv z.cps.size σ' J → u (Ends.mk nx rt bk ct) σ' J) : tSeq (tFor (iStr te) (gName i) tb) u (Ends.mk nx rt bk ct) σ H := by
  refine e G H (Same.refl _) s _ fun v G1 H1 s1 ev => ?_
  refine ⟨z, ev, for_it walk_str Pv (h0 G1 H1 s1) (fun _ _ _ _ _ => trivial) (fun l x τ J J' hl hp hy => ?_) hd⟩
  obtain ⟨rfl, c, hc, rfl⟩ := hy
  exact hs l c τ _ hc hp
end
/-! ### rows of tokens -/
def IsRwk (p : Str × Nat) : HR := fun v G => ∃ a, v = .ref a ∧ G a = some (.lst [.str p.1, .int (p.2 : Nat)])
instance (p) : Mon (IsRwk p) := ⟨fun s ⟨a, e, h⟩ => ⟨a, e, s _ _ h⟩⟩
/-- the list of tokens as it stands -/
structure TokAt (p : Addr) (xs : List V) (Lp : List (Str × Nat)) (G : Hp) : Prop where
  g : G p = some (.lst xs)
  r : RL IsRwk Lp xs G
  t : TkL Lp
  l : ∀ q ∈ Lp, q.1.length ≤ 99000
theorem TokAt.mono {p : Addr} {xs : List V} {Lp : List (Str × Nat)} {G G' : Hp} (h : TokAt p xs Lp G) (s : Same G G') : TokAt p xs Lp G' := ⟨s _ _ h.g, rl_mon s h.r, h.t, h.l⟩
theorem TokAt.row {p : Addr} {xs : List V} {Lp : List (Str × Nat)} {G : Hp} (h : TokAt p xs Lp G) {i : Nat} (hi : i < Lp.length) : ∃ a, xs[i]? = some (.ref a) ∧ G a = some (.lst [.str (tkA Lp i), .int (plA Lp i : Nat)]) ∧ (tkA Lp i).length ≤ 99000 := by
  obtain ⟨u, hu, a, rfl, ha⟩ := rl_get h.r (List.getElem?_eq_getElem hi)
  obtain ⟨e1, e2⟩ := tkA_of hi
  rw [← e1, ← e2] at ha
  exact ⟨a, hu, ha, by rw [e1]; exact h.l _ (List.getElem_mem hi)⟩
/-! ### the tokens as the law cuts them -/
/-- start, found behind j signs -/
structure LtI (s : Str) (j start : Nat) : Prop where
  h : start ≤ j
  w : (tkAt (s.cps.toList ++ [32]) j).2.1.cps.toList = (s.cps.toList.take j).drop start
  b : start < j → (tkAt (s.cps.toList ++ [32]) j).2.2 = start
theorem LtI.e {s : Str} {j start : Nat} (h : LtI s j start) (hj : j ≤ s.length) : (tkAt (s.cps.toList ++ [32]) j).2.1 = "" ↔ start = j := by
  rw [str_nil, h.w]
  have l : s.cps.toList.length = s.length := rfl
  have h1 := h.h
  constructor
  · intro e
    have := congrArg List.length e
    rw [List.length_drop, List.length_take, List.length_nil] at this
    omega
  · intro e
    refine List.eq_nil_of_length_eq_zero ?_
    rw [List.length_drop, List.length_take]
    omega
theorem tkAt_chr {l : List Nat} {j c : Nat} (hc : l[j]? = some c) : tkAt (l ++ [32]) (j + 1) = tkStep (tkAt (l ++ [32]) j) j c := by
  have hj : j < l.length := (List.getElem?_eq_some_iff.mp hc).1
  have hd : (l ++ [32]).getD j 0 = c := by
    rw [List.getD_eq_getElem?_getD, List.getElem?_append_left hj, hc]
    rfl
  show tkStep _ j ((l ++ [32]).getD j 0) = _
  rw [hd]
theorem LtI.go {s : Str} {j c : Nat} {start : Nat} (h : LtI s j start) (hc : s.cps.toList[j]? = some c) (hcu : cuC c = false) : LtI s (j + 1) start ∧ (tkAt (s.cps.toList ++ [32]) (j + 1)).1 = (tkAt (s.cps.toList ++ [32]) j).1 := by
  have hj : j < s.cps.toList.length := (List.getElem?_eq_some_iff.mp hc).1
  have ln : ¬ cuC c = true := by rw [hcu]; decide
  have e : tkAt (s.cps.toList ++ [32]) (j + 1) = ((tkAt (s.cps.toList ++ [32]) j).1, (tkAt (s.cps.toList ++ [32]) j).2.1 ++ (⟨#[c]⟩ : Str), if (tkAt (s.cps.toList ++ [32]) j).2.1 = "" then j else (tkAt (s.cps.toList ++ [32]) j).2.2) := by
    rw [tkAt_chr hc]
    unfold tkStep
    rw [if_neg ln]
  have h1 := h.h
  refine ⟨⟨by omega, ?_, fun z => ?_⟩, by rw [e]⟩
  · rw [e]
    show ((tkAt (s.cps.toList ++ [32]) j).2.1 ++ (⟨#[c]⟩ : Str)).cps.toList = _
    rw [cps_app, h.w, List.take_succ_eq_append_getElem hj, List.drop_append_of_le_length (by rw [List.length_take]; omega)]
    rw [List.getElem?_eq_getElem hj] at hc
    rw [Option.some.inj hc]
  · rw [e]
    show (if _ then j else _) = start
    have hi := h.e (show j ≤ s.length from Nat.le_of_lt hj)
    by_cases hs : start = j
    · rw [if_pos (hi.mpr hs), hs]
    · rw [if_neg (fun z => hs (hi.mp z))]
      exact h.b (by omega)
end L2.DS
/-! The law that refuses: what is read can be compared; texts told by what they hold; two ways that meet behind a try. -/
namespace L2.DS
open PySem PySem.Spec PyProof.Rows
mutual
def plainB : PyData → Bool
  | .str s => PyData.strOk s
  | .int _ => true
  | .bool _ => true
  | .tuple ds => plainBs ds
  | .list ds => plainBs ds
  | .none => false
  | .dict _ => false
def plainBs : List PyData → Bool
  | [] => true
  | d :: r => plainB d && plainBs r
end
mutual
theorem eqvB : ∀ d : PyData, plainB d = true → PyData.eqv d d = true
  | .str s, _ => by simp [PyData.eqv]
  | .int i, _ => by simp [PyData.eqv]
  | .bool b, _ => by simp [PyData.eqv]
  | .tuple ds, h => by
    simp only [PyData.eqv]
    exact eqvBs ds h
  | .list ds, h => by
    simp only [PyData.eqv]
    exact eqvBs ds h
  | .none, h => by cases h
  | .dict _, h => by cases h
theorem eqvBs : ∀ ds : List PyData, plainBs ds = true → PyData.eqvAll ds ds = true
  | [], _ => by simp [PyData.eqvAll]
  | d :: r, h => by
    obtain ⟨a, b⟩ := Bool.and_eq_true_iff.mp (show (plainB d && plainBs r) = true from h)
    simp only [PyData.eqvAll]
    rw [eqvB d a, eqvBs r b]
    rfl
theorem layB : ∀ d : PyData, plainB d = true → PyData.canLay0 d = true
  | .str s, h => by
    simp only [PyData.canLay0]
    exact h
  | .int i, _ => by simp [PyData.canLay0]
  | .bool b, _ => by simp [PyData.canLay0]
  | .tuple ds, h => by
    simp only [PyData.canLay0]
    exact layBs ds h
  | .list ds, h => by
    simp only [PyData.canLay0]
    exact layBs ds h
  | .none, h => by cases h
  | .dict _, h => by cases h
theorem layBs : ∀ ds : List PyData, plainBs ds = true → PyData.canLayAll0 ds = true
  | [], _ => by simp [PyData.canLayAll0]
  | d :: r, h => by
    obtain ⟨a, b⟩ := Bool.and_eq_true_iff.mp (show (plainB d && plainBs r) = true from h)
    simp only [PyData.canLayAll0]
    rw [layB d a, layBs r b]
    rfl
end
theorem shapedB {d : PyData} (h : plainB d = true) (hd : PyData.depth d ≤ 60) : SeqAt.shaped d = true := by
  unfold SeqAt.shaped
  rw [layB d h, Bool.true_and]
  exact decide_eq_true (Nat.le_trans hd (by decide))
theorem plainBs_all : ∀ {ds : List PyData}, (∀ d ∈ ds, plainB d = true) → plainBs ds = true
  | [], _ => rfl
  | d :: r, h => Bool.and_eq_true_iff.mpr ⟨h d List.mem_cons_self, plainBs_all fun x hx => h x (List.mem_cons_of_mem _ hx)⟩
def LayD (m : Nat) (d : PyData) : Prop := plainB d = true ∧ PyData.depth d ≤ m
theorem LayD.tup {m : Nat} {ds : List PyData} (h : ∀ d ∈ ds, LayD m d) : LayD (m + 1) (.tuple ds) := ⟨plainBs_all fun d hd => (h d hd).1, by
  simp only [PyData.depth]
  have := depthAll_le (k := m) fun d hd => (h d hd).2
  omega⟩
theorem LayD.lst {m : Nat} {ds : List PyData} (h : ∀ d ∈ ds, LayD m d) : LayD (m + 1) (.list ds) := ⟨plainBs_all fun d hd => (h d hd).1, by
  simp only [PyData.depth]
  have := depthAll_le (k := m) fun d hd => (h d hd).2
  omega⟩
theorem LayD.up {m k : Nat} {d : PyData} (h : LayD m d) (hk : m ≤ k) : LayD k d := ⟨h.1, Nat.le_trans h.2 hk⟩
theorem LayD.str {s : Str} (m : Nat) (h : PyData.strOk s = true) : LayD m (.str s) := ⟨h, by simp [PyData.depth]⟩
theorem LayD.int (m : Nat) (i : Int) : LayD m (.int i) := ⟨rfl, by simp [PyData.depth]⟩
/-! ### a due of either kind -/
/-! ### texts by what they hold -/
def TxM (M : Nat) (f : Str) : Prop := PyData.strOk f = true ∧ f.length ≤ M
theorem strOk_app {a b : Str} (h1 : PyData.strOk a = true) (h2 : PyData.strOk b = true) : PyData.strOk (a ++ b) = true := by
  rw [strOk_iff] at *
  intro c hc
  rw [cps_app] at hc
  rcases List.mem_append.mp hc with h | h
  · exact h1 c h
  · exact h2 c h
theorem TxM.app {M N : Nat} {a b : Str} (h1 : TxM M a) (h2 : TxM N b) : TxM (M + N) (a ++ b) := ⟨strOk_app h1.1 h2.1, by rw [Str.length_append]; have := h1.2; have := h2.2; omega⟩
theorem TxM.up {M N : Nat} {a : Str} (h : TxM M a) (hn : M ≤ N) : TxM N a := ⟨h.1, Nat.le_trans h.2 hn⟩
theorem TxM.blk (k : Nat) : TxM k (blkS k) := ⟨by
  rw [strOk_iff]
  intro c hc
  have hc : c ∈ List.replicate k 32 := by
    unfold blkS at hc
    simpa using hc
  rw [List.eq_of_mem_replicate hc]
  decide, by rw [blkS_len]; exact Nat.le_refl _⟩
theorem rep_cps (a : Array Nat) : ∀ (k : Nat) (b : Array Nat), ((List.replicate k a).foldl (· ++ ·) b).toList = b.toList ++ (List.replicate k a.toList).flatten
  | 0, b => by simp
  | k + 1, b => by
    show ((List.replicate k a).foldl (· ++ ·) (b ++ a)).toList = _
    rw [rep_cps a k (b ++ a)]
    simp [List.replicate_succ]
section
variable {S : SR} {n n0 ka kb k i : Nat} {te to ta tb : TE} {t u : TS} {σ : L2.St} {G H G0 H0 : Hp} {nx bk ct : L2.St → Hp → Prop} {rt : VK} {D : Addr} {xs : List V} {v : V} {K : PySem.W.Frag}
/-- two ways that meet *) -/
theorem q_join (Jn : L2.St → Hp → Prop) (hu : ∀ σ' H', Jn σ' H' → u (Ends.mk nx rt bk ct) σ' H') (h : ∀ nx' : L2.St → Hp → Prop, (∀ σ' H', Jn σ' H' → nx' σ' H') → t (Ends.mk nx' rt bk ct) σ H) : tSeq t u (Ends.mk nx rt bk ct) σ H := h _ hu
/-- l.pop(), l told -/
theorem q_popG (st : Stab S) (s0 : S n0 G0 H0) (hD0 : H0 D = none) (hc : ∀ m G' J, S m G' J → S m (cut G' (· = D)) J) (s : S n G H) (gD : G D = some (.lst (xs ++ [v]))) (e1 : Ev S n ka to σ G (IsV (.ref D)))
    (h : ∀ G' H', Same G G' → S (n + ka) (upd G' D (.lst xs)) H' → u (Ends.mk nx rt bk ct) σ H') : tSeq (tDrop (tBM0 K "list" rPop to)) u (Ends.mk nx rt bk ct) σ H := by
  refine e1 G H (Same.refl _) s _ fun w G1 H1 s1 ew => ?_
  obtain rfl := (show _ = _ from ew)
  have d1 : H1 D = some (.lst (xs ++ [v])) := st.sub s1.s _ _ (s1.g _ _ gD)
  refine ⟨.inl ⟨rfl, _, SqL.of d1⟩, D, xs ++ [v], v, rfl, rfl, d1, by simp, ?_⟩
  rw [List.dropLast_concat]
  exact h G1 _ s1.g (st_chgT st s0 hD0 hc s1.s _)
theorem ev_catT {M N : Nat} (st : Stab S) (ha : Ev S n ka ta σ G (IsS (TxM M))) (hb : Ev S (n + ka) kb tb σ G (IsS (TxM N))) (hl : M + N ≤ 16000000) : Ev S n (ka + kb) (tOp rAddA ta tb) σ G (IsS (TxM (M + N))) :=
  ev_op ha hb fun x y G' s' hx hy => by
    obtain ⟨a, pa, rfl⟩ := hx
    obtain ⟨b, pb, rfl⟩ := hy
    have hsz : (16000000 : Nat) ≤ sizeLine := by decide
    exact rv_imp (v_adds st (by have := pa.2; have := pb.2; omega)) fun v G2 s2 r => ⟨_, pa.app pb, r⟩
theorem ev_TxV {M : Nat} {s : Str} (e : Ev S n k te σ G (IsV (.str s))) (h : TxM M s) : Ev S n k te σ G (IsS (TxM M)) := e.imp fun v G' s' e => ⟨s, h, e⟩
end
end L2.DS
/-! Rows of words: their lengths; texts made of them. -/
namespace L2.DS
open PySem PySem.Spec PyProof.Rows
def sumL (L : List Str) : Nat := (L.map (·.length)).sum
theorem sumL_app (a b : List Str) : sumL (a ++ b) = sumL a + sumL b := by
  unfold sumL
  rw [List.map_append, List.sum_append]
theorem sumL_td (L : List Str) (k : Nat) : sumL (L.take k) + sumL (L.drop k) = sumL L := by
  rw [← sumL_app, List.take_append_drop]
theorem str_e0 : ("" : Str).length = 0 := by decide +kernel
theorem strOk_join {s : Str} (hs : PyData.strOk s = true) : ∀ {ys : List Str}, (∀ y ∈ ys, PyData.strOk y = true) → PyData.strOk (Txt.join s ys) = true
  | [], _ => (show PyData.strOk "" = true by decide +kernel)
  | [a], h => by
    rw [join_one]
    exact h a List.mem_cons_self
  | a :: b :: r, h => by
    rw [join_cons2]
    exact strOk_app (strOk_app (h a List.mem_cons_self) hs) (strOk_join hs fun y hy => h y (List.mem_cons_of_mem _ hy))
theorem TxM.join {M N : Nat} {s : Str} (hs : TxM M s) {ys : List Str} (h : ∀ y ∈ ys, TxM N y) : TxM (ys.length * (N + M)) (Txt.join s ys) := by
  refine ⟨strOk_join hs.1 fun y hy => (h y hy).1, ?_⟩
  induction ys with
  | nil =>
    show ("" : Str).length ≤ _
    rw [str_e0]
    exact Nat.zero_le _
  | cons a r ih =>
    have ha := (h a List.mem_cons_self).2
    have hM := hs.2
    cases r with
    | nil =>
      rw [join_one]
      simp only [List.length_cons, List.length_nil]
      omega
    | cons b r =>
      have := ih fun y hy => h y (List.mem_cons_of_mem _ hy)
      rw [join_cons2, Str.length_append, Str.length_append, List.length_cons, Nat.succ_mul]
      omega
/-! ### rows of words -/
structure Wds (B N : Nat) (L : List Str) : Prop where
  ok : ∀ w ∈ L, PyData.strOk w = true
  s : sumL L ≤ B
  n : L.length ≤ N
theorem Wds.take {B N : Nat} {L : List Str} (h : Wds B N L) (k : Nat) : Wds B N (L.take k) := ⟨fun w hw => h.ok w (List.mem_of_mem_take hw), by have := sumL_td L k; have := h.s; omega, by have := h.n; rw [List.length_take]; omega⟩
theorem Wds.up {B N B' N' : Nat} {L : List Str} (h : Wds B N L) (hB : B ≤ B') (hN : N ≤ N') : Wds B' N' L := ⟨h.ok, Nat.le_trans h.s hB, Nat.le_trans h.n hN⟩
def IsWds (B N : Nat) : HR := fun v G => ∃ p L, v = .ref p ∧ G p = some (.lst (L.map V.str)) ∧ Wds B N L
instance (B N) : Mon (IsWds B N) := ⟨fun s ⟨p, L, e, g, h⟩ => ⟨p, L, e, s _ _ g, h⟩⟩
/-! ### texts several times -/
def repS (a : Str) (k : Nat) : Str := ⟨(List.replicate k a.cps).foldl (· ++ ·) #[]⟩
section
variable {S : SR} {n k ka kb : Nat} {te ta tb : TE} {σ : L2.St} {G : Hp} {a : Str} {P : Int → Prop} {M : Nat} {K : PySem.W.Frag} {g : TG} {el : TE} {tt : TT} {vs : List Nat} {R0 R : HR}
theorem v_repS (st : Stab S) {k : Nat} (h0 : 2 ≤ k) (h1 : k ≤ 1000) (h2 : 1 ≤ a.length) (h3 : a.length ≤ 1000) : RV S rMulS (.str a) (.int (k : Nat)) G (IsV (.str (repS a k))) := by
  have hz : (repS a k).cps.size ≤ sizeLine := by
    have : (repS a k).cps.size ≤ 1000 * 1000 := by
      unfold repS
      have : ((List.replicate k a.cps).foldl (· ++ ·) #[]).size = ((List.replicate k a.cps).foldl (· ++ ·) #[]).toList.length := rfl
      show ((List.replicate k a.cps).foldl (· ++ ·) #[]).size ≤ _
      rw [this, rep_cps]
      simp only [List.length_append, List.length_flatten, List.map_replicate, List.sum_replicate_nat]
      have : k * a.cps.toList.length ≤ 1000 * 1000 := Nat.mul_le_mul h1 h3
      simpa using this
    have e : (1000 * 1000 : Nat) ≤ sizeLine := by decide
    exact Nat.le_trans this e
  exact rv_val (fun H _ Q q => ⟨a, (k : Nat), rfl, rfl, by omega, by omega, h2, h3, hz, q⟩) st
end
end L2.DS
/-! New instances whose making a try watches; makers that raise. -/
namespace L2.DS
open PySem PySem.Spec PyProof.Rows
def tMakeKS (C : Addr) (m1 m2 : Nat) (sp : Sp) (gV : List V → List V → List V) (E : L2.St → XK) (t tk : TA) : TE := fun σ H Q => tMakeK C m1 m2 sp gV (E σ) t tk σ H Q
section
variable {X : Cx} {CX : CXT} {k n m : Nat} {f C : Addr} {fd : FuncData} {ps ks : List Str} {sp : Sp} {dvs : List V} {ds : List Value} {E : L2.St → XK} {x : Str} {p pos : Pos} {e : Expr} {es : List Expr} {t tk : TA} {kws : List Keyword} {gV : List V → List V → List V} {g : List Value → List Value → List Value}
theorem run_mkKS {pins : List (Addr × Obj)} {σ : L2.St} {H : Hp} {s : Shared} {Q : VK} {us ws : List Value} {vs zs : List V} (mk : Mk X.K C f) (fn : FnOk X.prog X.w X.K X.mg X.base CX k f fd ps sp) (room : Room (k + 1) X.A) (bd : KBn X.K fd ps (n + 1) ks g gV)
    (ps_ : PassesAt CX X σ (E σ)) (I : Inv X pins σ H s) (r : Vals vs us) (rk : Vals zs ws) (h : tMakeK C n ks.length sp gV (E σ) (fun _ H' Q' => Q' vs H') (fun _ H' Q' => Q' zs H') σ H Q) :
    wpAny (model X.prog X.w) X.A (call (.ref C) us (ks.zip ws)) (EP X pins σ Q) X.xe s := by
  obtain ⟨c1, c2, h⟩ := h
  have start := h _ _ (I.hok.fresh (Nat.le_succ s.heap.objs.size)) (I.hok.fresh (Nat.le_refl s.heap.objs.size)) (Nat.ne_of_lt (Nat.lt_succ_self s.heap.objs.size))
  have made := Inv.made (C := C) I
  have all : Vals (V.ref (s.heap.objs.size + 1) :: vs) (Value.ref (s.heap.objs.size + 1) :: us) := .cons rfl r
  have many : (Value.ref (s.heap.objs.size + 1) :: us).length = n + 1 := by rw [List.length_cons, ← r.length, c1]
  have more : ws.length = ks.length := by rw [← rk.length, c2]
  have ran := fn.run _ X.stack _ _ ⟨Value.ref (s.heap.objs.size + 1) :: us, ks.zip ws⟩ (g (Value.ref (s.heap.objs.size + 1) :: us) ws) _ _ (E σ) (room.make C us (ks.zip ws)) (made.env0.make C us (ks.zip ws)) (bd.to _ (Value.ref (s.heap.objs.size + 1) :: us) ws made.kIn many more) (bd.rel all rk) start
  refine wpAny_call (make_map (f := f) I.kIn mk.makes mk.init (beq_iff_eq.mp mk.fn) (codeAny_mono ran fun out s' post => ?_))
  match out, post with
  | .error u, post => exact ps_ pins _ _ u s' made post
  | .ok (.ret u), post =>
    obtain ⟨v, J, I', rel, rfl, fin⟩ := made.after post
    exact ⟨rel, V.ref (s.heap.objs.size + 1), J, I', rfl, fin⟩
  | .ok .next, post => exact post.elim
  | .ok .brk, post => exact post.elim
  | .ok .cont, post => exact post.elim
theorem pe_makeKSC (c : MakerK X.prog X.w X.K X.mg X.base x C CX k ps n ks gV sp) (room : Room (k + 1) X.A) (through : ∀ σ, PassesAt CX X σ (E σ)) (ha : PA X (e :: es) t) (hkw : PK X kws tk) (hg : Gl X x := by rfl)
    (named : (backToKw pos (keywordEach kws X.env)).all (·.1.isSome) = true := by rfl) (hks : (backToKw pos (keywordEach kws X.env)).filterMap (·.1) = ks := by rfl) (hdb : (x == ("__debug__" : Str)) = false := by decide)
    (he : starEach (e :: es) X.env = (false, eval e X.env) :: starEach es X.env := by rfl) (plain : ((backTo pos (starEach (e :: es) X.env)).any (·.1) || (backToKw pos (keywordEach kws X.env)).any (·.1.isNone)) = false := by rfl) :
    PE X (.Call (.Name x p) (e :: es) kws pos) (tMakeKS C n ks.length sp gV E t tk) := by
  obtain ⟨f, fd, g, h1, h2, h3, h4⟩ := c
  refine ⟨fun pins s σ H Q I h => wpAny_Call_Name_kw (ld_glob I hg h1 ?_ hdb)⟩
  refine PySem.W.callWith_KW (h₀ := X.base) I.ok.mod.kin h2.kp named (thn (ha.run pos pins s σ H _ I h) fun us t1 got => ?_) plain he
  obtain ⟨vs, H1, I1, r, q⟩ := got
  refine thn (hkw.run pos pins t1 σ H1 _ I1 q) fun ws t2 kept => ?_
  obtain ⟨zs, H2, I2, rk, q2⟩ := kept
  refine ⟨I2.kIn, ?_⟩
  rw [hks]
  exact run_mkKS h2 h3 room h4 (through σ) I2 r rk q2
end
/-! ### makers that raise -/
section
variable {S : SR} {n ka kb : Nat} {t tk : TA} {σ : L2.St} {G H : Hp} {C U : Addr} {E : L2.St → XK} {dvs ws zs : List V} {m1 m2 : Nat} {gV : List V → List V → List V} {RA RB : HRs} {P : Addr → List (Str × V) → List V → Hp → OR → Prop} {PB : List V → Hp → Prop} {Q : VK} {R : OR}
/-- what a maker of either kind does -/
def tMk2 (C : Addr) (sp : Sp) (E : XK) (H3 : Hp) (Q : VK) (all : V → List V) : Prop := ∀ x dx, H3 x = none → H3 dx = none → dx ≠ x → sp (all (.ref x)) (upd (upd H3 dx (.own x)) x (.ins C dx [])) (fun v H4 => v = .non ∧ Q (.ref x) H4) E
variable {i : Nat} {u : TS} {nx bk ct : L2.St → Hp → Prop} {rt : VK}
/-- a call that always raises, as what stands tells -/
theorem ev_callF {sp : Sp} {E1 : XK} {RA : HRs} {R1 : HR} (h : EvA S n ka t σ G RA) (q : ∀ vs G' H' Q', S (n + ka) G' H' → Same G G' → RA vs G' → sp (vs ++ dvs) H' Q' E1) : Ev S n ka (tCall sp dvs E1 t) σ G R1 := fun G1 H1 s0 s Q _ =>
  h G1 H1 s0 s _ fun vs G2 H2 s2 e => q vs G2 H2 Q s2.s (s0.trans s2.g) e
end
end L2.DS
/-! l[:] = another list. -/
namespace L2
open PySem PySem.Spec PyProof.Rows
section
variable {prog : Program} {w : World} {A : Around} {E : Value → Shared → Prop} {s : Shared}
theorem bounds_all (n : Nat) : sliceBounds none none none n = ((0 : Int), (n : Int), 1) := by
  simp only [sliceBounds, Option.getD_none]
  rfl
theorem splice_all (its its2 : List Value) : its.toArray.extract 0 0 ++ its2.toArray ++ its.toArray.extract its.toArray.size its.toArray.size = its2.toArray := by
  apply Array.toList_inj.mp
  simp
theorem setItem_all {l b sl : Addr} {items new : Array Value} {n n2 : Nat} {Q : Unit → Shared → Prop}
    (e : s.heap.get? l = some { cls := .type "list", data := .seq items n }) (e2 : s.heap.get? b = some { cls := .type "list", data := .seq new n2 }) (hne : l ≠ b)
    (hs : s.heap.IsSliceOf sl .none .none .none) (hsz : items.size + new.size ≤ sizeLine)
    (h : Q () { s with heap := s.heap.update l (Obj.mapSeq fun xs => xs.extract 0 0 ++ new ++ xs.extract items.size xs.size) }) :
    wpAny (model prog w) A (setItem (.ref l) (.ref sl) (.ref b)) Q E s := by
  have hl : s.heap.IsList l items := PySem.IsL.isList e
  have hb : s.heap.IsList b new := PySem.IsL.isList e2
  obtain ⟨os, hos, hcs, hds⟩ := id hs
  have hTs : s.TypeIs (.ref sl) "slice" := ⟨os, hos, hcs⟩
  have hstep : ¬ ((rawPart none == rawInt 0) = true) := Bool.false_ne_true
  have hsame : Builtin.List.listSameRef (.ref l) (.ref b) = false := by
    unfold Builtin.List.listSameRef
    exact beq_eq_false_iff_ne.mpr hne
  have hmax : (max (0 : Int) ((items.size : Nat) : Int)).toNat = items.size := by omega
  have hz' : ((fun xs : Array Value => xs.extract 0 0 ++ new ++ xs.extract items.size xs.size) items).size ≤ sizeLine + 1 := by
    simp only [Array.size_append, Array.size_extract]
    omega
  unfold setItem
  try with_reducible refine wpAny_holding ?_
  first | refine wpAny_bind (wpAny_pure ?_) | skip
  refine wpAny_bind (wpAny_sequenceKey hl.typeIs (by decide) ?_)
  refine wpAny_bind (wpAny_callSpecial?_slot (name := Str.ofString "__setitem__") hl.typeIs PySem.F.slot_list_setitem
    (wpAny_call_entry PySem.F.slot_list_setitem hl.typeIs PySem.F.entry_list_setitem ?_ (args_list_setitem _ _ _)))
  show wpAny _ _ (Builtin.List.listSubscript? (.ref sl) >>= _) _ _ s
  refine wpAny_bind ?_
  unfold Builtin.List.listSubscript?
  refine wpAny_bind (wpAny_specialOf hTs slice_no_index ?_)
  simp only [Option.isNone_none, if_true]
  refine wpAny_pure ?_
  show wpAny _ _ (typeOf (.ref sl) >>= _) _ _ s
  refine wpAny_bind (wpAny_typeOf hTs ?_)
  first
    | rw [if_neg (by decide)]
    | refine PySem.W.KFB.if_not (by decide) ?_
  rw [listSliceParts_eq]
  refine wpAny_bind (wpAny_bind (wpAny_field hos hds (x := .none) rfl (wpAny_bind (wpAny_listPart .none ?_))))
  rw [if_neg hstep]
  refine wpAny_bind (wpAny_field hos hds (x := .none) rfl (wpAny_bind (wpAny_listPart .none ?_)))
  refine wpAny_bind (wpAny_field hos hds (x := .none) rfl (wpAny_bind (wpAny_listPart .none (wpAny_pure ?_))))
  first
    | simp only [hsame, Bool.false_eq_true, if_false]
    | refine PySem.W.KFB.if_not hsame ?_
    | (dsimp only
       rw [if_neg (by rw [hsame]; exact Bool.false_ne_true)])
  refine wpAny_bind (m := Builtin.List.listAllItems (.ref b) "must assign iterable to extended slice") ?_
  unfold Builtin.List.listAllItems
  refine wpAny_bind (wpAny_typeOf hb.typeIs ?_)
  first
    | refine PySem.W.KFB.if_so (by decide) ?_
    | rw [if_pos (by decide)]
    | simp only [beq_self_eq_true, Bool.true_or, if_true]
  unfold Builtin.List.listItems
  refine wpAny_bind (wpAny_seqItems e2 rfl (wpAny_pure ?_))
  refine wpAny_bind (wpAny_bind (wpAny_seqItems e rfl (wpAny_pure ?_)))
  refine wpAny_bind (wpAny_of_eq ((sliceIndices_raw none none none items.size (by simp)).trans (congrArg (pure : Int × Int × Int → Sem (Int × Int × Int)) (bounds_all items.size))) ?_)
  show wpAny _ _ (if ((1 : Int) == 1) = true then _ else _) _ _ s
  rw [if_pos (by decide)]
  refine wpAny_bind (wpAny_rule ?_)
  first
    | simp only [notLongL hsz, Bool.false_eq_true, if_false]
    | refine PySem.W.KFB.if_not (notLongL hsz) ?_
  first | refine wpAny_bind (wpAny_pure ?_) | skip
  show wpAny _ _ (updateSeq l (fun xs => xs.extract 0 ((0 : Int)).toNat ++ new ++ xs.extract (max (0 : Int) ((items.size : Nat) : Int)).toNat xs.size) >>= _) _ _ s
  rw [hmax]
  refine wpAny_bind (wpAny_updateSeq (hz := Nat.le_trans (Nat.le_add_right _ _) hsz) (_hz' := hz') e rfl ?_)
  refine wpAny_bind (wpAny_letGo ?_)
  first
    | exact wpAny_bind (wpAny_pure (wpAny_pure ⟨.none, rfl, wpAny_pure h⟩))
    | exact wpAny_pure ⟨.none, rfl, wpAny_pure h⟩
end
section
variable {X : Cx}
theorem set_all {pins : List (Addr × Obj)} {s : Shared} {σ : St} {H : Hp} {l b sl : Addr} {xs ys : List V} {Q : Unit → Shared → Prop} (I : Inv X pins σ H s)
    (hH : H l = some (.lst xs)) (hB : H b = some (.lst ys)) (hne : l ≠ b) (hs : s.heap.IsSliceOf sl .none .none .none)
    (hz : xs.length + ys.length ≤ sizeLine) (h : ∀ s', Inv X pins σ (upd H l (.lst ys)) s' → Q () s') :
    wpAny (model X.prog X.w) X.A (setItem (.ref l) (.ref sl) (.ref b)) Q X.xe s := by
  obtain ⟨z, its, n, r, hl, e⟩ := I.lstM hH
  obtain ⟨z2, its2, n2, r2, hl2, e2⟩ := I.lstM hB
  refine setItem_all e e2 hne hs (by rw [List.size_toArray, List.size_toArray]; omega) (h _ ?_)
  refine I.lset (its' := its2) (t' := s.toks) hH e ?_ r2 (by omega)
  exact splice_all its its2
/-- o[:] = the value -/
def gAll (to : TE) : TG := fun v σ H Nx => to σ H fun x H1 => ∃ l b xs ys, x = .ref l ∧ v = .ref b ∧ l ≠ b ∧ H1 l = some (.lst xs) ∧ H1 b = some (.lst ys) ∧ xs.length + ys.length ≤ sizeLine ∧ Nx σ (upd H1 l (.lst ys))
theorem pg_all {o : Expr} {to : TE} {p2 pos : Pos} (ho : PE X o to)
    (ha : ∀ v, assign (.Subscript o (.Slice none none none p2) pos) X.env v = (do
      let ov ← holding [v] (eval o X.env)
      let iv ← holding [v, ov] (eval (.Slice none none none p2) X.env)
      standAt pos
      holding [v, ov, iv] (setItem ov iv v)
      release [iv, v, ov] []) := by intro _; rfl) : PG X (.Subscript o (.Slice none none none p2) pos) (gAll to) := by
  refine ⟨fun pins s σ H v u Q I r h => ?_⟩
  rw [ha]
  refine wpAny_bind (wpAny_holding (thn (ho.run pins s σ H _ I h) fun ov s1 ⟨x, H1, I1, r1, q1⟩ => ?_))
  obtain ⟨l, b, xs, ys, rfl, rfl, hne, hl, hb, hz, q⟩ := q1
  obtain rfl := (show ov = _ from r1)
  obtain rfl := (show u = _ from r)
  refine wpAny_bind (wpAny_holding (wpAny_Slice ?_))
  rw [evalPart_none]
  refine wpAny_pure ?_
  refine wpAny_pure ?_
  refine wpAny_pure ?_
  have I4 : Inv X pins σ H1 { s1 with heap := s1.heap.push { cls := .type "slice", data := .fields #[.none, .none, .none] } } := I1.kept (t' := s1.toks) fun b ob q => Heap.get?_push_of_some _ q
  refine wpAny_bind (wpAny_standAt (wpAny_bind (wpAny_holding (set_all I4 hl hb hne (Heap.IsSliceOf.new ..) hz fun s3 I5 => ?_))))
  exact wpAny_release ⟨σ, _, I5, q⟩
end
end L2
/-! Lists of texts that a def changes behind its caller: statements over told lists, tables row by row. -/
namespace L2.DS
open PySem PySem.Spec PyProof.Rows
section
variable {S : SR} {n n0 ka kb kc k i : Nat} {te to tv ti : TE} {t : TA} {u : TS} {σ : L2.St} {G H G0 H0 : Hp} {nx bk ct : L2.St → Hp → Prop} {rt : VK} {D : Addr} {xs : List V} {R : HR} {K : PySem.W.Frag} {g : TG} {el : TE} {vs : List Nat} {p : Addr} {c1 : Nat}
theorem q_appG (st : Stab S) (s0 : S n0 G0 H0) (hD0 : H0 D = none) (hc : ∀ m G' J, S m G' J → S m (cut G' (· = D)) J) (s : S n G H) (gD : G D = some (.lst xs)) (hl : xs.length < 100000) (e1 : Ev S n ka to σ G (IsV (.ref D))) (e2 : ∀ G', Same G G' → Ev S (n + ka) kb te σ G' R)
    (h : ∀ v G' H', R v G' → Same G G' → S (n + ka + kb) (upd G' D (.lst (xs ++ [v]))) H' → u (Ends.mk nx rt bk ct) σ H') : tSeq (tDrop (tBM K "list" rAppend to (tCons te tNil))) u (Ends.mk nx rt bk ct) σ H := by
  refine e1 G H (Same.refl _) s _ fun w G1 H1 s1 ew => ?_
  obtain rfl := (show _ = _ from ew)
  have d1 : H1 D = some (.lst xs) := st.sub s1.s _ _ (s1.g _ _ gD)
  refine ⟨.inl ⟨rfl, xs, SqL.of d1⟩, e2 G1 s1.g G1 H1 (Same.refl _) s1.s _ fun v G2 H2 s2 ev => ?_⟩
  have g2 := s2.g _ _ (s1.g _ _ gD)
  exact ⟨D, xs, v, rfl, rfl, st.sub s2.s _ _ g2, Nat.lt_of_lt_of_le hl (by decide), h v G2 _ ev (s1.g.trans s2.g) (st_chgT st s0 hD0 hc s2.s _)⟩
/-- l.pop(i), l told -/
theorem q_popAt (st : Stab S) (s0 : S n0 G0 H0) (hD0 : H0 D = none) (hc : ∀ m G' J, S m G' J → S m (cut G' (· = D)) J) (s : S n G H) (gD : G D = some (.lst xs)) (hl : xs.length < 100000) {j : Nat} (hj : j < xs.length) (e1 : Ev S n ka to σ G (IsV (.ref D))) (e2 : Ev S (n + ka) kb te σ G (IsV (.int (j : Nat))))
    (h : ∀ G' H', Same G G' → S (n + ka + kb) (upd G' D (.lst (xs.eraseIdx j))) H' → u (Ends.mk nx rt bk ct) σ H') : tSeq (tDrop (tBM K "list" rPopAt to (tCons te tNil))) u (Ends.mk nx rt bk ct) σ H := by
  refine e1 G H (Same.refl _) s _ fun w G1 H1 s1 ew => ?_
  obtain rfl := (show _ = _ from ew)
  have d1 : H1 D = some (.lst xs) := st.sub s1.s _ _ (s1.g _ _ gD)
  refine ⟨.inl ⟨rfl, xs, SqL.of d1⟩, e2 G1 H1 s1.g s1.s _ fun v G2 H2 s2 ev => ?_⟩
  obtain rfl := (show _ = _ from ev)
  have g2 := s2.g _ _ (s1.g _ _ gD)
  have hsz : (100000 : Nat) ≤ 2 ^ 62 := by decide
  refine ⟨D, xs, (j : Nat), j, xs[j], rfl, rfl, st.sub s2.s _ _ g2, by omega, by omega, ?_, List.getElem?_eq_getElem hj, h G2 _ (s1.g.trans s2.g) (st_chgT st s0 hD0 hc s2.s _)⟩
  unfold seqIndex?
  have nj : ¬ ((j : Int) < 0) := by omega
  simp [nj, hj]
/-- l.insert(i, ..), l told -/
theorem q_insG (st : Stab S) (s0 : S n0 G0 H0) (hD0 : H0 D = none) (hc : ∀ m G' J, S m G' J → S m (cut G' (· = D)) J) (s : S n G H) (gD : G D = some (.lst xs)) (hl : xs.length < 100000) {P : Int → Prop} (hP : ∀ i, P i → 0 ≤ i ∧ i < 2 ^ 62) (e1 : Ev S n ka to σ G (IsV (.ref D))) (e2 : EvA S (n + ka) kb t σ G (RCons (IsI P) (RCons R RNil)))
    (h : ∀ (i : Int) v G' H', P i → R v G' → Same G G' → S (n + ka + kb) (upd G' D (.lst (xs.take i.toNat ++ [v] ++ xs.drop i.toNat))) H' → u (Ends.mk nx rt bk ct) σ H') :
    tSeq (tDrop (tBM K "list" (fun x vs H Q => ∃ (l : Addr) (xs : List V) (i : Int) (y : V), x = .ref l ∧ vs = [.int i, y] ∧ H l = some (.lst xs) ∧ xs.length < sizeLine ∧ 0 ≤ i ∧ i < 2 ^ 63 ∧ Q .non (upd H l (.lst (xs.take i.toNat ++ [y] ++ xs.drop i.toNat)))) to t)) u (Ends.mk nx rt bk ct) σ H := by
  refine e1 G H (Same.refl _) s _ fun w G1 H1 s1 ew => ?_
  obtain rfl := (show _ = _ from ew)
  have d1 : H1 D = some (.lst xs) := st.sub s1.s _ _ (s1.g _ _ gD)
  refine ⟨.inl ⟨rfl, xs, SqL.of d1⟩, e2 G1 H1 s1.g s1.s _ fun v G2 H2 s2 ev => ?_⟩
  obtain ⟨_, _, rfl, ⟨i, hi, rfl⟩, y, _, rfl, hy, e3⟩ := ev
  obtain rfl := (show _ = [] from e3)
  have g2 := s2.g _ _ (s1.g _ _ gD)
  obtain ⟨i0, i1⟩ := hP i hi
  exact ⟨D, xs, i, y, rfl, rfl, st.sub s2.s _ _ g2, Nat.lt_of_lt_of_le hl (by decide), i0, by omega, h i y G2 _ hi hy (s1.g.trans s2.g) (st_chgT st s0 hD0 hc s2.s _)⟩
/-- l[:] = .., l told -/
theorem q_allG (st : Stab S) (s0 : S n0 G0 H0) (hD0 : H0 D = none) (hc : ∀ m G' J, S m G' J → S m (cut G' (· = D)) J) (s : S n G H) (gD : G D = some (.lst xs)) {ys : List V} (hl : xs.length + ys.length ≤ 100000) (e : Ev S n ka te σ G (IsNew G (.lst ys))) (e1 : ∀ G', Same G G' → Ev S (n + ka) kb to σ G' (IsV (.ref D)))
    (h : ∀ G' H', Same G G' → S (n + ka + kb) (upd G' D (.lst ys)) H' → u (Ends.mk nx rt bk ct) σ H') : tSeq (tAsg te (L2.gAll to)) u (Ends.mk nx rt bk ct) σ H := by
  refine e G H (Same.refl _) s _ fun v G1 H1 s1 ev => ?_
  obtain ⟨b, rfl, fb, gb⟩ := ev
  refine e1 G1 s1.g G1 H1 (Same.refl _) s1.s _ fun w G2 H2 s2 ew => ?_
  obtain rfl := (show _ = _ from ew)
  have g2 := s2.g _ _ (s1.g _ _ gD)
  refine ⟨D, b, xs, ys, rfl, rfl, fun z => ?_, st.sub s2.s _ _ g2, st.sub s2.s _ _ (s2.g _ _ gb), Nat.le_trans hl (by decide), h G2 _ (s1.g.trans s2.g) (st_chgT st s0 hD0 hc s2.s _)⟩
  rw [← z, gD] at fb
  cases fb
/-- a call as a statement -/
theorem q_dropC {sp : Sp} {dvs : List V} {E : XK} {RA : HRs} (s : S n G H) (e : EvA S n k t σ G RA) (h : ∀ vs G' H', Stp S (n + k) G H G' H' → RA vs G' → sp (vs ++ dvs) H' (fun _ H2 => u (Ends.mk nx rt bk ct) σ H2) E) : tSeq (tDrop (tCall sp dvs E t)) u (Ends.mk nx rt bk ct) σ H :=
  e G H (Same.refl _) s _ fun vs G' H' s1 e1 => h vs G' H' s1 e1
end
/-! ### rows told apart, drawn -/
def RwA (as : List Addr) (rs : List (List Str)) (G : Hp) : Prop := as.length = rs.length ∧ ∀ (i : Nat) a r, as[i]? = some a → rs[i]? = some r → G a = some (.lst (r.map V.str))
theorem RwA.mono {as : List Addr} {rs : List (List Str)} {G G' : Hp} (h : RwA as rs G) (s : Same G G') : RwA as rs G' := ⟨h.1, fun i a r x y => s _ _ (h.2 i a r x y)⟩
/-- a table of new rows, each as P tells -/
def IsTb5 (F : Hp) (P : List Str → Prop) (m : Nat) : HR := fun v G => ∃ p as rs, v = .ref p ∧ F p = none ∧ G p = some (.lst (as.map V.ref)) ∧ as.Nodup ∧ RwA as rs G ∧ (∀ a ∈ as, F a = none) ∧ (∀ r ∈ rs, P r) ∧ rs.length = m
def LcT (S : SR) (P : List Str → Prop) (G2 H2 : Hp) (n : Nat) (D : Addr) (j : Nat) (J : Hp) : Prop := ∃ G3 as rs, Stp S n G2 H2 G3 J ∧ G3 D = none ∧ J D = some (.lst (as.map V.ref)) ∧ as.Nodup ∧ RwA as rs G3 ∧ (∀ a ∈ as, G2 a = none) ∧ (∀ r ∈ rs, P r) ∧ rs.length = j
section
variable {S : SR} {n k c1 : Nat} {te el : TE} {σ : L2.St} {G : Hp} {K : PySem.W.Frag} {i : Nat} {vs : List Nat} {p : Addr} {xs : List V}
theorem RwA.snoc {as : List Addr} {rs : List (List Str)} {G : Hp} {a : Addr} {r : List Str} (h : RwA as rs G) (g : G a = some (.lst (r.map V.str))) : RwA (as ++ [a]) (rs ++ [r]) G := by
  obtain ⟨l, h⟩ := h
  refine ⟨by rw [List.length_append, List.length_append, l]; rfl, fun i b q hb hq => ?_⟩
  by_cases hi : i < as.length
  · rw [List.getElem?_append_left hi] at hb
    rw [List.getElem?_append_left (by omega)] at hq
    exact h i b q hb hq
  · rw [List.getElem?_append_right (by omega)] at hb
    rw [List.getElem?_append_right (by omega)] at hq
    have e1 : i - as.length = 0 := by
      have := (List.getElem?_eq_some_iff.mp hb).1
      simp at this
      omega
    rw [e1] at hb
    rw [← l, e1] at hq
    obtain rfl := Option.some.inj hb
    obtain rfl := Option.some.inj hq
    exact g
theorem ev_lcT (st : Stab S) {P : List Str → Prop} (e : Ev S n k te σ G (IsV (.ref p))) (hq : SqL K G p xs) (hl : xs.length ≤ 1000) (hw : ∀ x : V, wipe ((wipe σ vs).set i (some x)) vs = wipe σ vs)
    (hs : ∀ (j : Nat) x G', xs[j]? = some x → Same G G' → Ev S (n + k + c1 * j) c1 el ((wipe σ vs).set i (some x)) G' (fun v G'' => ∃ r, P r ∧ IsNew G' (.lst (r.map V.str)) v G'')) :
    Ev S n (k + c1 * xs.length) (tLc (iList K te) (gName i) tYes el vs) σ G (IsTb5 G P xs.length) := fun G1 H1 s0 s Q q =>
  e G1 H1 s0 s _ fun v G2 H2 s2 ev => ⟨p, ev, ⟨xs, Same.seq (s0.trans (s2.g.trans (st.sub s2.s))) hq⟩, fun D hD =>
    lc_list (K := K) (a := p) (xs := xs) (fun j J => LcT S P G2 H2 (n + k + c1 * j) D j J) (by
      have gD : G2 D = none := (st.sub s2.s).free hD
      exact ⟨G2, [], [], ⟨Same.refl _, kp_new (Kp.refl H2) hD, st.chg s2.s hD s2.s gD, fun _ _ h => .inl h⟩, gD, upd_same, List.nodup_nil, ⟨rfl, fun _ _ _ h => by cases h⟩, (fun _ h => by cases h), (fun _ h => by cases h), rfl⟩) (fun j J _ ⟨G3, as, rs, a, _⟩ => ((s0.trans s2.g).trans (a.g.trans (st.sub a.s))).seq hq)
      (fun j x J hx' h => by
        have hj : j < xs.length := (List.getElem?_eq_some_iff.mp hx').1
        obtain ⟨G3, as, rs, s3, c, d, nd, ra, fa, pr, lr⟩ := h
        refine ⟨hw x, tYes_run (iteT ?_)⟩
        refine hs j x G3 hx' ((s0.trans s2.g).trans s3.g) G3 J (Same.refl _) s3.s _ fun y G4 J4 s4 ry => ?_
        obtain ⟨r, hr, q, rfl, f3, g4⟩ := ry
        have d4 : J4 D = some (.lst (as.map V.ref)) := s4.k.k D _ (st.fre s2.s hD) d
        have c4 : G4 D = none := by
          cases e : G4 D with
          | none => rfl
          | some o =>
            rcases s4.n D o e with q | q
            · rw [c] at q
              cases q
            · rw [d] at q
              cases q
        have t : Stp S (n + k + c1 * (j + 1)) G2 H2 G4 J4 := by
          have z := s3.trans s4
          rw [Nat.mul_succ, ← Nat.add_assoc]
          exact z
        have la := ra.1
        refine ⟨as.map V.ref, d4, Nat.lt_of_lt_of_le (show (as.map V.ref).length < 100000 by rw [List.length_map]; omega) (by decide), G4, as ++ [q], rs ++ [r], ⟨t.g, kp_new t.k hD, st.chg s2.s hD t.s c4, t.n⟩, c4, by rw [upd_same, List.map_append]; rfl, ?_, (ra.mono s4.g).snoc g4, fun a ha => ?_, fun z hz => ?_, by rw [List.length_append, lr]; rfl⟩
        · refine List.nodup_append.mpr ⟨nd, List.pairwise_singleton _ _, fun a ha b hb => ?_⟩
          obtain rfl := List.mem_singleton.mp hb
          obtain ⟨i, hi⟩ := List.getElem?_of_mem ha
          have hi' : i < rs.length := by
            have := (List.getElem?_eq_some_iff.mp hi).1
            omega
          have := ra.2 i a _ hi (List.getElem?_eq_getElem hi')
          intro z
          rw [z, f3] at this
          cases this
        · rcases List.mem_append.mp ha with h | h
          · exact fa a h
          · obtain rfl := List.mem_singleton.mp h
            exact s3.g.free f3
        · rcases List.mem_append.mp hz with h | h
          · exact pr z h
          · obtain rfl := List.mem_singleton.mp h
            exact hr) (fun J h => by
      obtain ⟨G3, as, rs, s3, c, d, nd, ra, fa, pr, lr⟩ := h
      have g4 : Same G3 (upd G3 D (.lst (as.map V.ref))) := fun y o z => by
        rw [upd_ne (ne_of_none z c)]
        exact z
      have t := s2.trans s3
      have w : Stp S (n + (k + c1 * xs.length)) G1 H1 (upd G3 D (.lst (as.map V.ref))) J := by
        have z : Stp S (n + k + c1 * xs.length) G1 H1 (upd G3 D (.lst (as.map V.ref))) J := by
          refine ⟨t.g.trans g4, t.k, st.pub s2.s hD s3.s c d, fun b o e => ?_⟩
          by_cases hb : b = D
          · subst hb
            exact .inr (s2.k.v _ hD)
          · rw [upd_ne hb] at e
            exact t.n b o e
        rw [show n + (k + c1 * xs.length) = n + k + c1 * xs.length by omega]
        exact z
      exact q (.ref D) _ J w ⟨D, as, rs, rfl, s0.free (t.g.free c), upd_same, nd, ra.mono g4, fun a ha => s0.free (s2.g.free (fa a ha)), pr, lr⟩)⟩
end
end L2.DS
/-! Names, tables and edges that a def changes. -/
namespace L2.DS
open PySem PySem.Spec PyProof.Rows
section
variable {as bs : List Addr} {rs ss : List (List Str)} {G G' : Hp} {a : Addr} {r : List Str}
theorem RwA.nil : RwA [] [] G := ⟨rfl, fun _ _ _ h => by cases h⟩
theorem RwA.app (h : RwA as rs G) (h' : RwA bs ss G) : RwA (as ++ bs) (rs ++ ss) G := by
  refine ⟨by rw [List.length_append, List.length_append, h.1, h'.1], fun i b q hb hq => ?_⟩
  by_cases hi : i < as.length
  · rw [List.getElem?_append_left hi] at hb
    rw [List.getElem?_append_left (by have := h.1; omega)] at hq
    exact h.2 i b q hb hq
  · rw [List.getElem?_append_right (by omega)] at hb
    rw [List.getElem?_append_right (by have := h.1; omega)] at hq
    rw [← h.1] at hq
    exact h'.2 _ b q hb hq
theorem RwA.take (h : RwA as rs G) (k : Nat) : RwA (as.take k) (rs.take k) G := by
  refine ⟨by rw [List.length_take, List.length_take, h.1], fun i b q hb hq => ?_⟩
  rw [List.getElem?_take] at hb hq
  split at hb
  · rename_i hi
    rw [if_pos hi] at hq
    exact h.2 i b q hb hq
  · cases hb
theorem RwA.drop (h : RwA as rs G) (k : Nat) : RwA (as.drop k) (rs.drop k) G := by
  refine ⟨by rw [List.length_drop, List.length_drop, h.1], fun i b q hb hq => ?_⟩
  rw [List.getElem?_drop] at hb hq
  exact h.2 _ b q hb hq
theorem RwA.one (h : G a = some (.lst (r.map V.str))) : RwA [a] [r] G := ⟨rfl, fun i b q hb hq => by
  cases i with
  | zero =>
    obtain rfl := Option.some.inj hb
    obtain rfl := Option.some.inj hq
    exact h
  | succ i => cases hb⟩
theorem RwA.off (h : RwA as rs G) (e : ∀ b ∈ as, G' b = G b) : RwA as rs G' := ⟨h.1, fun i b q hb hq => by rw [e b (List.mem_of_getElem? hb)]; exact h.2 i b q hb hq⟩
/-- row i anew -/
theorem RwA.set (h : RwA as rs G) (nd : as.Nodup) {i : Nat} (ha : as[i]? = some a) : RwA as (rs.set i r) (upd G a (.lst (r.map V.str))) := by
  refine ⟨by rw [List.length_set]; exact h.1, fun j b q hb hq => ?_⟩
  have li := (List.getElem?_eq_some_iff.mp ha).1
  by_cases hj : j = i
  · subst hj
    rw [ha] at hb
    obtain rfl := Option.some.inj hb
    rw [List.getElem?_set_self (by have := h.1; omega)] at hq
    obtain rfl := Option.some.inj hq
    exact upd_same
  · rw [List.getElem?_set_ne (Ne.symm hj)] at hq
    have nb : b ≠ a := fun e => by
      subst e
      obtain ⟨lj, ej⟩ := List.getElem?_eq_some_iff.mp hb
      obtain ⟨li, ei⟩ := List.getElem?_eq_some_iff.mp ha
      rcases Nat.lt_trichotomy i j with z | z | z
      · exact (List.pairwise_iff_getElem.mp nd i j li lj z) (ei.trans ej.symm)
      · exact hj z.symm
      · exact (List.pairwise_iff_getElem.mp nd j i lj li z) (ej.trans ei.symm)
    rw [upd_ne nb]
    exact h.2 j b q hb hq
end
def setB {α : Type} (T : Bool → α) (b : Bool) (x : α) : Bool → α := fun c => if c = b then x else T c
theorem setB_self {α : Type} {T : Bool → α} {b : Bool} {x : α} : setB T b x b = x := if_pos rfl
theorem setB_ne {α : Type} {T : Bool → α} {b c : Bool} {x : α} (h : c ≠ b) : setB T b x c = T c := if_neg h
structure A5 (pn pe pt : Addr) (pT : Bool → Addr) (A : Bool → List Addr) : Prop where
  ne : pn ≠ pe
  nt : pn ≠ pt
  et : pe ≠ pt
  nT : ∀ b, pn ≠ pT b ∧ pe ≠ pT b ∧ pt ≠ pT b
  TT : ∀ b c, b ≠ c → pT b ≠ pT c
  na : ∀ b, ∀ a ∈ A b, a ≠ pn ∧ a ≠ pe ∧ a ≠ pt ∧ ∀ c, a ≠ pT c
  nd : ∀ b, (A b).Nodup
  dj : ∀ b c, b ≠ c → ∀ a, a ∈ A b → a ∉ A c
structure T5 (pn pe pt : Addr) (pT : Bool → Addr) (A : Bool → List Addr) (N E : List Str) (T : Bool → List (List Str)) (G : Hp) : Prop where
  a : A5 pn pe pt pT A
  gn : G pn = some (.lst (N.map V.str))
  ge : G pe = some (.lst (E.map V.str))
  gp : G pt = some (.lst [.ref (pT false), .ref (pT true)])
  gt : ∀ b, G (pT b) = some (.lst ((A b).map V.ref))
  gr : ∀ b, RwA (A b) (T b) G
section
variable {pn pe pt : Addr} {pT : Bool → Addr} {A : Bool → List Addr} {N E : List Str} {T : Bool → List (List Str)} {G G' : Hp}
theorem T5.mono (h : T5 pn pe pt pT A N E T G) (s : Same G G') : T5 pn pe pt pT A N E T G' := ⟨h.a, s _ _ h.gn, s _ _ h.ge, s _ _ h.gp, fun b => s _ _ (h.gt b), fun b => (h.gr b).mono s⟩
theorem T5.setN (h : T5 pn pe pt pT A N E T G) {N' : List Str} : T5 pn pe pt pT A N' E T (upd G pn (.lst (N'.map V.str))) := ⟨h.a, upd_same, by rw [upd_ne (Ne.symm h.a.ne)]; exact h.ge, by rw [upd_ne (Ne.symm h.a.nt)]; exact h.gp, fun b => by rw [upd_ne (Ne.symm (h.a.nT b).1)]; exact h.gt b, fun b => (h.gr b).off fun a ha => upd_ne (h.a.na b a ha).1⟩
theorem T5.setE (h : T5 pn pe pt pT A N E T G) {E' : List Str} : T5 pn pe pt pT A N E' T (upd G pe (.lst (E'.map V.str))) := ⟨h.a, by rw [upd_ne h.a.ne]; exact h.gn, upd_same, by rw [upd_ne (Ne.symm h.a.et)]; exact h.gp, fun b => by rw [upd_ne (Ne.symm (h.a.nT b).2.1)]; exact h.gt b, fun b => (h.gr b).off fun a ha => upd_ne (h.a.na b a ha).2.1⟩
theorem T5.setR (h : T5 pn pe pt pT A N E T G) {b : Bool} {i : Nat} {a : Addr} {r : List Str} (ha : (A b)[i]? = some a) : T5 pn pe pt pT A N E (setB T b ((T b).set i r)) (upd G a (.lst (r.map V.str))) := by
  have hm := List.mem_of_getElem? ha
  obtain ⟨n1, n2, n3, n4⟩ := h.a.na b a hm
  refine ⟨h.a, by rw [upd_ne (Ne.symm n1)]; exact h.gn, by rw [upd_ne (Ne.symm n2)]; exact h.ge, by rw [upd_ne (Ne.symm n3)]; exact h.gp, fun c => by rw [upd_ne (Ne.symm (n4 c))]; exact h.gt c, fun c => ?_⟩
  by_cases hc : c = b
  · subst hc
    rw [setB_self]
    exact (h.gr c).set (h.a.nd c) ha
  · rw [setB_ne hc]
    exact (h.gr c).off fun x hx => upd_ne fun z => h.a.dj b c (Ne.symm hc) a hm (z ▸ hx)
theorem T5.setT (h : T5 pn pe pt pT A N E T G) {b : Bool} {as : List Addr} {rs : List (List Str)} (hr : RwA as rs G) (nd : as.Nodup) (na : ∀ a ∈ as, (a ≠ pn ∧ a ≠ pe ∧ a ≠ pt ∧ ∀ c, a ≠ pT c) ∧ ∀ c, c ≠ b → a ∉ A c) : T5 pn pe pt pT (setB A b as) N E (setB T b rs) (upd G (pT b) (.lst (as.map V.ref))) := by
  obtain ⟨n1, n2, n3⟩ := h.a.nT b
  have old : ∀ {c : Bool}, ∀ x ∈ A c, x ≠ pT b := fun x hx => (h.a.na _ x hx).2.2.2 b
  refine ⟨⟨h.a.ne, h.a.nt, h.a.et, h.a.nT, h.a.TT, fun c x hx => ?_, fun c => ?_, fun c d hcd x hx hy => ?_⟩, by rw [upd_ne n1]; exact h.gn, by rw [upd_ne n2]; exact h.ge, by rw [upd_ne n3]; exact h.gp, fun c => ?_, fun c => ?_⟩
  · by_cases hc : c = b
    · subst hc
      rw [setB_self] at hx
      exact (na x hx).1
    · rw [setB_ne hc] at hx
      exact h.a.na c x hx
  · by_cases hc : c = b
    · subst hc
      rw [setB_self]
      exact nd
    · rw [setB_ne hc]
      exact h.a.nd c
  · by_cases hc : c = b
    · subst hc
      rw [setB_self] at hx
      rw [setB_ne (Ne.symm hcd)] at hy
      exact (na x hx).2 d (Ne.symm hcd) hy
    · rw [setB_ne hc] at hx
      by_cases hd : d = b
      · subst hd
        rw [setB_self] at hy
        exact (na x hy).2 c hc hx
      · rw [setB_ne hd] at hy
        exact h.a.dj c d hcd x hx hy
  · by_cases hc : c = b
    · subst hc
      rw [setB_self]
      exact upd_same
    · rw [setB_ne hc, upd_ne (h.a.TT c b hc)]
      exact h.gt c
  · by_cases hc : c = b
    · subst hc
      rw [setB_self, setB_self]
      exact hr.off fun x hx => upd_ne ((na x hx).1.2.2.2 c)
    · rw [setB_ne hc, setB_ne hc]
      exact (h.gr c).off fun x hx => upd_ne (old x hx)
end
theorem src_fr0 {sa cl : Addr} {n : Nat} {G H : Hp} {a : Addr} {o : HO} (h : Src sa cl n G H) (g : G a = some o) : ∃ G0 H0, Src sa cl n G0 H0 ∧ H0 a = none := by
  obtain ⟨s, g1, g2, cs, l, m, t, h1, h2, h3⟩ := h
  have n1 : sa ≠ a := fun e => by rw [e, g] at g1; cases g1
  have n2 : cl ≠ a := fun e => by rw [e, g] at g2; cases g2
  refine ⟨cut G (· = a), cut H (· = a), ⟨fun b o e => ?_, ?_, ?_, cs, l, m, t, ?_, ?_, h3⟩, cut_in rfl⟩
  · by_cases hb : b = a
    · have : cut G (· = a) b = none := cut_in hb
      rw [this] at e
      cases e
    · have e1 : cut G (· = a) b = G b := cut_out (X := fun x => x = a) hb
      have e2 : cut H (· = a) b = H b := cut_out (X := fun x => x = a) hb
      rw [e1] at e
      rw [e2]
      exact s _ _ e
  · have e1 : cut G (· = a) sa = G sa := cut_out (X := fun x => x = a) n1
    rw [e1]
    exact g1
  · have e1 : cut G (· = a) cl = G cl := cut_out (X := fun x => x = a) n2
    rw [e1]
    exact g2
  · have e1 : cut H (· = a) sa = H sa := cut_out (X := fun x => x = a) n1
    rw [e1]
    exact h1
  · have e1 : cut H (· = a) cl = H cl := cut_out (X := fun x => x = a) n2
    rw [e1]
    exact h2
structure Gd5 (m k : Nat) (N E : List Str) (T : Bool → List (List Str)) : Prop where
  nm : N.length = m
  no : ∀ s ∈ N, TxM 13 s
  el : E.length = 2
  eo : ∀ s ∈ E, TxM 13 s
  tl : ∀ b, (T b).length ≤ 17 + k
  tr : ∀ b, ∀ r ∈ T b, r.length ≤ 17 + k ∧ ∀ s ∈ r, TxM 13 s
section
variable {m k : Nat} {N E : List Str} {T : Bool → List (List Str)}
theorem Gd5.up (h : Gd5 m k N E T) {j : Nat} (hj : k ≤ j) : Gd5 m j N E T := ⟨h.nm, h.no, h.el, h.eo, fun b => Nat.le_trans (h.tl b) (by omega), fun b r hr => ⟨Nat.le_trans (h.tr b r hr).1 (by omega), (h.tr b r hr).2⟩⟩
theorem mem_set {α : Type} {l : List α} {i : Nat} {x y : α} (h : y ∈ l.set i x) : y = x ∨ y ∈ l := (List.mem_or_eq_of_mem_set h).symm
theorem Gd5.setN (h : Gd5 m k N E T) {i : Nat} {s : Str} (hs : TxM 13 s) : Gd5 m k (N.set i s) E T := ⟨by rw [List.length_set]; exact h.nm, fun x hx => by
  rcases mem_set hx with rfl | hx
  · exact hs
  · exact h.no x hx, h.el, h.eo, h.tl, h.tr⟩
theorem Gd5.setE (h : Gd5 m k N E T) {i : Nat} {s : Str} (hs : TxM 13 s) : Gd5 m k N (E.set i s) T := ⟨h.nm, h.no, by rw [List.length_set]; exact h.el, fun x hx => by
  rcases mem_set hx with rfl | hx
  · exact hs
  · exact h.eo x hx, h.tl, h.tr⟩
theorem Gd5.setE' (h : Gd5 m k N E T) {E' : List Str} (hl : E'.length = 2) (he : ∀ s ∈ E', TxM 13 s) : Gd5 m k N E' T := ⟨h.nm, h.no, hl, he, h.tl, h.tr⟩
theorem Gd5.setR (h : Gd5 m k N E T) {b : Bool} {i : Nat} {r : List Str} (hl : r.length ≤ 17 + k) (hr : ∀ s ∈ r, TxM 13 s) : Gd5 m k N E (setB T b ((T b).set i r)) := by
  refine ⟨h.nm, h.no, h.el, h.eo, fun c => ?_, fun c x hx => ?_⟩
  · by_cases hc : c = b
    · subst hc
      rw [setB_self, List.length_set]
      exact h.tl c
    · rw [setB_ne hc]
      exact h.tl c
  · by_cases hc : c = b
    · subst hc
      rw [setB_self] at hx
      rcases mem_set hx with rfl | hx
      · exact ⟨hl, hr⟩
      · exact h.tr c x hx
    · rw [setB_ne hc] at hx
      exact h.tr c x hx
theorem Gd5.setT (h : Gd5 m k N E T) {b : Bool} {rs : List (List Str)} (hl : rs.length ≤ 17 + k) (hr : ∀ r ∈ rs, r.length ≤ 17 + k ∧ ∀ s ∈ r, TxM 13 s) : Gd5 m k N E (setB T b rs) := by
  refine ⟨h.nm, h.no, h.el, h.eo, fun c => ?_, fun c x hx => ?_⟩
  · by_cases hc : c = b
    · subst hc
      rw [setB_self]
      exact hl
    · rw [setB_ne hc]
      exact h.tl c
  · by_cases hc : c = b
    · subst hc
      rw [setB_self] at hx
      exact hr x hx
    · rw [setB_ne hc] at hx
      exact h.tr c x hx
end
def POdd5 : Addr → List V → Nat → Nat → Hp → HR → Prop := fun sa vs _ k _ R => vs = [.ref sa] ∧ k = 4 ∧ R = IsS (TxM 13)
def sp_chg5 : Sp := fun vs H Q _ => ∃ (sa cl : Addr) (n : Nat) (G : Hp) (pn pe pt : Addr) (pT : Bool → Addr) (A : Bool → List Addr) (N E : List Str) (T : Bool → List (List Str)) (m k : Nat), vs = [.ref sa, .ref pn, .ref pt, .ref pe] ∧ Src sa cl n G H ∧ T5 pn pe pt pT A N E T G ∧ Gd5 m k N E T ∧ m ≤ 17 ∧ k ≤ 4 ∧
  ∀ n' G' H' A' N' E' T', Src sa cl n' G' H' → T5 pn pe pt pT A' N' E' T' G' → Gd5 m (k + 2) N' E' T' → Q .non H'
/-! ### the law's own rule -/
def rtR (N : List Str) (r : List Str) : Bool := decide (r.length = N.length) && r.all fun s => decide (s ∈ N)
def rtT (N : List Str) (t : List (List Str)) : Bool := decide (t.length = N.length) && t.all (rtR N)
def rtN (N : List Str) (j : Nat) : Bool := (List.range j).all fun k => okNm (N.getD k "") && !decide (N.getD k "" ∈ N.take k)
def rt5 (N : List Str) (J P : List (List Str)) (e0 e1 : Str) : Bool := decide (1 ≤ N.length ∧ N.length ≤ 16) && (rtN N N.length && (rtT N J && rtT N P) && (decide (e0 ∈ N) && decide (e1 ∈ N)))
theorem rtN_nodup {N : List Str} (h : rtN N N.length = true) : N.Nodup ∧ ∀ s ∈ N, okNm s = true := by
  have g : ∀ k, k < N.length → okNm (N.getD k "") = true ∧ ¬ N.getD k "" ∈ N.take k := fun k hk => by
    have := List.all_eq_true.mp h k (List.mem_range.mpr hk)
    obtain ⟨a, b⟩ := Bool.and_eq_true_iff.mp this
    exact ⟨a, by simpa using b⟩
  have gd : ∀ k (hk : k < N.length), N.getD k "" = N[k] := fun k hk => by rw [List.getD_eq_getElem?_getD, List.getElem?_eq_getElem hk]; rfl
  refine ⟨List.pairwise_iff_getElem.mpr fun i j hi hj hij e => ?_, fun s hs => ?_⟩
  · have := (g j hj).2
    rw [gd j hj] at this
    refine this ?_
    rw [← e, List.mem_take_iff_getElem]
    exact ⟨i, by omega, rfl⟩
  · obtain ⟨i, hi, rfl⟩ := List.getElem_of_mem hs
    have := (g i hi).1
    rw [gd i hi] at this
    exact this
theorem nodup_rtN {N : List Str} (nd : N.Nodup) (ok : ∀ s ∈ N, okNm s = true) : rtN N N.length = true := by
  refine List.all_eq_true.mpr fun k hk => ?_
  have hk := List.mem_range.mp hk
  have gd : N.getD k "" = N[k] := by rw [List.getD_eq_getElem?_getD, List.getElem?_eq_getElem hk]; rfl
  rw [gd, ok _ (List.getElem_mem hk), Bool.true_and, Bool.not_eq_true', decide_eq_false]
  intro h
  rw [List.mem_take_iff_getElem] at h
  obtain ⟨i, hi, e⟩ := h
  exact (List.pairwise_iff_getElem.mp nd i k (by omega) hk (by omega)) e
theorem rtT_iff {N : List Str} {t : List (List Str)} : rtT N t = true ↔ t.length = N.length ∧ ∀ r ∈ t, r.length = N.length ∧ ∀ e ∈ r, e ∈ N := by
  unfold rtT rtR
  simp [List.all_eq_true]
theorem rt5_iff {N : List Str} {J P : List (List Str)} {e0 e1 : Str} : rt5 N J P e0 e1 = true ↔ TbOk N J P e0 e1 := by
  unfold rt5
  constructor
  · intro h
    obtain ⟨h1, h⟩ := Bool.and_eq_true_iff.mp h
    obtain ⟨h, h5⟩ := Bool.and_eq_true_iff.mp h
    obtain ⟨h2, h⟩ := Bool.and_eq_true_iff.mp h
    obtain ⟨h3, h4⟩ := Bool.and_eq_true_iff.mp h
    obtain ⟨h5, h6⟩ := Bool.and_eq_true_iff.mp h5
    have h1 := of_decide_eq_true h1
    obtain ⟨nd, ok⟩ := rtN_nodup h2
    obtain ⟨a, b⟩ := rtT_iff.mp h3
    obtain ⟨c, d⟩ := rtT_iff.mp h4
    exact ⟨h1.1, h1.2, nd, ok, of_decide_eq_true h5, of_decide_eq_true h6, a, b, c, d⟩
  · intro h
    rw [decide_eq_true (show 1 ≤ N.length ∧ N.length ≤ 16 from ⟨h.l1, h.l2⟩), nodup_rtN h.nd h.ok, rtT_iff.mpr ⟨h.jl, h.jr⟩, rtT_iff.mpr ⟨h.pl, h.pr⟩, decide_eq_true h.nv, decide_eq_true h.sl]
    rfl
end L2.DS
/-! Tables that are refused. -/
namespace L2.DS
open PySem PySem.Spec PyProof.Rows
/-! ### {name: place ..} of any names -/
def dG (names : List Str) : Nat → List (Key × V)
  | 0 => []
  | t + 1 => putK (dG names t) (.inr (names.getD t "")) (.int (t : Nat))
theorem dG_has (names : List Str) (a : Str) : ∀ t, t ≤ names.length → (valV (dG names t) (.inr a)).isSome = decide (a ∈ names.take t)
  | 0, _ => by rw [List.take_zero]; simp [dG, valV_nil]
  | t + 1, h => by
    have ht : t < names.length := by omega
    have e : names.getD t "" = names[t] := by rw [List.getD_eq_getElem?_getD, List.getElem?_eq_getElem ht]; rfl
    show (valV (putK _ _ _) _).isSome = _
    rw [valV_put, e, List.take_succ_eq_append_getElem ht]
    by_cases ha : a = names[t]
    · rw [if_pos (by rw [ha]), decide_eq_true (List.mem_append_right _ (List.mem_singleton.mpr ha))]
      rfl
    · rw [if_neg (fun z => ha (Sum.inr.inj z)), dG_has names a t (by omega)]
      refine decide_eq_decide.mpr ⟨fun h => List.mem_append_left _ h, fun h => ?_⟩
      rcases List.mem_append.mp h with h | h
      · exact h
      · exact absurd (List.mem_singleton.mp h) ha
theorem putK_len' {kvs : List (Key × V)} {k : Key} {v : V} (h : (valV kvs k).isSome = true) : (putK kvs k v).length = kvs.length := by
  unfold putK
  rw [valV_any, h, if_pos rfl, List.length_map]
theorem putK_le (c : List (Key × V)) (k : Key) (x : V) : (putK c k x).length ≤ c.length + 1 := by
  unfold putK
  split
  · rw [List.length_map]
    omega
  · rw [List.length_append]
    exact Nat.le_refl _
theorem dG_len (names : List Str) : ∀ t, t ≤ names.length → (dG names t).length ≤ t ∧ ((dG names t).length = t → (names.take t).Nodup ∧ dG names t = plc (names.take t) 0)
  | 0, _ => ⟨Nat.le_refl _, fun _ => by rw [List.take_zero]; exact ⟨List.nodup_nil, rfl⟩⟩
  | t + 1, h => by
    have ht : t < names.length := by omega
    have e : names.getD t "" = names[t] := by rw [List.getD_eq_getElem?_getD, List.getElem?_eq_getElem ht]; rfl
    obtain ⟨a, b⟩ := dG_len names t (by omega)
    have hs := dG_has names names[t] t (by omega)
    have l1 := putK_le (dG names t) (.inr names[t]) (.int (t : Nat))
    show (putK _ _ _).length ≤ _ ∧ ((putK _ _ _).length = _ → _ ∧ putK _ _ _ = _)
    rw [e]
    refine ⟨by omega, fun hl => ?_⟩
    by_cases hm : names[t] ∈ names.take t
    · rw [decide_eq_true hm] at hs
      rw [putK_len' hs] at hl
      omega
    · rw [decide_eq_false hm] at hs
      have hn : valV (dG names t) (.inr names[t]) = none := by
        cases z : valV (dG names t) (.inr names[t]) with
        | none => rfl
        | some _ => rw [z] at hs; cases hs
      obtain ⟨nd, ep⟩ := b (by omega)
      rw [List.take_succ_eq_append_getElem ht]
      refine ⟨List.nodup_append.mpr ⟨nd, List.pairwise_singleton _ _, fun x hx y hy => ?_⟩, ?_⟩
      · obtain rfl := List.mem_singleton.mp hy
        intro z
        exact hm (z ▸ hx)
      · rw [putK_new _ hn, ep, plc_snoc, List.length_take, Nat.zero_add, Nat.min_eq_left (by omega)]
section
variable {S : SR} {n k ka : Nat} {ta : TA} {σ : L2.St} {G : Hp} {K : PySem.W.Frag} {p : Addr} {vs : List Nat} {i j : Nat} {names : List Str} {R : HR}
theorem ev_dcEG (st : Stab S) (h : EvA S n k ta σ G (IsVs [.ref p])) (hq : SqL K G p (names.map V.str)) (hl : names.length ≤ 100000) (hij : i ≠ j) (hli : i < (wipe σ vs).length) (hlj : j < (wipe σ vs).length)
    (hw : ∀ x y : V, wipe (((wipe σ vs).set i (some x)).set j (some y)) vs = wipe σ vs) : Ev S n k (tDc (iEnum K ta) (gTup K 2 (gCons (gName i) (gCons (gName j) gNil))) tYes (tVar j) (tVar i) vs) σ G (IsNew G (.dK (dG names names.length))) := fun G1 H1 s0 s Q q =>
  h G1 H1 s0 s _ fun ws G2 H2 s2 e => by
    obtain rfl : ws = [.ref p] := e
    refine ⟨p, names.map V.str, rfl, (s0.trans (s2.g.trans (st.sub s2.s))).seq hq, fun D hD => ?_⟩
    have gD := (st.sub s2.s).free hD
    refine ⟨fun t m J => m = names.length - t ∧ t ≤ names.length ∧ Kp S H2 J ∧ S (n + k) G2 J ∧ J D = some (.dK (dG names t)), ⟨names.length, by omega, by omega, kp_new (Kp.refl H2) hD, st.chg s2.s hD s2.s gD, upd_same⟩, ?_⟩
    rintro t m J ⟨rfl, ht, kJ, sJ, dJ⟩
    have w := walk_enum (K := K) (a := p) (xs := names.map V.str)
    have hqJ := (s0.trans (s2.g.trans (st.sub sJ))).seq hq
    have lm : (names.map V.str).length = names.length := List.length_map _
    by_cases hlt : t < names.length
    · refine .inr ⟨w.goes t J (by omega) hqJ, fun J' => names.length - (t + 1) = names.length - (t + 1) ∧ t + 1 ≤ names.length ∧ Kp S H2 J' ∧ S (n + k) G2 J' ∧ J' D = some (.dK (dG names (t + 1))), fun J' z => ⟨_, by omega, z⟩, fun v J' y => ?_⟩
      obtain ⟨T, x, z, rfl, hT, rfl, ex, ez⟩ := w.yields t J v J' (by omega) hqJ y
      cases ex
      have ez' : z = V.str names[t] := by
        have e2 : (names.map V.str)[t]? = some z := ez
        rw [List.getElem?_map, List.getElem?_eq_getElem hlt] at e2
        exact (Option.some.inj e2).symm
      subst ez'
      have gr := Grow.hid (o := .tup [.int (t : Nat), .str names[t]]) (st.sub sJ) hT
      have sJ' := st.grow sJ gr
      have dJ' := gr.h _ _ dJ
      refine ⟨T, [.int (t : Nat), .str names[t]], rfl, SqT.of upd_same, rfl, _, _, rfl, _, _, rfl, rfl, hw _ _, ?_⟩
      refine tYes_run (iteT ?_)
      refine tVar_run (x := .str names[t]) ?_ (tVar_run (x := .int (t : Nat)) ?_ ⟨_, .inr names[t], rfl, dJ', ?_, rfl, by omega, ?_, ?_, ?_⟩)
      · rw [List.getElem?_set_self (by rw [List.length_set]; exact hlj)]
      · rw [List.getElem?_set_ne (Ne.symm hij), List.getElem?_set_self hli]
      · exact Nat.lt_of_le_of_lt (dG_len names t (by omega)).1 (Nat.lt_of_le_of_lt (Nat.le_trans (Nat.le_of_lt hlt) hl) (by decide))
      · exact kp_new (kJ.trans (Kp.of gr.h)) hD
      · exact st.chg s2.s hD sJ' gD
      · rw [upd_same]
        have e : names.getD t "" = names[t] := by rw [List.getD_eq_getElem?_getD, List.getElem?_eq_getElem hlt]; rfl
        show _ = some (HO.dK (putK (dG names t) (.inr (names.getD t "")) (.int (t : Nat))))
        rw [e]
    · have ht' : t = names.length := by omega
      subst ht'
      refine .inl ⟨by rw [← lm]; exact w.stops J hqJ, ?_⟩
      have g4 : Same G2 (upd G2 D (.dK (dG names names.length))) := fun b o e => by
        rw [upd_ne (ne_of_none e gD)]
        exact e
      refine q (.ref D) (upd G2 D (.dK (dG names names.length))) J ⟨s2.g.trans g4, s2.k.trans kJ, st.pub s2.s hD sJ gD dJ, fun b o e => ?_⟩ ⟨D, rfl, (s0.trans s2.g).free gD, upd_same⟩
      by_cases hb : b = D
      · rw [hb]
        exact .inr (s2.k.v D hD)
      · rw [upd_ne hb] at e
        exact s2.n b o e
/-- of a def with two promises, the first -/
theorem ev_callE1 (st : Stab S) {P : List V → Hp → HR → Prop} {sp2 : Sp} {dvs ws : List V} {E : XK} (h : EvA S n k ta σ G (IsVs ws)) (hp : ∀ G', Same G G' → P (ws ++ dvs) G' R) : Ev S n k (tCall (spE (spP P) sp2) dvs E ta) σ G R := fun G1 H1 s0 s Q q =>
  h G1 H1 s0 s _ fun vs G2 H2 s2 e => by
    obtain rfl := (show vs = ws from e)
    exact .inl ⟨G2, R, st.sub s2.s, hp G2 (s0.trans s2.g), fun v G' H' g r => q v G' H' (s2.trans (st.gro s2.s g)) r⟩
end
/-! ### a maker of one class that is refused -/
def spXC (U C0 : Addr) (PB : List V → Hp → Prop) : Sp := fun vs H Q E => ∃ x dx rest G, vs = .ref x :: rest ∧ H x = some (.ins C0 dx []) ∧ Same G H ∧ G x = none ∧ PB rest G ∧ ∀ fs' G' H', Own G H x (.ins C0 dx fs') 0 G' H' → E (.ref U) none H'
section
variable {S : SR} {n ka kb : Nat} {t tk : TA} {σ : L2.St} {G H : Hp} {C U : Addr} {E : L2.St → XK} {dvs ws zs : List V} {m1 m2 : Nat} {gV : List V → List V → List V} {RA RB : HRs} {P : Addr → List (Str × V) → List V → Hp → OR → Prop} {PB : List V → Hp → Prop} {Q : VK} {R : OR} {sp : Sp}
theorem mkC_ok (st : Stab S) {H3 : Hp} {all : V → List V} {rest : List V} {E1 : XK} (s3 : S n G H3) (hg : ∀ x, all (.ref x) = .ref x :: rest) (hP : P C [] rest G R) (q : ∀ v G' H', Stp S n G H3 G' H' → IsO C R v G' → Q v H') : tMk2 C (spE (spI P) sp) E1 H3 Q all := fun x dx hx hd nd => by
  obtain ⟨a, b⟩ := made_start (C := C) (x := x) (dx := dx) st s3 hx hd
  refine .inl ⟨x, C, dx, [], rest, G, R, hg x, upd_same, a, b, hP, fun fs' G' H' w r => ⟨rfl, ?_⟩⟩
  exact q (.ref x) _ H' (made_stp st s3 hx hd nd w) ⟨x, dx, fs', G', rfl, w.2.1, Same.refl _, r⟩
theorem mkC_bad (st : Stab S) {H3 : Hp} {all : V → List V} {rest : List V} {E1 : XK} (s3 : S n G H3) (hg : ∀ x, all (.ref x) = .ref x :: rest) (hP : PB rest G) (q : ∀ H', Kp S H3 H' → S n G H' → E1 (.ref U) none H') : tMk2 C (spE (spI P) (spXC U C PB)) E1 H3 Q all := fun x dx hx hd nd => by
  obtain ⟨a, b⟩ := made_start (C := C) (x := x) (dx := dx) st s3 hx hd
  refine .inr ⟨x, dx, rest, G, hg x, upd_same, a, b, hP, fun fs' G' H' w => ?_⟩
  have z := made_stp st s3 hx hd nd w
  exact q H' z.k (st.anti s3 z.s z.g)
theorem run_mkCK (st : Stab S) (s : S n G H) (h : EvA S n ka t σ G RA) (hk : ∀ G', Same G G' → EvA S (n + ka) kb tk σ G' RB) (l1 : ∀ vs G', RA vs G' → vs.length = m1) (l2 : ∀ vs G', RB vs G' → vs.length = m2)
    (q : ∀ vs zs G1 G' H', Stp S (n + ka + kb) G H G' H' → Same G1 G' → RA vs G1 → RB zs G' → tMk2 C sp (E σ) H' Q fun x => gV (x :: vs) zs) : tMakeKS C m1 m2 sp gV E t tk σ H Q :=
  h G H (Same.refl _) s _ fun vs G2 H2 s2 e => hk G2 s2.g G2 H2 (Same.refl _) s2.s _ fun zs G3 H3 s3 e' => ⟨l1 vs G2 e, l2 zs G3 e', fun x dx hx hd nd => q vs zs G2 G3 H3 (s2.trans s3) s3.g e e' x dx hx hd nd⟩
/-- name = C(.., k = v).f within a try -/
theorem q_mkCKG {K : PySem.W.Frag} {f : Str} {i : Nat} {u : TS} {nx bk ct : L2.St → Hp → Prop} {rt : VK} (st : Stab S) (s : S n G H) (h : EvA S n ka t σ G RA) (hk : ∀ G', Same G G' → EvA S (n + ka) kb tk σ G' RB) (l1 : ∀ vs G', RA vs G' → vs.length = m1) (l2 : ∀ vs G', RB vs G' → vs.length = m2)
    (q : ∀ vs zs G1 G' H', Stp S (n + ka + kb) G H G' H' → Same G1 G' → RA vs G1 → RB zs G' → tMk2 C sp (E σ) H' (fun v J => tSeq (tAsg (tFld K (tC v) f) (gName i)) u (Ends.mk nx rt bk ct) σ J) fun x => gV (x :: vs) zs) :
    tSeq (tAsg (tFld K (tMakeKS C m1 m2 sp gV E t tk) f) (gName i)) u (Ends.mk nx rt bk ct) σ H := run_mkCK st s h hk l1 l2 q
end
/-! ### what a refused table is -/
def TpOk (names : List Str) (rows : List (List Str)) : Prop := rows.length = names.length ∧ ∀ r ∈ rows, r.length = names.length ∧ ∀ e ∈ r, e ∈ names
def gV5 (names : List Str) (e : Str) : V := (valV (plc names 0) (.inr e)).getD .non
theorem gV5_in {names : List Str} (nd : names.Nodup) {e : Str} (h : e ∈ names) : gV5 names e = .int (names.idxOf e : Nat) := by
  unfold gV5
  rw [plc_some nd (idx_get h), Nat.zero_add]
  rfl
theorem gV5_out {names : List Str} {e : Str} (h : e ∉ names) : gV5 names e = .non := by
  unfold gV5
  rw [plc_none h]
  rfl
theorem gV5_flat {names : List Str} (nd : names.Nodup) (e : Str) : flatV (gV5 names e) = true := by
  by_cases h : e ∈ names
  · rw [gV5_in nd h]
    rfl
  · rw [gV5_out h]
    rfl
theorem inV_gV5 {names : List Str} {r : List Str} {e : Str} (he : e ∈ r) (hn : e ∉ names) : inV .non (r.map (gV5 names)) = true := by
  unfold inV
  exact List.any_eq_true.mpr ⟨.non, List.mem_map.mpr ⟨e, he, gV5_out hn⟩, rfl⟩
def IsGR5 (names r : List Str) : HR := fun v G => ∃ p, v = .ref p ∧ G p = some (.lst (r.map (gV5 names)))
instance (names r) : Mon (IsGR5 names r) := ⟨fun s ⟨p, e, h⟩ => ⟨p, e, s _ _ h⟩⟩
def sp_tpX (CB : Addr) : Sp := fun vs H Q E => ∃ (pd pt : Addr) (names : List Str) (rows : List (List Str)) (G : Hp), vs = [.ref pd, .ref pt] ∧ Same G H ∧ G pd = some (.dK (plc names 0)) ∧ names.Nodup ∧ names.length ≤ 100 ∧ TabS G pt rows ∧ rows.length ≤ 1000 ∧ (∀ r ∈ rows, r.length ≤ 1000) ∧ ¬ TpOk names rows ∧ ∀ H', Grow G H G H' → E (.ref CB) none H'
def PTbX : List V → Hp → Prop := fun rest G => ∃ (pn pj pp : Addr) (names : List Str) (joins products : List (List Str)) (never still : Str), rest = [.ref pn, .ref pj, .ref pp, .str never, .str still] ∧ G pn = some (.lst (names.map V.str)) ∧ TabS G pj joins ∧ TabS G pp products ∧ names.length ≤ 100 ∧ (∀ nm ∈ names, nm.length ≤ 1000) ∧ joins.length ≤ 1000 ∧ products.length ≤ 1000 ∧ (∀ r ∈ joins, r.length ≤ 1000) ∧ (∀ r ∈ products, r.length ≤ 1000) ∧ ¬ TbOk names joins products never still
end L2.DS
namespace L2.DS
open PySem PySem.Spec PyProof.Rows
/-- a def that never raises may stand where one may -/
theorem fnOk_cx {P : Program} {w : World} {K : PySem.W.Frag} {mg : Str → Option Value} {base : Heap} {CX : CXT} {k : Nat} {f : Addr} {fd : FuncData} {ps : List Str} {sp : Sp} (F : FnOk P w K mg base CX0 k f fd ps sp) : FnOk P w K mg base CX k f fd ps sp :=
  ⟨F.len, fun A outer s H args us vs Q E hr h0 hb hv h => codeAny_mono (F.run A outer s H args us vs Q E hr h0 hb hv h) fun r s' hq => by
    cases r with
    | error e => exact (show False from hq).elim
    | ok v =>
      cases v <;> exact hq⟩
end L2.DS
namespace L2.DS
open PySem PySem.Spec PyProof.Rows
def top (i : Nat) : Stmt := PySem.Challenge.pw_deedscale_k05_bad_tables.main.body.getD i (.Pass ⟨0, 0, 0, 0⟩)
local macro_rules | `(tactic| walk_at "sq") => `(tactic| first | assumption | exact SqL.of (by assumption) | exact SqT.of (by assumption) | (refine Same.seq (by assumption) ?_; walk_at "sq") | (refine same_t (by assumption) ?_; walk_at "sq"))
local macro_rules | `(tactic| walk_at "sd") => `(tactic| first | assumption | omega | decide | (simp; done) | (simp_all; done))
local macro_rules | `(tactic| walk_at "rv") => `(tactic| first
  | with_reducible exact v_add (by assumption) | with_reducible exact v_sub (by assumption) | with_reducible exact v_lt (by assumption) | with_reducible exact v_le (by assumption) | with_reducible exact v_gt (by assumption) | with_reducible exact v_ge (by assumption)
  | with_reducible exact v_eqI (by assumption) | with_reducible exact v_eqB (by assumption) | with_reducible exact v_eqS (by assumption) | with_reducible exact v_neI (by assumption) | with_reducible exact v_neS (by assumption)
  | ((with_reducible refine v_mod (by assumption) ?_); walk_at "sd") | ((with_reducible refine v_mul (by assumption) ?_); first | exact .inl ⟨by omega, by omega⟩ | exact .inr ⟨by omega, by omega⟩) | ((with_reducible refine v_div (by assumption) ?_); exact ⟨by omega, by omega⟩)
  | ((with_reducible apply v_ixL); assumption; walk_at "sq"; walk_at "sd") | ((with_reducible apply v_ixT); assumption; walk_at "sq"; walk_at "sd")
  | exact v_isN (by assumption) | exact v_notN (by assumption))
local macro_rules | `(tactic| walk_at "rc") => `(tactic| first
  | ((with_reducible apply c_lenL); assumption; walk_at "sq") | ((with_reducible apply c_lenT); assumption; walk_at "sq") | with_reducible exact c_abs (by assumption) | with_reducible exact c_int (by assumption) | with_reducible exact c_intB (by assumption))
local macro_rules | `(tactic| walk_at "ev") => `(tactic| first
  | with_reducible exact ev_c
  | ((with_reducible apply ev_var); rfl)
  | ((with_reducible apply ev_opV); walk_at "ev"; walk_at "ev"; walk_at "rv")
  | ((with_reducible apply ev_unV); walk_at "ev"; exact u_neg (by assumption))
  | ((with_reducible apply ev_ifV); assumption; walk_at "et"; (intro _; walk_at "ev"); (intro _; walk_at "ev"))
  | ((with_reducible apply ev_cbV); walk_at "ea"; walk_at "rc")
  | ((with_reducible apply ev_andV); assumption; walk_at "ev"; (intro _; walk_at "ev"))
  | ((with_reducible apply ev_orV); assumption; walk_at "ev"; (intro _; walk_at "ev"))
  | ((with_reducible apply ev_notV); walk_at "ev")
  | assumption)
local macro_rules | `(tactic| walk_at "ea") => `(tactic| first
  | with_reducible exact ea_nilV
  | ((with_reducible apply ea_consV); walk_at "ev"; walk_at "ea"))
local macro_rules | `(tactic| walk_at "et") => `(tactic| first
  | ((with_reducible apply et_testV); walk_at "ev")
  | ((with_reducible apply et_B); walk_at "ev")
  | ((with_reducible apply et_and); assumption; walk_at "et"; (intro _; walk_at "et"))
  | ((with_reducible apply et_or); assumption; walk_at "et"; (intro _; walk_at "et"))
  | ((with_reducible apply et_not); walk_at "et"))
local macro_rules | `(tactic| walk_at "qn") => `(tactic| repeat (with_reducible refine q_end ?_))
local macro_rules | `(tactic| walk_at "qif") => `(tactic| (walk_at "qn"; (with_reducible apply q_if); assumption; assumption; walk_at "et"))
local macro_rules | `(tactic| walk_at "qret") => `(tactic| (walk_at "qn"; (with_reducible apply q_retV); assumption; assumption; walk_at "ev"))
local macro_rules | `(tactic| walk_at "qset") => `(tactic| (walk_at "qn"; (with_reducible apply q_setV); assumption; assumption; walk_at "ev"))
section
variable {P : Program} {w : World} {K : PySem.W.Frag} {mg : Str → Option Value} {base : Heap}
theorem getInt {ns : List Int} {j : Nat} {x : V} (h : (ns.map V.int)[j]? = some x) : ∃ i, ns[j]? = some i ∧ x = .int i := by
  rw [List.getElem?_map] at h
  cases e : ns[j]? with
  | none => rw [e] at h; cases h
  | some i => rw [e] at h; exact ⟨i, rfl, (Option.some.inj h).symm⟩
theorem mapRange {ns : List Int} (g : Int → Int) {x : Nat → V} (m : Nat) (hm : m = ns.length) (h : ∀ j i, ns[j]? = some i → x j = .int (g i)) : (List.range m).map x = (ns.map g).map V.int := by
  subst hm
  refine List.ext_getElem? fun j => ?_
  rw [List.getElem?_map, List.getElem?_map, List.getElem?_map]
  by_cases hj : j < ns.length
  · rw [List.getElem?_range hj, List.getElem?_eq_getElem hj]
    show some (x j) = some (V.int (g ns[j]))
    rw [h j _ (List.getElem?_eq_getElem hj)]
  · rw [List.getElem?_eq_none (l := List.range ns.length) (by rw [List.length_range]; omega), List.getElem?_eq_none (l := ns) (by omega)]
    rfl
theorem getRev {ns : List Int} {j : Nat} (hj : j < ns.length) : atI (ns.map V.int) (((ns.map V.int).length : Int) - 1 - (j : Int)) = some (.int (ns.getD (ns.length - 1 - j) 0)) := by
  rw [show (((ns.map V.int).length : Nat) : Int) = (ns.length : Int) by rw [List.length_map]]
  have e : ((ns.length : Int) - 1 - (j : Int)) = ((ns.length - 1 - j : Nat) : Int) := by omega
  have h1 : ixN ns.length ((ns.length - 1 - j : Nat) : Int) = some (ns.length - 1 - j) := by
    unfold ixN
    rw [if_pos (by omega), if_pos (by omega)]
    all_goals rfl
  unfold atI
  rw [e, List.length_map, h1]
  show (ns.map V.int)[ns.length - 1 - j]? = _
  rw [List.getElem?_map, List.getElem?_eq_getElem (by omega), List.getD_eq_getElem?_getD, List.getElem?_eq_getElem (by omega)]
  rfl
theorem merge_src {cl : Addr} {l m t : Int} : mergeK [] (srcK cl l m t) = srcK cl l m t := by
  have a := ne_lc
  have b := ne_mc
  have c := ne_tc
  have d := ne_ml
  have e := ne_tl
  have f := ne_tm
  simp [mergeK, srcK, putK, a, b, c, d, e, f]
abbrev s__law_source : Stmt := top 12
theorem sc__law_source : FnScope ["_law_script", "_law_mixed", "_law_cell", "_law_cells", "_law_k"] ["_law_script"] (defScope s__law_source) := ⟨rfl, rfl, rfl, by decide +kernel, rfl, by decide +kernel, by decide +kernel⟩
theorem ok_source {f : Addr} {fd : FuncData} (Z : Bi mg) (F : Fun K "_law_source" "_law_source" s__law_source f fd) : FnOk P w K mg base CX0 1 f fd ["_law_script"] (sp_source K) := by
  refine F.ok sc__law_source (fun vs H Q E h => ?_) (fun cdv A outer s H vs Q E hr h => ?_)
  · obtain ⟨p, ns, rfl, _⟩ := h
    rfl
  · obtain ⟨p, ns, rfl, hq, hl, q⟩ := h
    refine ⟨_, (pss_cons (ps_set (i := 1) sc__law_source.nd rfl (Or.inl rfl) pe_int)
  (pss_cons (ps_for PassesOwn.never rfl (pi_listK K (pv 0)) (pg_name (i := 2) sc__law_source.nd rfl (Or.inl rfl)) (pss_cons (ps_set (i := 1) sc__law_source.nd rfl (Or.inl rfl) (pe_op op_modA (pe_callTy call_intA (by rfl) Z.z_int (by decide +kernel) (pa_cons (pe_op op_addA (pe_op op_addA (pe_op op_mulA (pv 1) pe_int) (pe_op op_mulA (pv 2) pe_int)) pe_int) pa_nil)) pe_int))
  pss_nil))
  (pss_cons (ps_set (i := 3) sc__law_source.nd rfl (Or.inr rfl) (pe_lc (own := [("_law_cell", 2)]) (g := (gName 2)) rfl sc__law_source.nd (pi_listK K (pv 0)) (blkOk_by (by kernel_rfl)) (fun _ _ _ _ _ => (pg_name (i := 2) sc__law_source.nd rfl (Or.inl rfl))) (fun _ _ _ _ _ => pts_nil) (fun _ _ _ _ _ => (pe_callB call_absA (by rfl) Z.z_abs (by decide +kernel) (pa_cons (pv 2) pa_nil)))))
  (pss_cons (ps_ret (pe_disp (pps_cons pe_str (pe_lc (own := [("_law_k", 4)]) (g := (gName 4)) rfl sc__law_source.nd (pi_range1 (by rfl) Z.z_range (pa_cons (pe_callB (call_lenA K) (by rfl) Z.z_len PySem.boot_len (pa_cons (pv 3) pa_nil)) pa_nil)) (blkOk_by (by kernel_rfl)) (fun _ _ _ _ _ => (pg_name (i := 4) sc__law_source.nd rfl (Or.inl rfl))) (fun _ _ _ _ _ => pts_nil) (fun _ _ _ _ _ => (pe_ix (ix_any K (hu_of hr)) (pv 3) (pe_op op_subA (pe_op op_subA (pe_callB (call_lenA K) (by rfl) Z.z_len PySem.boot_len (pa_cons (pv 3) pa_nil)) pe_int) (pv 4)) (fun _ _ => rfl)))) (pps_cons pe_str pe_int (pps_cons pe_str (pv 1) (pps_cons pe_str pe_int pps_nil)))) (by rfl) (by rfl) (fun z => by cases z) (by decide)))
  pss_nil)))), ?_⟩
    have st := stab0 H H
    have hS : SP0 H H 0 H H := Grow.refl (Same.refl H)
    show tSeq _ _ (Ends.mk _ _ _ _) [some _, none, none, none, none] _
    walk_at "qset"
    intro H1 k1 h1
    walk_at "qn"
    refine q_forL st h1 (ev_var rfl) hq (fun _ => 0) (fun j σ' G' H' => ∃ m c, 0 ≤ m ∧ m < 2147483629 ∧ σ' = [some (.ref p), some (.int m), c, none, none]) rfl (fun H2 k2 h2 => ⟨11, none, by decide, by decide, rfl⟩) (fun j x σ' G' H2 hx s2 h2 hp => ?_) (fun σ' G' H2 s2 h2 hp => ?_)
    · obtain ⟨m, c, hm0, hm1, rfl⟩ := hp
      obtain ⟨i, hi, rfl⟩ := getInt hx
      show tSeq _ _ (Ends.mk _ _ _ _) [some (.ref p), some (.int m), some (.int i), none, none] _
      have e1 : CMul m 69069 := .inr ⟨by decide, by decide⟩
      have e2 : CMul i 31 := .inr ⟨by decide, by decide⟩
      refine q_setV st h2 (ev_opV (ev_cbV (ea_consV (ev_opV (ev_opV (ev_opV (ev_var rfl) ev_c (v_mul st e1)) (ev_opV (ev_var rfl) ev_c (v_mul st e2)) (v_add st)) ev_c (v_add st)) ea_nilV) (c_int st)) ev_c (v_mod st (by decide))) fun H3 k3 h3 => ?_
      refine q_end ⟨G', s2, st.wk h3 (by omega), _, _, Int.emod_nonneg _ (by decide), Int.emod_lt_of_pos _ (by decide), rfl⟩
    · obtain ⟨m, c, hm0, hm1, rfl⟩ := hp
      walk_at "qn"
      refine q_set h2 (ev_lcL (c1 := 0) st (fun j => IsV (.int (if ns.getD j 0 < 0 then -ns.getD j 0 else ns.getD j 0))) (ev_var rfl) (s2.seq hq) (by rw [List.length_map]; exact hl) (fun j x G2 hx s3 => ?_) (fun x => rfl)) fun v G3 H3 s3 hv => ?_
      · obtain ⟨i, hi, rfl⟩ := getInt hx
        have e : ns.getD j 0 = i := by rw [List.getD_eq_getElem?_getD, hi]; rfl
        rw [e]
        exact ev_cbV (ea_consV (ev_var rfl) ea_nilV) (c_abs st)
      · obtain ⟨pl, rfl, hpl⟩ := isLR_V (K := K) hv.lr
        rw [mapRange (ns := ns) (fun i => if i < 0 then -i else i) _ (by rw [List.length_map]) (fun j i h => by rw [List.getD_eq_getElem?_getD, h]; rfl)] at hpl
        generalize hc : ns.map (fun i : Int => if i < 0 then -i else i) = cs at hpl
        have lc : cs.length = ns.length := by rw [← hc, List.length_map]
        have cp : ∀ c ∈ cs, 0 ≤ c := by
          intro c h
          rw [← hc] at h
          obtain ⟨i, _, rfl⟩ := List.mem_map.mp h
          show 0 ≤ (if i < 0 then -i else i)
          split <;> omega
        walk_at "qn"
        show tDisp _ _ _ Q
        intro sa hsa
        have sH3 : Same H H3 := s3.s.h
        have sA : Same G3 (upd H3 sa (.dK [])) := fun b o e => by
          rw [upd_ne (ne_of_none (s3.s.s b o e) hsa)]
          exact s3.s.s b o e
        have stA := stab0 G3 (upd H3 sa (.dK []))
        have hA : SP0 G3 (upd H3 sa (.dK [])) 0 G3 (upd H3 sa (.dK [])) := Grow.refl sA
        unfold tPairs
        refine tC_run ?_
        show tLc _ _ _ _ _ _ _ _
        refine ev_lcR (c1 := 0) stA (fun j => IsV (.int (cs.getD (cs.length - 1 - j) 0))) (ea_consV (ev_cbV (ea_consV (ev_var rfl) ea_nilV) (c_lenL stA hpl)) ea_nilV) (by omega) (by rw [List.length_map]; omega) (fun j G4 hj s4 => ?_) (fun x => rfl) G3 _ (Same.refl _) hA _ fun v G4 H4 s4 hv4 => ?_
        · rw [List.length_map] at hj
          exact ev_opV (ev_var rfl) (ev_opV (ev_opV (ev_cbV (ea_consV (ev_var rfl) ea_nilV) (c_lenL stA (s4.seq hpl))) ev_c (v_sub stA)) (ev_var rfl) (v_sub stA)) (v_ixL stA (s4.seq hpl) (getRev (by omega)))
        · obtain ⟨cl, ys, rfl, f4, h4, l4, r4⟩ := hv4
          have hsa4 : H4 sa = some (.dK []) := s4.k.k sa _ (fun z => z) upd_same
          have l5 : ys.length = cs.length := by rw [l4, Int.toNat_natCast, List.length_map]
          have ecl : ys = ((List.range cs.length).map fun j => cs.getD (cs.length - 1 - j) 0).map V.int := by
            refine List.ext_getElem? fun j => ?_
            by_cases hj : j < cs.length
            · have q1 : ys[j]? = some ys[j] := List.getElem?_eq_getElem (by omega)
              rw [q1, show ys[j] = V.int (cs.getD (cs.length - 1 - j) 0) from r4 j _ q1, List.getElem?_map, List.getElem?_map, List.getElem?_range hj]
              rfl
            · rw [List.getElem?_eq_none (by omega), List.getElem?_eq_none (by rw [List.length_map, List.length_map, List.length_range]; omega)]
          have hcl : H4 cl = some (.lst (((List.range cs.length).map fun j => cs.getD (cs.length - 1 - j) 0).map V.int)) := by
            rw [← ecl]
            exact (stA.sub s4.s) _ _ h4
          have nsa : cl ≠ sa := fun z => by
            rw [z, hsa4] at hcl
            cases hcl
          unfold tPairs
          refine tC_run (tC_run ?_)
          unfold tPairs
          refine tC_run (tVar_run rfl ?_)
          unfold tPairs
          refine tC_run (tC_run ?_)
          unfold tPairs
          refine ⟨hsa4, srcK cl 1 m 0, rfl, (by decide : 4 ≤ 15), ?_⟩
          rw [merge_src]
          refine q sa cl _ (fun b o e => ?_) (sH3.free hsa) ((s2.trans s3.g).free f4) ⟨_, 1, m, 0, upd_same, by rw [upd_ne nsa]; exact hcl, fun c hc => ?_, by decide, hm0, hm1, by decide, by decide⟩
          · have e3 := sH3 b o e
            have nb := ne_of_none e3 hsa
            rw [upd_ne nb]
            exact s4.k.k b o (fun z => z) (by rw [upd_ne nb]; exact e3)
          · obtain ⟨j, hj, rfl⟩ := List.mem_map.mp hc
            have := List.mem_range.mp hj
            rw [List.getD_eq_getElem?_getD, List.getElem?_eq_getElem (by omega)]
            exact cp _ (List.getElem_mem _)
abbrev s__law_pick : Stmt := top 13
theorem sc__law_pick : FnScope ["_law_source_here", "_law_many", "_law_cells", "_law_left", "_law_turn", "_law_mixed"] ["_law_source_here", "_law_many"] (defScope s__law_pick) := ⟨rfl, rfl, rfl, by decide +kernel, rfl, by decide +kernel, by decide +kernel⟩
theorem kp_upd {S : SR} {H J : Hp} {a : Addr} {o : HO} (k : Kp S H J) (m : S.m a) : Kp S H (upd J a o) := ⟨fun b u nm e => by
  rw [upd_ne (fun z => nm (by rw [z]; exact m))]
  exact k.k b u nm e, fun b e => by
  by_cases hb : b = a
  · rw [hb, upd_same] at e
    cases e
  · rw [upd_ne hb] at e
    exact k.v b e⟩
theorem src_end {sa cl : Addr} {n : Nat} {G H F : Hp} (sG : Same G H) (gs : G sa = none) (gc : G cl = none) (k : Kp (Src sa cl) H F) (h : SrcAt sa cl n F) : Stp (Src sa cl) n G H G F :=
  ⟨Same.refl _, k, ⟨fun b o e => k.k b o (fun z => by
    rcases z with z | z
    · rw [z, gs] at e
      cases e
    · rw [z, gc] at e
      cases e) (sG b o e), gs, gc, h⟩, fun _ _ e => .inl e⟩
/-- cells are popped until a number is left -/
def PopAt (st cl : Addr) (mx t : Int) (H0 : Hp) (cs : List Int) (l : Int) (H : Hp) : Prop := Kp (Src st cl) H0 H ∧ H st = some (srcD cl l mx t) ∧ H cl = some (.lst (cs.map V.int)) ∧ (∀ c ∈ cs, 0 ≤ c) ∧ 0 ≤ l
theorem ok_pick {f : Addr} {fd : FuncData} (Z : Bi mg) (F : Fun K "_law_pick" "_law_pick" s__law_pick f fd) : FnOk P w K mg base CX0 1 f fd ["_law_source_here", "_law_many"] sp_pick := by
  refine F.ok sc__law_pick (fun vs H Q E h => ?_) (fun cdv A outer s H vs Q E hr h => ?_)
  · obtain ⟨_, _, _, _, _, _, _, ⟨_, rfl, _⟩, _⟩ := h
    rfl
  · obtain ⟨sa, cl, n, k, G, R, hS, ⟨many, rfl, hm1, hm2, rfl, rfl⟩, q⟩ := h
    refine ⟨_, (pss_cons (ps_if (pt_cmpR op_ltA (pv 1) pe_int (nomark _)) (pss_cons (ps_ret pe_int)
  pss_nil) pss_nil)
  (pss_cons (ps_set (i := 2) sc__law_pick.nd rfl (Or.inl rfl) (pe_ix (ix_any K (hu_of hr)) (pv 0) pe_str (fun _ _ => rfl)))
  (pss_cons (ps_while PassesOwn.never (PW.pt (pw_and (pt_cmpR op_ltA (pe_ix (ix_any K (hu_of hr)) (pv 0) pe_str (fun _ _ => rfl)) pe_int (nomark _)) (pw_and1 (pt_cmpR op_gtA (pe_callB (call_lenA K) (by rfl) Z.z_len PySem.boot_len (pa_cons (pv 2) pa_nil)) pe_int (nomark _))))) (pss_cons (ps_asg (pe_bm0 PySem.F.plainAttrs_list PySem.F.slot_list_pop PySem.F.type_list_pop mt_pop (pv 2)) (pg_sub (pv 0) pe_str (set_any (hu_of hr))))
  pss_nil))
  (pss_cons (ps_set (i := 3) sc__law_pick.nd rfl (Or.inl rfl) (pe_ix (ix_any K (hu_of hr)) (pv 0) pe_str (fun _ _ => rfl)))
  (pss_cons (ps_if (pt_cmpR op_gtA (pv 3) pe_int (nomark _)) (pss_cons (ps_asg (pe_op op_divA (pv 3) (pv 1)) (pg_sub (pv 0) pe_str (set_any (hu_of hr))))
  (pss_cons (ps_ret (pe_op op_modA (pe_callTy call_intA (by rfl) Z.z_int (by decide +kernel) (pa_cons (pv 3) pa_nil)) (pv 1)))
  pss_nil)) pss_nil)
  (pss_cons (ps_asg (pe_op op_addA (pe_ix (ix_any K (hu_of hr)) (pv 0) pe_str (fun _ _ => rfl)) pe_int) (pg_sub (pv 0) pe_str (set_any (hu_of hr))))
  (pss_cons (ps_set (i := 4) sc__law_pick.nd rfl (Or.inl rfl) (pe_ix (ix_any K (hu_of hr)) (pv 0) pe_str (fun _ _ => rfl)))
  (pss_cons (ps_set (i := 5) sc__law_pick.nd rfl (Or.inl rfl) (pe_op op_modA (pe_callTy call_intA (by rfl) Z.z_int (by decide +kernel) (pa_cons (pe_op op_addA (pe_ix (ix_any K (hu_of hr)) (pv 0) pe_str (fun _ _ => rfl)) (pe_op op_mulA (pv 4) pe_int)) pa_nil)) pe_int))
  (pss_cons (ps_set (i := 5) sc__law_pick.nd rfl (Or.inl rfl) (pe_op op_modA (pe_callTy call_intA (by rfl) Z.z_int (by decide +kernel) (pa_cons (pe_op op_addA (pe_op op_mulA (pv 5) (pv 5)) (pe_op op_mulA (pv 4) pe_int)) pa_nil)) pe_int))
  (pss_cons (ps_if (pt_cmpR op_gtA (pv 1) (pe_op op_pow pe_int pe_int) (nomark _)) (pss_cons (ps_set (i := 5) sc__law_pick.nd rfl (Or.inl rfl) (pe_op op_pow (pe_callTy call_intA (by rfl) Z.z_int (by decide +kernel) (pa_cons (pe_op op_addA (pe_op op_mulA (pv 5) pe_int) (pv 4)) pa_nil)) pe_int))
  pss_nil) pss_nil)
  (pss_cons (ps_ret (pe_op op_modA (pe_callTy call_intA (by rfl) Z.z_int (by decide +kernel) (pa_cons (pe_op op_divA (pv 5) pe_int) pa_nil)) (pv 1)))
  pss_nil))))))))))), ?_⟩
    obtain ⟨sG, gs, gc, cs, l, mx, t, hsa, hcl, hcs, hl0, hx0, hx1, ht0, ht1⟩ := hS
    have nsc : sa ≠ cl := ne_of hsa hcl (by intro z; cases z)
    have st := stab0 H H
    have h0 : SP0 H H 0 H H := Grow.refl (Same.refl H)
    show tSeq _ _ (Ends.mk _ _ _ _) [some _, some _, none, none, none, none] _
    refine q_if st h0 (et_testV (ev_opV (ev_var rfl) ev_c (v_lt st))) (fun H1 p k1 h1 => ?_) (fun H1 p k1 h1 => ?_)
    · refine q_retV st h1 ev_c fun H2 k2 h2 => ?_
      have p : many < 2 := by simpa using p
      have kk := k1.trans k2
      refine q _ G H2 ⟨Same.refl _, ⟨fun b o _ e => kk.k b o (fun z => z) e, kk.v⟩, ⟨fun b o e => h2.s _ _ (sG b o e), gs, gc, cs, l, mx, t, h2.s _ _ hsa, h2.s _ _ hcl, hcs, hl0, hx0, hx1, ht0, by omega⟩, fun _ _ e => .inl e⟩ ⟨0, ⟨by decide, .inr ⟨p, rfl⟩⟩, rfl⟩
    · have p : 2 ≤ many := by simpa using p
      refine q_end ?_
      refine q_setV st h1 (ev_opV (ev_var rfl) ev_c (v_ixDs st hsa src_c)) fun H2 k2 h2 => ?_
      have hPop : PopAt sa cl mx t H cs l H2 := ⟨⟨fun b o _ e => (k1.trans k2).k b o (fun z => z) e, (k1.trans k2).v⟩, h2.s _ _ hsa, h2.s _ _ hcl, hcs, hl0⟩
      clear hsa hcl
      refine ⟨fun m σ' J => σ' = [some (.ref sa), some (.int many), some (.ref cl), none, none, none] ∧ ∃ cs l, m = cs.length ∧ PopAt sa cl mx t H cs l J, ⟨cs.length, rfl, cs, l, rfl, hPop⟩, ?_⟩
      clear hPop hcs hl0 cs l
      rintro m σ' J ⟨rfl, cs, l, rfl, kJ, hsa, hcl, hcs, hl0⟩
      have stJ := stab0 J J
      have hJ : SP0 J J 0 J J := Grow.refl (Same.refl J)
      refine et_and stJ (et_testV (ev_opV (ev_opV (ev_var rfl) ev_c (v_ixDs stJ hsa src_l)) ev_c (v_lt stJ))) (fun _ => et_testV (ev_opV (ev_cbV (ea_consV (ev_var rfl) ea_nilV) (c_lenL stJ (SqL.of hcl))) ev_c (v_gt stJ))) J J (Same.refl _) hJ _ fun b G2 J2 s2 e => ?_
      have sJ := s2.same
      have kJ2 : Kp (Src sa cl) H J2 := kJ.trans ⟨fun b o _ e => sJ b o e, fun b h => sJ.free h⟩
      have hsa2 := sJ _ _ hsa
      have hcl2 := sJ _ _ hcl
      cases b with
      | true =>
        rw [if_pos rfl]
        have e := (Bool.and_eq_true _ _).mp e.symm
        have e1 : 0 < cs.length := by have := e.2; simpa using this
        refine ⟨fun σ3 J3 => ∃ m', m' < cs.length ∧ σ3 = [some (.ref sa), some (.int many), some (.ref cl), none, none, none] ∧ ∃ cs l, m' = cs.length ∧ PopAt sa cl mx t H cs l J3, fun _ _ z => z, ?_⟩
        have ed : (cs.map V.int).dropLast = cs.dropLast.map V.int := by rw [List.map_dropLast]
        have hy : (cs.map V.int)[(cs.map V.int).length - 1]? = some (.int (cs.getD (cs.length - 1) 0)) := by
          rw [List.length_map, List.getElem?_map, List.getElem?_eq_getElem (by omega), List.getD_eq_getElem?_getD, List.getElem?_eq_getElem (by omega)]
          rfl
        refine ⟨_, rfl, .inl ⟨rfl, _, SqL.of hcl2⟩, cl, _, _, rfl, rfl, hcl2, hy, ?_⟩
        rw [ed]
        have hs3 : upd J2 cl (.lst (cs.dropLast.map V.int)) sa = some (srcD cl l mx t) := by rw [upd_ne nsc]; exact hsa2
        refine ⟨_, rfl, tC_run (.inr ⟨sa, _, rfl, DPut.k (k := .inr ("left" : Str)) hs3 src_len, ?_⟩)⟩
        rw [put_l]
        refine ⟨cs.length - 1, by omega, rfl, cs.dropLast, cs.getD (cs.length - 1) 0, by rw [List.length_dropLast], kp_upd (kp_upd kJ2 (.inr rfl)) (.inl rfl), upd_same, by rw [upd_ne (Ne.symm nsc)]; exact upd_same, fun c hc => hcs c (List.dropLast_subset _ hc), ?_⟩
        rw [List.getD_eq_getElem?_getD, List.getElem?_eq_getElem (by omega)]
        exact hcs _ (List.getElem_mem _)
      | false =>
        rw [if_neg (by decide)]
        have e : 2 ≤ l ∨ cs = [] := by
          by_cases h2 : l < 2
          · simp [h2] at e
            exact .inr e
          · exact .inl (by omega)
        generalize hB : J2 = B at *
        have stB := stab0 B B
        have hB : SP0 B B 0 B B := Grow.refl (Same.refl B)
        refine q_setV stB hB (ev_opV (ev_var rfl) ev_c (v_ixDs stB hsa2 src_l)) fun C1 kc1 hc1 => ?_
        refine q_if stB hc1 (et_testV (ev_opV (ev_var rfl) ev_c (v_gt stB))) (fun C2 p2 kc2 hc2 => ?_) (fun C2 p2 kc2 hc2 => ?_)
        · have p2 : 1 < l := by simpa using p2
          refine (ev_opV (ev_var rfl) (ev_var rfl) (v_divW stB (wide_div (b := 2000) (by omega) (by omega) (by decide) (by decide)))) B C2 (Same.refl _) hc2 _ fun v G3 C3 s3 ev => ?_
          obtain rfl : v = _ := ev
          have s3 := s3.same
          have hsa3 : C3 sa = some (srcD cl l mx t) := s3 _ _ (hc2.s _ _ hsa2)
          refine ⟨_, rfl, tC_run (.inr ⟨sa, _, rfl, DPut.k (k := .inr ("left" : Str)) hsa3 src_len, ?_⟩)⟩
          rw [put_l]
          show tSeq _ _ (Ends.mk _ _ _ _) [some (.ref sa), some (.int many), some (.ref cl), some (.int l), none, none] (upd C3 sa (srcD cl (l / many) mx t))
          have kE : Kp (Src sa cl) H (upd C3 sa (srcD cl (l / many) mx t)) := kp_upd ((kJ2.trans (Kp.of hc2.s)).trans (Kp.of s3)) (.inl rfl)
          have hE1 : upd C3 sa (srcD cl (l / many) mx t) sa = some (srcD cl (l / many) mx t) := upd_same
          have hE2 : upd C3 sa (srcD cl (l / many) mx t) cl = some (.lst (cs.map V.int)) := by
            rw [upd_ne (Ne.symm nsc)]
            exact s3 _ _ (hc2.s _ _ hcl2)
          generalize upd C3 sa (srcD cl (l / many) mx t) = C at *
          have stE := stab0 C C
          have hE : SP0 C C 0 C C := Grow.refl (Same.refl C)
          refine q_retV stE hE (ev_opV (ev_cbV (ea_consV (ev_var rfl) ea_nilV) (c_int stE)) (ev_var rfl) (v_mod stE (j := many) (by omega))) fun F kf hf => ?_
          exact q _ G F (src_end sG gs gc (kE.trans (Kp.of hf.s)) ⟨cs, _, mx, t, hf.s _ _ hE1, hf.s _ _ hE2, hcs, Int.ediv_nonneg hl0 (by omega), hx0, hx1, ht0, by omega⟩) ⟨_, ⟨Int.emod_nonneg _ (by omega), .inl (Int.emod_lt_of_pos _ (by omega))⟩, rfl⟩
        · have p2 : ¬ 1 < l := by simpa using p2
          refine q_end ?_
          refine (ev_opV (ev_opV (ev_var rfl) ev_c (v_ixDs stB hsa2 src_t)) ev_c (v_add stB)) B C2 (Same.refl _) hc2 _ fun v G3 C3 s3 ev => ?_
          obtain rfl : v = _ := ev
          have s3 := s3.same
          have hsa3 : C3 sa = some (srcD cl l mx t) := s3 _ _ (hc2.s _ _ hsa2)
          refine ⟨_, rfl, tC_run (.inr ⟨sa, _, rfl, DPut.k (k := .inr ("turn" : Str)) hsa3 src_len, ?_⟩)⟩
          rw [put_t]
          show tSeq _ _ (Ends.mk _ _ _ _) [some (.ref sa), some (.int many), some (.ref cl), some (.int l), none, none] (upd C3 sa (srcD cl l mx (t + 1)))
          have kE : Kp (Src sa cl) H (upd C3 sa (srcD cl l mx (t + 1))) := kp_upd ((kJ2.trans (Kp.of hc2.s)).trans (Kp.of s3)) (.inl rfl)
          have hE1 : upd C3 sa (srcD cl l mx (t + 1)) sa = some (srcD cl l mx (t + 1)) := upd_same
          have hE2 : upd C3 sa (srcD cl l mx (t + 1)) cl = some (.lst (cs.map V.int)) := by
            rw [upd_ne (Ne.symm nsc)]
            exact s3 _ _ (hc2.s _ _ hcl2)
          generalize upd C3 sa (srcD cl l mx (t + 1)) = C at *
          have stE := stab0 C C
          have hE : SP0 C C 0 C C := Grow.refl (Same.refl C)
          refine q_setV stE hE (ev_opV (ev_var rfl) ev_c (v_ixDs stE hE1 src_t)) fun F1 kf1 hf1 => ?_
          refine q_setV stE hf1 (ev_opV (ev_cbV (ea_consV (ev_opV (ev_opV (ev_var rfl) ev_c (v_ixDs stE hE1 src_m)) (ev_opV (ev_var rfl) ev_c (v_mul stE (.inr ⟨by decide, by decide⟩))) (v_add stE)) ea_nilV) (c_int stE)) ev_c (v_mod stE (by decide))) fun F2 kf2 hf2 => ?_
          have r1 : 0 ≤ (mx + (t + 1) * 104729) % 998244353 := Int.emod_nonneg _ (by decide)
          have r2 : (mx + (t + 1) * 104729) % 998244353 < 998244353 := Int.emod_lt_of_pos _ (by decide)
          generalize (mx + (t + 1) * 104729) % 998244353 = m1 at *
          refine q_setV stE hf2 (ev_opV (ev_cbV (ea_consV (ev_opV (ev_opV (ev_var rfl) (ev_var rfl) (v_mul stE (.inl ⟨by omega, by omega⟩))) (ev_opV (ev_var rfl) ev_c (v_mul stE (.inr ⟨by decide, by decide⟩))) (v_add stE)) ea_nilV) (c_int stE)) ev_c (v_mod stE (by decide))) fun F3 kf3 hf3 => ?_
          have r3 : 0 ≤ (m1 * m1 + (t + 1) * 17) % 2147483647 := Int.emod_nonneg _ (by decide)
          have r4 : (m1 * m1 + (t + 1) * 17) % 2147483647 < 2147483647 := Int.emod_lt_of_pos _ (by decide)
          generalize (m1 * m1 + (t + 1) * 17) % 2147483647 = m2 at *
          refine q_if stE hf3 (et_testV (ev_opV (ev_var rfl) (ev_opV ev_c ev_c (v_pow stE ⟨by decide, by decide, by decide⟩)) (v_gt stE))) (fun F4 p4 kf4 hf4 => ?_) (fun F4 p4 kf4 hf4 => ?_)
          · have p4 : (10 : Int) ^ (7 : Nat) < many := of_decide_eq_true p4.symm
            have nb : n < 2 ^ 60 := hm2 p4
            refine q_setV stE hf4 (ev_opV (ev_cbV (ea_consV (ev_opV (ev_opV (ev_var rfl) ev_c (v_mul stE (.inr ⟨by decide, by decide⟩))) (ev_var rfl) (v_add stE)) ea_nilV) (c_int stE)) ev_c (v_pow stE ⟨by decide, by decide, ?_⟩)) fun F5 kf5 hf5 => ?_
            · omega
            · refine q_end ?_
              refine q_retV stE hf5 (ev_opV (ev_cbV (ea_consV (ev_opV (ev_var rfl) ev_c (v_div stE ⟨by decide, by decide⟩)) ea_nilV) (c_int stE)) (ev_var rfl) (v_mod stE (by omega))) fun F6 kf6 hf => ?_
              exact q _ G F6 (src_end sG gs gc (kE.trans (Kp.of hf.s)) ⟨cs, _, mx, t + 1, hf.s _ _ hE1, hf.s _ _ hE2, hcs, hl0, hx0, hx1, by omega, by omega⟩) ⟨_, ⟨Int.emod_nonneg _ (by omega), .inl (Int.emod_lt_of_pos _ (by omega))⟩, rfl⟩
          · refine q_end ?_
            refine q_retV stE hf4 (ev_opV (ev_cbV (ea_consV (ev_opV (ev_var rfl) ev_c (v_div stE ⟨by decide, by decide⟩)) ea_nilV) (c_int stE)) (ev_var rfl) (v_mod stE (by omega))) fun F6 kf6 hf => ?_
            exact q _ G F6 (src_end sG gs gc (kE.trans (Kp.of hf.s)) ⟨cs, _, mx, t + 1, hf.s _ _ hE1, hf.s _ _ hE2, hcs, hl0, hx0, hx1, by omega, by omega⟩) ⟨_, ⟨Int.emod_nonneg _ (by omega), .inl (Int.emod_lt_of_pos _ (by omega))⟩, rfl⟩
abbrev s_Scale___init__ : Stmt := inClass (top 7) 0
theorem sc_Scale___init__ : FnScope ["self", "label", "names", "never_at", "still_at", "depth", "places", "place", "name", "a", "b"] ["self", "label", "names", "never_at", "still_at", "depth"] (defScope s_Scale___init__) := ⟨rfl, rfl, rfl, by decide +kernel, rfl, by decide +kernel, by decide +kernel⟩
theorem ok_Scale_init {C : Addr} {PT PJ : List V → Hp → HR → Prop} (Z : Bi mg) (hC : Cls K C) (hN : ∀ f ∈ scF, NoAttr K C f) (c_then : Method P w K mg base C "make_then" CX0 5 ["self", "first", "second"] [] (spP PT)) (c_join : Method P w K mg base C "make_join" CX0 5 ["self", "first", "second"] [] (spP PJ))
    {f : Addr} {fd : FuncData} (F : FunD K "__init__" "Scale.__init__" (defArgs s_Scale___init__) (defBody s_Scale___init__) (defScope s_Scale___init__) [.int 1] [] f fd) : FnOk P w K mg base CX0 6 f fd ["self", "label", "names", "never_at", "still_at", "depth"] (spI (PScI K C PT PJ)) := by
  refine okD F sc_Scale___init__ (fun vs H Q E h => ?_) (fun cdv A outer s H vs Q E hr h => ?_)
  · obtain ⟨x, C', dx, fs, rest, G, R, rfl, _, _, _, ⟨_, label, pn, names, nv, sl, dep, th, jn, rfl, _⟩, _⟩ := h
    rfl
  · obtain ⟨x, C', dx, fs, rest, G, R, rfl, hx, hG, gx, ⟨rfl, label, pn, names, nv, sl, dep, th, jn, rfl, hq, hnl, hnd, hfl, hm1, hm2, hM, rfl⟩, q⟩ := h
    refine ⟨_, (pss_cons (ps_fld (pv 0) (pv 1) rfl)
  (pss_cons (ps_fld (pv 0) (pe_callB (call_lenA K) (by rfl) Z.z_len PySem.boot_len (pa_cons (pv 2) pa_nil)) rfl)
  (pss_cons (ps_fld (pv 0) (pv 3) rfl)
  (pss_cons (ps_fld (pv 0) (pv 4) rfl)
  (pss_cons (ps_fld (pv 0) (pv 5) rfl)
  (pss_cons (ps_fld (pv 0) (pe_callTy (call_tupleA K) (by rfl) Z.z_tuple (by decide +kernel) (pa_cons (pv 2) pa_nil)) rfl)
  (pss_cons (ps_fld (pv 0) (pe_dc (own := [("place", 7), ("name", 8)]) (g := (gTup _ 2 (gCons (gName 7) (gCons (gName 8) gNil)))) rfl sc_Scale___init__.nd (pi_enum (by rfl) Z.z_enumerate (pa_cons (pv 2) pa_nil)) (blkOk_by (by kernel_rfl)) (fun _ _ _ _ _ => (pg_tup rfl (pgs_cons (pg_name (i := 7) sc_Scale___init__.nd rfl (Or.inl rfl)) (pgs_cons (pg_name (i := 8) sc_Scale___init__.nd rfl (Or.inl rfl)) pgs_nil)))) (fun _ _ _ _ _ => pts_nil) (fun _ _ _ _ _ => (pv 8)) (fun _ _ _ _ _ => (pv 7))) rfl)
  (pss_cons (ps_set (i := 6) sc_Scale___init__.nd rfl (Or.inr rfl) (pe_listRg rfl (by rfl) Z.z_list (prg_1 (by rfl) Z.z_range (pe_callB (call_lenA K) (by rfl) Z.z_len PySem.boot_len (pa_cons (pv 2) pa_nil)))))
  (pss_cons (ps_fld (pv 0) (pe_callTy (call_tupleA K) (by rfl) Z.z_tuple (by decide +kernel) (pa_cons (pe_lc (own := [("a", 9)]) (g := (gName 9)) rfl sc_Scale___init__.nd (pi_listK K (pv 6)) (blkOk_by (by kernel_rfl)) (fun _ _ _ _ _ => (pg_name (i := 9) sc_Scale___init__.nd rfl (Or.inr rfl))) (fun _ _ _ _ _ => pts_nil) (fun _ _ _ _ _ => (pe_callTy (call_tupleA K) (by rfl) Z.z_tuple (by decide +kernel) (pa_cons (pe_lc (own := [("b", 10)]) (g := (gName 10)) rfl sc_Scale___init__.nd (pi_listK K (pv 6)) (blkOk_by (by kernel_rfl)) (fun _ _ _ _ _ => (pg_name (i := 10) sc_Scale___init__.nd rfl (Or.inl rfl))) (fun _ _ _ _ _ => pts_nil) (fun _ _ _ _ _ => (pe_methC c_then (hr.mono (by decide)) pass0 (pv 0) (pa_cons (pv 9) (pa_cons (pv 10) pa_nil))))) pa_nil)))) pa_nil)) rfl)
  (pss_cons (ps_fld (pv 0) (pe_callTy (call_tupleA K) (by rfl) Z.z_tuple (by decide +kernel) (pa_cons (pe_lc (own := [("a", 9)]) (g := (gName 9)) rfl sc_Scale___init__.nd (pi_listK K (pv 6)) (blkOk_by (by kernel_rfl)) (fun _ _ _ _ _ => (pg_name (i := 9) sc_Scale___init__.nd rfl (Or.inr rfl))) (fun _ _ _ _ _ => pts_nil) (fun _ _ _ _ _ => (pe_callTy (call_tupleA K) (by rfl) Z.z_tuple (by decide +kernel) (pa_cons (pe_lc (own := [("b", 10)]) (g := (gName 10)) rfl sc_Scale___init__.nd (pi_listK K (pv 6)) (blkOk_by (by kernel_rfl)) (fun _ _ _ _ _ => (pg_name (i := 10) sc_Scale___init__.nd rfl (Or.inl rfl))) (fun _ _ _ _ _ => pts_nil) (fun _ _ _ _ _ => (pe_methC c_join (hr.mono (by decide)) pass0 (pv 0) (pa_cons (pv 9) (pa_cons (pv 10) pa_nil))))) pa_nil)))) pa_nil)) rfl)
  pss_nil)))))))))), ?_⟩
    have n1 : ∀ {f : Str}, f ∈ scF → NoAttr K C' f := fun h => hN _ h
    have l0 : names.map V.str = names.map V.str := rfl
    have ll : ((names.map V.str).length : Int) = (names.length : Nat) := by rw [List.length_map]
    have h0 := own_start (o := .ins C' dx fs) hG gx hx 0
    show tSeq _ _ (Ends.mk _ _ _ _) [some _, some _, some _, some _, some _, some _, none, none, none, none, none] _
    refine q_fldV h0 (ev_var rfl) rfl hC (n1 (by decide)) (by omega) fun H1 h1 => ?_
    have z1 := putF_len ("label" : Str) (.str label) fs
    have st := stabO G H x (.ins C' dx (putF ("label" : Str) (.str label) fs))
    refine q_fldV h1 (ev_cbV (ea_consV (ev_var rfl) ea_nilV) (c_lenL st hq)) rfl hC (n1 (by decide)) (by omega) fun H2 h2 => ?_
    rw [ll] at h2
    generalize e2 : putF ("size" : Str) (.int (names.length : Nat)) (putF ("label" : Str) (.str label) fs) = f2 at h2
    have z2 : f2.length ≤ fs.length + 2 := by rw [← e2]; exact Nat.le_trans (putF_len _ _ _) (by omega)
    refine q_fldV h2 (ev_var rfl) rfl hC (n1 (by decide)) (by omega) fun H3 h3 => ?_
    generalize e3 : putF ("never_at" : Str) (.int nv) f2 = f3 at h3
    have z3 : f3.length ≤ fs.length + 3 := by rw [← e3]; exact Nat.le_trans (putF_len _ _ _) (by omega)
    refine q_fldV h3 (ev_var rfl) rfl hC (n1 (by decide)) (by omega) fun H4 h4 => ?_
    generalize e4 : putF ("still_at" : Str) (.int sl) f3 = f4 at h4
    have z4 : f4.length ≤ fs.length + 4 := by rw [← e4]; exact Nat.le_trans (putF_len _ _ _) (by omega)
    refine q_fldV h4 (ev_var rfl) rfl hC (n1 (by decide)) (by omega) fun H5 h5 => ?_
    generalize e5 : putF ("depth" : Str) (.int dep) f4 = f5 at h5
    have z5 : f5.length ≤ fs.length + 5 := by rw [← e5]; exact Nat.le_trans (putF_len _ _ _) (by omega)
    have st5 := stabO G H x (.ins C' dx f5)
    refine q_fldO h5 (ev_cbV (ea_consV (ev_var rfl) ea_nilV) (c_tupN st5 hq)) rfl hC (n1 (by decide)) (by omega) fun v6 G6 H6 s6 h6 r6 => ?_
    obtain ⟨p6, rfl, _, g6⟩ := r6
    generalize e6 : putF ("worth_names" : Str) (.ref p6) f5 = f6 at h6
    have z6 : f6.length ≤ fs.length + 6 := by rw [← e6]; exact Nat.le_trans (putF_len _ _ _) (by omega)
    have st6 := stabO G H x (.ins C' dx f6)
    refine q_fldO h6 (ev_dcE st6 (ea_consV (ev_var rfl) ea_nilV) (s6.seq hq) (by omega) hnd (by decide) (Nat.le_of_ble_eq_true rfl) (Nat.le_of_ble_eq_true rfl) (fun _ _ => rfl)) rfl hC (n1 (by decide)) (by omega) fun v7 G7 H7 s7 h7 r7 => ?_
    obtain ⟨p7, rfl, _, g7⟩ := r7
    generalize e7 : putF ("worth_places" : Str) (.ref p7) f6 = f7 at h7
    have z7 : f7.length ≤ fs.length + 7 := by rw [← e7]; exact Nat.le_trans (putF_len _ _ _) (by omega)
    have st7 := stabO G H x (.ins C' dx f7)
    have s67 := s6.trans s7
    refine q_set h7 (ev_listRg st7 (ev_cbV (ea_consV (ev_var rfl) ea_nilV) (c_lenL st7 (s67.seq hq))) (by omega) (by rw [ll]; omega)) fun v8 G8 H8 s8 r8 => ?_
    obtain ⟨p8, rfl, _, g8⟩ := r8
    rw [ll, Int.toNat_natCast] at g8
    have off7 : ∀ f, f ∉ scF → f7.lookup f = fs.lookup f := fun f hf => by
      rw [← e7, ← e6, ← e5, ← e4, ← e3, ← e2]
      iterate 7 rw [lk_off hf (by decide)]
    have s08 := s67.trans s8.g
    refine q_fldO s8.s (ev_look (R := IsTN names.length fun i => IsTN names.length fun j => IsV (.int (th i j))) (fun G1 s1 x1 => ev_table stabA upd_same (by rw [off7 _ (by decide)]; exact hm1) (by rw [upd_ne (ne_of_none (s1 _ _ g8) x1)]; exact s1 _ _ g8) (by omega)
      (fun G' s' a b ha hb => (hM x dx f7 G' (fun c o e => s' c o (by rw [upd_ne (ne_of_none (s1 _ _ (s08 _ _ e)) x1)]; exact s1 _ _ (s08 _ _ e))) (s' _ _ upd_same) off7 a b ha hb).1)) (fun v G2 r z => tab_del r z)) rfl hC (n1 (by decide)) (by omega) fun v9 G9 H9 s9 h9 r9 => ?_
    obtain ⟨p9, ys9, rfl, r9⟩ := r9
    have r9 : Tab G9 p9 names.length th := ⟨p9, ys9, rfl, r9⟩
    generalize e9 : putF ("product_table" : Str) (.ref p9) f7 = f9 at h9
    have z9 : f9.length ≤ fs.length + 8 := by rw [← e9]; exact Nat.le_trans (putF_len _ _ _) (by omega)
    have off9 : ∀ f, f ∉ scF → f9.lookup f = fs.lookup f := fun f hf => by
      rw [← e9, lk_off hf (by decide)]
      exact off7 f hf
    have s09 := s08.trans s9
    have g8' := s9 _ _ g8
    refine q_fldO h9 (ev_look (R := IsTN names.length fun i => IsTN names.length fun j => IsV (.int (jn i j))) (fun G1 s1 x1 => ev_table stabA upd_same (by rw [off9 _ (by decide)]; exact hm2) (by rw [upd_ne (ne_of_none (s1 _ _ g8') x1)]; exact s1 _ _ g8') (by omega)
      (fun G' s' a b ha hb => (hM x dx f9 G' (fun c o e => s' c o (by rw [upd_ne (ne_of_none (s1 _ _ (s09 _ _ e)) x1)]; exact s1 _ _ (s09 _ _ e))) (s' _ _ upd_same) off9 a b ha hb).2)) (fun v G2 r z => tab_del r z)) rfl hC (n1 (by decide)) (by omega) fun v10 G10 H10 s10 h10 r10 => ?_
    obtain ⟨p10, ys10, rfl, r10⟩ := r10
    have r10 : Tab G10 p10 names.length jn := ⟨p10, ys10, rfl, r10⟩
    refine q_end (q _ _ _ (own_n h10) ⟨⟨?_, ?_, ?_, ?_, ?_, ⟨p6, ?_, s10 _ _ (s9 _ _ (s8.g _ _ (s7 _ _ g6)))⟩, ⟨p7, ?_, s10 _ _ (s9 _ _ (s8.g _ _ g7))⟩, ⟨p9, ?_, r9.mono s10⟩, ⟨p10, ?_, r10⟩⟩, fun f hf => ?_, ?_⟩)
    · rw [← e9, ← e7, ← e6, ← e5, ← e4, ← e3, ← e2]
      iterate 8 rw [lk_ne (by decide +kernel)]
      exact lk_eq
    · rw [← e9, ← e7, ← e6, ← e5, ← e4, ← e3, ← e2]
      iterate 7 rw [lk_ne (by decide +kernel)]
      exact lk_eq
    · rw [← e9, ← e7, ← e6, ← e5, ← e4, ← e3]
      iterate 6 rw [lk_ne (by decide +kernel)]
      exact lk_eq
    · rw [← e9, ← e7, ← e6, ← e5, ← e4]
      iterate 5 rw [lk_ne (by decide +kernel)]
      exact lk_eq
    · rw [← e9, ← e7, ← e6, ← e5]
      iterate 4 rw [lk_ne (by decide +kernel)]
      exact lk_eq
    · rw [← e9, ← e7, ← e6]
      iterate 3 rw [lk_ne (by decide +kernel)]
      exact lk_eq
    · rw [← e9, ← e7]
      iterate 2 rw [lk_ne (by decide +kernel)]
      exact lk_eq
    · rw [← e9, lk_ne (by decide +kernel)]
      exact lk_eq
    · exact lk_eq
    · rw [lk_off hf (by decide)]
      exact off9 f hf
    · exact Nat.le_trans (putF_len _ _ _) (by omega)
abbrev s_is_table_name : Stmt := top 8
theorem sc_is_table_name : FnScope ["name", "sign"] ["name"] (defScope s_is_table_name) := ⟨rfl, rfl, rfl, by decide +kernel, rfl, by decide +kernel, by decide +kernel⟩
abbrev s_table_places : Stmt := top 9
theorem sc_table_places : FnScope ["places", "table", "found", "row", "name"] ["places", "table"] (defScope s_table_places) := ⟨rfl, rfl, rfl, by decide +kernel, rfl, by decide +kernel, by decide +kernel⟩
abbrev s_TableScale___init__ : Stmt := inClass (top 10) 0
theorem sc_TableScale___init__ : ScS ["self", "names", "joins", "products", "never", "still", "places", "blocks", "table", "label", "place", "name", "row"] ["self", "names", "joins", "products", "never", "still"] (defScope s_TableScale___init__) := ⟨rfl, rfl, rfl, by decide +kernel, rfl, by decide +kernel, by decide +kernel, rfl, by decide +kernel, rfl⟩
abbrev s_TableScale_make_then : Stmt := inClass (top 10) 1
theorem sc_TableScale_make_then : FnScope ["self", "first", "second"] ["self", "first", "second"] (defScope s_TableScale_make_then) := ⟨rfl, rfl, rfl, by decide +kernel, rfl, by decide +kernel, by decide +kernel⟩
abbrev s_TableScale_make_join : Stmt := inClass (top 10) 2
theorem sc_TableScale_make_join : FnScope ["self", "first", "second"] ["self", "first", "second"] (defScope s_TableScale_make_join) := ⟨rfl, rfl, rfl, by decide +kernel, rfl, by decide +kernel, by decide +kernel⟩
theorem ok_is_table_name {tS : Tok} {f : Addr} {fd : FuncData} (Z : Bi mg) (g_SIGNS : mg "SIGNS" = some (.str signsL tS)) (F : Fun K "is_table_name" "is_table_name" s_is_table_name f fd) : FnOk P w K mg base CX0 1 f fd ["name"] (spP PIsN) := by
  refine F.ok sc_is_table_name (fun vs H Q E h => ?_) (fun cdv A outer s H vs Q E hr h => ?_)
  · obtain ⟨_, _, _, ⟨_, rfl, _⟩, _⟩ := h
    rfl
  · obtain ⟨G, R, hs, ⟨nm, rfl, hl, rfl⟩, q⟩ := h
    refine ⟨_, (pss_cons (ps_ret (pe_and (pe_chain op_leA op_leA pe_int (pe_callB (call_lenA K) (by rfl) Z.z_len PySem.boot_len (pa_cons (pv 0) pa_nil)) pe_int) (pe_one (pe_callB (call_allA K) (by rfl) Z.z_all (by decide +kernel) (pa_cons (pe_lc (own := [("sign", 1)]) (g := (gName 1)) rfl sc_is_table_name.nd (pi_str (pv 0)) (blkOk_by (by kernel_rfl)) (fun _ _ _ _ _ => (pg_name (i := 1) sc_is_table_name.nd rfl (Or.inl rfl))) (fun _ _ _ _ _ => pts_nil) (fun _ _ _ _ _ => (pe_cmpR op_in_str (pv 1) (pe_glob (v := .str "abcdefghijklmnopqrstuvwxyz0123456789") rfl g_SIGNS ⟨_, rfl⟩) (by rfl)))) pa_nil)))))
  pss_nil), ?_⟩
    have st := stab0 G H
    have h0 : SP0 G H 0 G H := Grow.refl hs
    show tSeq _ _ (Ends.mk _ _ _ _) [some _, none] _
    have hsz : (1000 : Nat) ≤ sizeLine := by decide
    refine q_retV st h0 (x := .bl (okNm nm)) (ev_andV st (ev_chain st ev_c (ev_cbV (ea_consV (ev_var rfl) ea_nilV) (c_lenS st (Nat.le_trans hl hsz))) (v_le st) ev_c (v_le st)) (fun _ => ev_cb (ea_cons (ev_lcS (f := fun c => .bl (sgn c)) st (ev_var rfl) (by omega) (fun _ => rfl) fun c G' hc s' => ev_opV (ev_var rfl) ev_c (v_inS st)) ea_nil) fun vs G' s' e => ?_)) fun H1 k1 h1 => q _ _ _ h1 rfl
    obtain ⟨_, _, rfl, ⟨p, rfl, _, g⟩, e2⟩ := e
    obtain rfl := (show _ = _ from e2)
    exact c_all st (SqL.of (by rw [g, List.map_map]; rfl))
theorem ok_table_places {f : Addr} {fd : FuncData} (Z : Bi mg) (F : Fun K "table_places" "table_places" s_table_places f fd) : FnOk P w K mg base CX0 1 f fd ["places", "table"] (spP PTp) := by
  refine F.ok sc_table_places (fun vs H Q E h => ?_) (fun cdv A outer s H vs Q E hr h => ?_)
  · obtain ⟨_, _, _, ⟨_, _, _, _, rfl, _⟩, _⟩ := h
    rfl
  · obtain ⟨G, R, hs, ⟨pd, pt, names, rows, rfl, hd, hnd, hn, ⟨vs, ht, rl⟩, hl, hr2, rfl⟩, q⟩ := h
    refine ⟨_, (pss_cons (ps_if (PW.pt (pw_or (pt_cmpR (op_neA K hr.units) (pe_callB (call_lenA K) (by rfl) Z.z_len PySem.boot_len (pa_cons (pv 1) pa_nil)) (pe_callB (call_lenA K) (by rfl) Z.z_len PySem.boot_len (pa_cons (pv 0) pa_nil)) (nomark _)) (pw_or1 (pt_val (pe_callB (call_anyA K) (by rfl) Z.z_any (by decide +kernel) (pa_cons (pe_lc (own := [("row", 3)]) (g := (gName 3)) rfl sc_table_places.nd (pi_listK K (pv 1)) (blkOk_by (by kernel_rfl)) (fun _ _ _ _ _ => (pg_name (i := 3) sc_table_places.nd rfl (Or.inl rfl))) (fun _ _ _ _ _ => pts_nil) (fun _ _ _ _ _ => (pe_cmpR (op_neA K hr.units) (pe_callB (call_lenA K) (by rfl) Z.z_len PySem.boot_len (pa_cons (pv 3) pa_nil)) (pe_callB (call_lenA K) (by rfl) Z.z_len PySem.boot_len (pa_cons (pv 0) pa_nil)) (nomark _)))) pa_nil)))))) (pss_cons ps_never
  pss_nil) pss_nil)
  (pss_cons (ps_setLc (i := 2) (own := [("row", 3)]) (g := (gName 3)) rfl sc_table_places.nd rfl rfl (sw_true rfl rfl rfl (by decide +kernel)) (pi_listK K (pv 1)) (blkOk_by (by kernel_rfl)) (fun _ _ _ _ _ => (pg_name (i := 3) sc_table_places.nd rfl (Or.inl rfl))) (fun _ _ _ _ _ => pts_nil) (fun _ _ _ _ _ => (pe_lc (own := [("name", 4)]) (g := (gName 4)) rfl sc_table_places.nd (pi_listK K (pv 3)) (blkOk_by (by kernel_rfl)) (fun _ _ _ _ _ => (pg_name (i := 4) sc_table_places.nd rfl (Or.inl rfl))) (fun _ _ _ _ _ => pts_nil) (fun _ _ _ _ _ => (pe_dget1 (hu_of hr) (pv 0) (pv 4) ⟨rfl, rfl, rfl, rfl⟩)))))
  (pss_cons (ps_if (pt_val (pe_callB (call_anyA K) (by rfl) Z.z_any (by decide +kernel) (pa_cons (pe_lc (own := [("row", 3)]) (g := (gName 3)) rfl sc_table_places.nd (pi_listK K (pv 2)) (blkOk_by (by kernel_rfl)) (fun _ _ _ _ _ => (pg_name (i := 3) sc_table_places.nd rfl (Or.inl rfl))) (fun _ _ _ _ _ => pts_nil) (fun _ _ _ _ _ => (pe_cmpR (op_inA K (hu_of hr)) pe_non (pv 3) (by rfl)))) pa_nil))) (pss_cons ps_never
  pss_nil) pss_nil)
  (pss_cons (ps_ret (pv 2))
  pss_nil)))), ?_⟩
    have st := stab0 G H
    have h0 : SP0 G H 0 G H := Grow.refl hs
    show tSeq _ _ (Ends.mk _ _ _ _) [some _, some _, none, none, none] _
    have lv := rl_len rl
    have lp := plc_len names 0
    have row : ∀ {j : Nat} {y : V} {G' : Hp}, vs[j]? = some y → Same G G' → ∃ r, rows[j]? = some r ∧ r ∈ rows ∧ IsSR r y G' := fun {j y G'} hy s' => by
      have hj : j < rows.length := by
        have := (List.getElem?_eq_some_iff.mp hy).1
        omega
      have e1 : rows[j]? = some rows[j] := List.getElem?_eq_getElem hj
      obtain ⟨u, hu, iu⟩ := rl_get rl e1
      rw [hu] at hy
      obtain rfl := Option.some.inj hy
      exact ⟨_, e1, List.getElem_mem hj, Mon.mon s' iu⟩
    refine q_if st h0 (et_or st (et_testV (ev_opV (ev_cbV (ea_consV (ev_var rfl) ea_nilV) (c_lenL st (SqL.of ht))) (ev_cbV (ea_consV (ev_var rfl) ea_nilV) (c_lenD st hd)) (v_neI st))) (fun _ => et_B (b := false) (ev_cb (ea_cons (ev_lcVL (f := fun _ => .bl false) st (ev_var rfl) (SqL.of ht) (by omega) (fun _ => rfl) fun j y G' hy s' => ?_) ea_nil) fun us G' s' e => ?_))) (fun H1 p1 k1 h1 => ?_) (fun H1 p1 k1 h1 => ?_)
    · obtain ⟨r, _, hm, p, rfl, hp⟩ := row hy s'
      refine ev_eq ?_ (ev_opV (ev_cbV (ea_consV (ev_var rfl) ea_nilV) (c_lenL st (SqL.of hp))) (ev_cbV (ea_consV (ev_var rfl) ea_nilV) (c_lenD st (s' _ _ hd))) (v_neI st))
      rw [List.length_map, lp, (hr2 r hm).1]
      simp
    · obtain ⟨_, _, rfl, ⟨p, rfl, _, g⟩, e2⟩ := e
      obtain rfl := (show _ = _ from e2)
      have e3 : (vs.map fun _ => false).any id = false := by
        rw [List.any_eq_false]
        intro b hb
        obtain ⟨_, _, rfl⟩ := List.mem_map.mp hb
        simp
      rw [← e3]
      exact c_any st (SqL.of (by rw [g, List.map_map]; rfl))
    · rw [lv, hl, lp] at p1
      simp at p1
    refine q_end ?_
    refine q_set (R := IsNX G (RL (IsIR names) rows)) h1 (ev_lcG (R := IsIR names) (ss := rows) (σf := fun j => [some (.ref pd), some (.ref pt), none, vs[j]?, none]) st (ev_var rfl) (SqL.of ht) lv (by omega) (fun j y G' J hy s' t' Qs q' => ?_) (fun _ => rfl) (fun j y r G' hy hrj s' => ?_)) fun v2 G2 H2 s2 r2 => ?_
    · rw [hy] at q'
      exact q'
    · show Ev _ _ _ _ [some (.ref pd), some (.ref pt), none, vs[j]?, none] _ _
      rw [hy]
      obtain ⟨r', er, hm, p, rfl, hp⟩ := row hy s'
      rw [hrj] at er
      obtain rfl := Option.some.inj er
      refine (ev_lcVL (f := fun v => match v with | .str e => .int (names.idxOf e : Nat) | _ => .non) st (ev_var rfl) (SqL.of hp) (by rw [List.length_map, (hr2 r hm).1]; omega) (fun _ => rfl) fun i z G'' hz s'' => ?_).imp fun v G'' s'' ⟨p2, e, _, g⟩ => ⟨p2, e, by rw [g, List.map_map]; rfl⟩
      obtain ⟨hi, rfl⟩ := map_get hz
      have hmem := (hr2 r hm).2 _ (List.getElem_mem hi)
      refine ev_eq ?_ (ev_dget (k := .inr r[i]) st (ev_var rfl) (s'' _ _ (s' _ _ hd)) (ev_var rfl))
      rw [plc_some hnd (idx_get hmem), Nat.zero_add]
      rfl
    obtain ⟨p2, ws, rfl, _, g2, rl2⟩ := r2
    have lw := rl_len rl2
    refine q_if st s2.s (et_B (b := false) (ev_cb (ea_cons (ev_lcVL (f := fun _ => .bl false) st (ev_var rfl) (SqL.of g2) (by omega) (fun _ => rfl) fun j y G' hy s' => ?_) ea_nil) fun us G' s' e => ?_)) (fun H3 p3 k3 h3 => ?_) (fun H3 p3 k3 h3 => ?_)
    · have hj : j < rows.length := by
        have := (List.getElem?_eq_some_iff.mp hy).1
        omega
      obtain ⟨u, hu, p, rfl, hp⟩ := rl_get rl2 (List.getElem?_eq_getElem hj)
      rw [hu] at hy
      obtain rfl := Option.some.inj hy
      refine ev_eq ?_ (ev_opV ev_c (ev_var rfl) (v_inL (neg := false) st (SqL.of (s' _ _ hp)) rfl ?_))
      · have e4 : inV .non (rows[j].map fun e => V.int (names.idxOf e : Nat)) = false := by
          unfold inV
          rw [List.any_eq_false]
          intro b hb
          obtain ⟨_, _, rfl⟩ := List.mem_map.mp hb
          exact Bool.false_ne_true
        rw [e4]
        rfl
      · rw [List.all_map, List.all_eq_true]
        exact fun _ _ => rfl
    · obtain ⟨_, _, rfl, ⟨p, rfl, _, g⟩, e2⟩ := e
      obtain rfl := (show _ = _ from e2)
      have e3 : (ws.map fun _ => false).any id = false := by
        rw [List.any_eq_false]
        intro b hb
        obtain ⟨_, _, rfl⟩ := List.mem_map.mp hb
        simp
      rw [← e3]
      exact c_any st (SqL.of (by rw [g, List.map_map]; rfl))
    · cases p3
    · refine q_end ?_
      refine q_ret h3 (ev_var rfl) fun v G4 H4 s4 e4 => q v G4 H4 s4.s ⟨p2, e4, ws, s4.g _ _ g2, rl_mon s4.g rl2⟩
theorem ok_tb_m {C : Addr} {fld : Str} (hC : Cls K C) (hN : NoAttr K C fld) {G H : Hp} {x dx p : Addr} {fs : List (Str × V)} {names : List Str} {rows : List (List Str)} {a b : Nat} {σ : L2.St} {n : Nat} (st : Stab (SP0 G H)) (h0 : σ[0]? = some (some (.ref x))) (h1 : σ[1]? = some (some (.int (a : Nat)))) (h2 : σ[2]? = some (some (.int (b : Nat))))
    (hx : G x = some (.ins C dx fs)) (hf : fs.lookup fld = some (.ref p)) (ht : TabI names G p rows) (ha : a < rows.length) (hb : ∀ r ∈ rows, b < r.length) : Ev (SP0 G H) n (0 + 0 + 0) (tOp (rIxA K) (tOp (rIxA K) (tFld K (tVar 0) fld) (tVar 1)) (tVar 2)) σ G (IsV (.int (idxT names rows a b))) := by
  obtain ⟨vs, hp, rl⟩ := ht
  have e1 : rows[a]? = some rows[a] := List.getElem?_eq_getElem ha
  obtain ⟨u, hu, q, rfl, hq⟩ := rl_get rl e1
  have hb' := hb _ (List.getElem_mem ha)
  refine ev_opV (ev_opV (ev_fld st (ev_var h0) hx hC hN hf) (ev_var h1) (v_ixL st (SqL.of hp) (atI_nat hu))) (ev_var h2) (v_ixL st (SqL.of hq) (atI_nat ?_))
  unfold idxT
  rw [List.getElem?_map, List.getElem?_eq_getElem hb', List.getD_eq_getElem?_getD, List.getD_eq_getElem?_getD, e1]
  show _ = some (V.int ((names.idxOf ((rows[a])[b]?.getD ("" : Str)) : Nat)))
  rw [List.getElem?_eq_getElem hb']
  rfl
theorem ok_tb_then {C : Addr} (hC : Cls K C) (hN : NoAttr K C "written_products") {f : Addr} {fd : FuncData} (F : Fun K "make_then" "TableScale.make_then" s_TableScale_make_then f fd) : FnOk P w K mg base CX0 5 f fd ["self", "first", "second"] (spP (PTbM C "written_products")) := by
  refine F.ok sc_TableScale_make_then (fun vs H Q E h => ?_) (fun cdv A outer s H vs Q E hr h => ?_)
  · obtain ⟨G, R, _, ⟨_, _, _, _, _, _, _, _, rfl, _⟩, _⟩ := h
    rfl
  · obtain ⟨G, R, hs, ⟨x, dx, p, fs, names, rows, a, b, rfl, hx, hf, ht, ha, hb, rfl⟩, q⟩ := h
    refine ⟨_, (pss_cons (ps_ret (pe_ix (ix_any K (hu_of hr)) (pe_ix (ix_any K (hu_of hr)) (pe_fldK K (pv 0)) (pv 1) (fun _ _ => rfl)) (pv 2) (fun _ _ => rfl)))
  pss_nil), ?_⟩
    have st := stab0 G H
    have h0 : SP0 G H 0 G H := Grow.refl hs
    show tSeq _ _ (Ends.mk _ _ _ _) [some _, some _, some _] _
    exact q_retV st h0 (ok_tb_m hC hN st rfl rfl rfl hx hf ht ha hb) fun H1 k1 h1 => q _ _ _ h1 rfl
theorem ok_tb_join {C : Addr} (hC : Cls K C) (hN : NoAttr K C "written_joins") {f : Addr} {fd : FuncData} (F : Fun K "make_join" "TableScale.make_join" s_TableScale_make_join f fd) : FnOk P w K mg base CX0 5 f fd ["self", "first", "second"] (spP (PTbM C "written_joins")) := by
  refine F.ok sc_TableScale_make_join (fun vs H Q E h => ?_) (fun cdv A outer s H vs Q E hr h => ?_)
  · obtain ⟨G, R, _, ⟨_, _, _, _, _, _, _, _, rfl, _⟩, _⟩ := h
    rfl
  · obtain ⟨G, R, hs, ⟨x, dx, p, fs, names, rows, a, b, rfl, hx, hf, ht, ha, hb, rfl⟩, q⟩ := h
    refine ⟨_, (pss_cons (ps_ret (pe_ix (ix_any K (hu_of hr)) (pe_ix (ix_any K (hu_of hr)) (pe_fldK K (pv 0)) (pv 1) (fun _ _ => rfl)) (pv 2) (fun _ _ => rfl)))
  pss_nil), ?_⟩
    have st := stab0 G H
    have h0 : SP0 G H 0 G H := Grow.refl hs
    show tSeq _ _ (Ends.mk _ _ _ _) [some _, some _, some _] _
    exact q_retV st h0 (ok_tb_m hC hN st rfl rfl rfl hx hf ht ha hb) fun H1 k1 h1 => q _ _ _ h1 rfl
theorem ok_TableScale_init {C fS : Addr} (Z : Bi mg) (hC : Cls K C) (hN : ∀ f ∈ ("written_joins" : Str) :: "written_products" :: scF, NoAttr K C f) (opq : PySem.W.nsIn K cStatics "thirdparty.any" = some none) (top0 : (P.main.scope.names.lookup ("super" : Str)).isSome = false)
    (hm : PySem.W.mroIn K C (.ref C) = some true) (hf : PySem.W.ks_superIn K C C "__init__" = some (some (.ref fS))) (c_super : SupC P w K mg base fS CX0 6 ["self", "label", "names", "never_at", "still_at", "depth"] [.int 1] (spI (PScI K C (PTbM C "written_products") (PTbM C "written_joins"))))
    (c_is_table_name : Callee P w K mg base "is_table_name" CX0 1 ["name"] [] (spP PIsN)) (c_table_places : Callee P w K mg base "table_places" CX0 1 ["places", "table"] [] (spP PTp)) {f : Addr} {fd : FuncData} (F : FunSD P K "__init__" "TableScale.__init__" s_TableScale___init__ [] [] f fd C) :
    FnOk P w K mg base (L2.CX P w) 10 f fd ["self", "names", "joins", "products", "never", "still"] (spI (PTbI C)) := by
  refine F.toS.okX sc_TableScale___init__ Z.z_super opq top0 rfl rfl (fun vs H Q E h => ?_) (fun cdv cc A outer s H vs Q E hr h SA => ?_)
  · obtain ⟨x, C', dx, fs, rest, G, R, rfl, _, _, _, ⟨_, _, _, _, _, _, _, _, _, _, rfl, _⟩, _⟩ := h
    rfl
  · obtain ⟨x, C', dx, fs, rest, G, R, rfl, hx, hG, gx, ⟨rfl, rfl, pn, pj, pp, names, joins, products, never, still, rfl, gn, tj, tp, T, rfl⟩, q⟩ := h
    refine ⟨_, (psa_cons (ps_setDc (i := 6) (own := [("place", 10), ("name", 11)]) (g := (gTup _ 2 (gCons (gName 10) (gCons (gName 11) gNil)))) rfl sc_TableScale___init__.nd rfl rfl (sw_dc rfl rfl rfl (by decide +kernel)) (pi_enum (by rfl) Z.z_enumerate (pa_cons (pv 1) pa_nil)) (blkOk_by (by kernel_rfl)) (fun _ _ _ _ _ => (pg_tup rfl (pgs_cons (pg_name (i := 10) sc_TableScale___init__.nd rfl (Or.inl rfl)) (pgs_cons (pg_name (i := 11) sc_TableScale___init__.nd rfl (Or.inl rfl)) pgs_nil)))) (fun _ _ _ _ _ => pts_nil) (fun _ _ _ _ _ => (pv 11)) (fun _ _ _ _ _ => (pv 10)))
  (psa_cons (ps_if (PW.pt (pw_or (pt_not (pt_chain op_leA op_leA pe_int (pe_callB (call_lenA K) (by rfl) Z.z_len PySem.boot_len (pa_cons (pv 1) pa_nil)) pe_int)) (pw_or1 (pt_cmpR (op_neA K hr.units) (pe_callB (call_lenA K) (by rfl) Z.z_len PySem.boot_len (pa_cons (pv 6) pa_nil)) (pe_callB (call_lenA K) (by rfl) Z.z_len PySem.boot_len (pa_cons (pv 1) pa_nil)) (nomark _))))) (pss_cons ps_never
  pss_nil) pss_nil)
  (psa_cons (ps_if (PW.pt (pw_or (pt_not (pt_val (pe_callB (call_allA K) (by rfl) Z.z_all (by decide +kernel) (pa_cons (pe_lc (own := [("name", 11)]) (g := (gName 11)) rfl sc_TableScale___init__.nd (pi_listK K (pv 1)) (blkOk_by (by kernel_rfl)) (fun _ _ _ _ _ => (pg_name (i := 11) sc_TableScale___init__.nd rfl (Or.inl rfl))) (fun _ _ _ _ _ => pts_nil) (fun _ _ _ _ _ => (pe_callC c_is_table_name (hr.mono (by decide)) pass0 (pa_cons (pv 11) pa_nil)))) pa_nil)))) (pw_or (pt_cmpR (op_ninA K (hu_of hr)) (pv 4) (pv 6) (by rfl)) (pw_or1 (pt_cmpR (op_ninA K (hu_of hr)) (pv 5) (pv 6) (by rfl)))))) (pss_cons ps_never
  pss_nil) pss_nil)
  (psa_cons (ps_fld (pv 0) (pe_callC c_table_places (hr.mono (by decide)) pass0 (pa_cons (pv 6) (pa_cons (pv 2) pa_nil))) rfl)
  (psa_cons (ps_fld (pv 0) (pe_callC c_table_places (hr.mono (by decide)) pass0 (pa_cons (pv 6) (pa_cons (pv 3) pa_nil))) rfl)
  (psa_cons (ps_set (i := 7) sc_TableScale___init__.nd rfl (Or.inl rfl) (pe_lst (pa_cons (pe_joinK K pe_str (pv 1)) (pa_cons (pe_joined (PJ.cons (pe_fmt (pv 4)) (PJ.cons pe_str (PJ.cons (pe_fmt (pv 5)) PJ.nil)))) pa_nil))))
  (psa_cons (ps_for (passes_of rfl) rfl (pi_listK K (pe_lst (pa_cons (pv 2) (pa_cons (pv 3) pa_nil)))) (pg_name (i := 8) sc_TableScale___init__.nd rfl (Or.inl rfl)) (pss_cons (ps_expr (pe_bm PySem.F.plainAttrs_list PySem.F.slot_list_append PySem.F.type_list_append mt_append (pv 7) (pa_cons (pe_joinK K pe_str (pe_lc (own := [("row", 12)]) (g := (gName 12)) rfl sc_TableScale___init__.nd (pi_listK K (pv 8)) (blkOk_by (by kernel_rfl)) (fun _ _ _ _ _ => (pg_name (i := 12) sc_TableScale___init__.nd rfl (Or.inl rfl))) (fun _ _ _ _ _ => pts_nil) (fun _ _ _ _ _ => (pe_joinK K pe_str (pv 12))))) pa_nil)))
  pss_nil))
  (psa_cons (ps_set (i := 9) sc_TableScale___init__.nd rfl (Or.inl rfl) (pe_joined (PJ.cons pe_str (PJ.cons (pe_fmt (pe_ix (ix_any K (hu_of hr)) (pv 7) pe_int (fun _ _ => rfl))) (PJ.cons pe_str (PJ.cons (pe_fmt (pe_ix (ix_any K (hu_of hr)) (pv 7) pe_int (fun _ _ => rfl))) (PJ.cons pe_str (PJ.cons (pe_fmt (pe_ix (ix_any K (hu_of hr)) (pv 7) pe_int (fun _ _ => rfl))) (PJ.cons pe_str (PJ.cons (pe_fmt (pe_ix (ix_any K (hu_of hr)) (pv 7) pe_int (fun _ _ => rfl))) (PJ.cons pe_str PJ.nil)))))))))))
  (psa_supC SA rfl (Or.inl rfl) c_super (hr.mono (by decide)) pass0 (pa_cons (pv 9) (pa_cons (pv 1) (pa_cons (pe_ix (ix_any K (hu_of hr)) (pv 6) (pv 4) (fun _ _ => rfl)) (pa_cons (pe_ix (ix_any K (hu_of hr)) (pv 6) (pv 5) (fun _ _ => rfl)) pa_nil))))
  (psa_end pss_nil)))))))))), ?_⟩
    have h0 := own_start (o := .ins C' dx []) hG gx hx 0
    have st0 := stabO G H x (.ins C' dx [])
    show tSeq _ _ (Ends.mk _ _ _ _) [some _, some _, some _, some _, some _, some _, none, none, none, none, none, none, none] _
    have l1 := T.l1
    have l2 := T.l2
    have lm : (names.map V.str).length = names.length := List.length_map _
    refine q_set h0 (ev_dcE st0 (ea_consV (ev_var rfl) ea_nilV) (SqL.of gn) (by omega) T.nd (by decide) (Nat.le_of_ble_eq_true rfl) (Nat.le_of_ble_eq_true rfl) (fun _ _ => rfl)) fun v1 G1 H1 s1 r1 => ?_
    obtain ⟨pd, rfl, _, gd⟩ := r1
    have gn1 := s1.g _ _ gn
    have lp := plc_len names 0
    refine q_if st0 s1.s (et_or st0 (et_not (et_testV (ev_chain st0 ev_c (ev_cbV (ea_consV (ev_var rfl) ea_nilV) (c_lenL st0 (SqL.of gn1))) (v_le st0) ev_c (v_le st0)))) (fun _ => et_testV (ev_opV (ev_cbV (ea_consV (ev_var rfl) ea_nilV) (c_lenD st0 gd)) (ev_cbV (ea_consV (ev_var rfl) ea_nilV) (c_lenL st0 (SqL.of gn1))) (v_neI st0)))) (fun H2 p2 k2 h2 => ?_) (fun H2 p2 k2 h2 => ?_)
    · refine absurd p2 ?_
      rw [lm, lp]
      simp
      omega
    refine q_end ?_
    have isn : ∀ {nm : Str}, nm ∈ names → okNm nm = true := fun h => T.ok _ h
    refine q_if st0 h2 (et_or st0 (et_not (et_B (b := true) (ev_cb (ea_cons (ev_lcVL (f := fun _ => .bl true) st0 (ev_var rfl) (SqL.of gn1) (by omega) (fun _ => rfl) fun j y G' hy s' => ?_) ea_nil) fun us G' s' e => ?_))) (fun _ => et_or st0 (et_testV (ev_opV (ev_var rfl) (ev_var rfl) (v_inD (neg := true) (key := .inr never) st0 gd))) (fun _ => et_testV (ev_opV (ev_var rfl) (ev_var rfl) (v_inD (neg := true) (key := .inr still) st0 gd))))) (fun H3 p3 k3 h3 => ?_) (fun H3 p3 k3 h3 => ?_)
    · obtain ⟨hj, rfl⟩ := map_get hy
      exact ev_eq (congrArg V.bl (isn (List.getElem_mem hj))) (ev_callV st0 (ea_consV (ev_var rfl) ea_nilV) fun G6 s6 => ⟨_, rfl, by have := okNm_len (isn (List.getElem_mem hj)); omega, rfl⟩)
    · obtain ⟨_, _, rfl, ⟨p, rfl, _, g⟩, e2⟩ := e
      obtain rfl := (show _ = _ from e2)
      have e3 : ((names.map V.str).map fun _ => true).all id = true := by
        rw [List.all_eq_true]
        intro b hb
        obtain ⟨_, _, rfl⟩ := List.mem_map.mp hb
        rfl
      rw [← e3]
      exact c_all st0 (SqL.of (by rw [g, List.map_map, List.map_map, List.map_map]; rfl))
    · refine absurd p3 ?_
      rw [plc_some T.nd (idx_get T.nv), plc_some T.nd (idx_get T.sl)]
      simp
    refine q_end ?_
    refine q_fldO h3 (ev_callV (R := fun v G' => ∃ p, v = .ref p ∧ TabI names G' p joins) (ws := [.ref pd, .ref pj]) st0 (ea_consV (ev_var rfl) (ea_consV (ev_var rfl) ea_nilV)) fun G' s' => ⟨pd, pj, names, joins, rfl, s' _ _ gd, T.nd, by omega, tj.mono (s1.g.trans s'), T.jl, T.jr, rfl⟩) rfl hC (hN _ (by decide)) (by decide) fun v4 G4 H4 s4 h4 r4 => ?_
    obtain ⟨p4, rfl, t4⟩ := r4
    generalize e4 : putF ("written_joins" : Str) (.ref p4) [] = f4 at h4
    have z4 : f4.length ≤ 1 := by rw [← e4]; exact putF_len _ _ _
    have st4 := stabO G H x (.ins C' dx f4)
    have gd4 := s4 _ _ gd
    refine q_fldO h4 (ev_callV (R := fun v G' => ∃ p, v = .ref p ∧ TabI names G' p products) (ws := [.ref pd, .ref pp]) st4 (ea_consV (ev_var rfl) (ea_consV (ev_var rfl) ea_nilV)) fun G' s' => ⟨pd, pp, names, products, rfl, s' _ _ gd4, T.nd, by omega, tp.mono ((s1.g.trans s4).trans s'), T.pl, T.pr, rfl⟩) rfl hC (hN _ (by decide)) (by omega) fun v5 G5 H5 s5 h5 r5 => ?_
    obtain ⟨p5, rfl, t5⟩ := r5
    generalize e5 : putF ("written_products" : Str) (.ref p5) f4 = f5 at h5
    have z5 : f5.length ≤ 2 := by rw [← e5]; exact Nat.le_trans (putF_len _ _ _) (by omega)
    have on4 : f5.lookup ("written_joins" : Str) = some (.ref p4) := by rw [← e5, lk_ne (by decide +kernel), ← e4]; exact lk_eq
    have on5 : f5.lookup ("written_products" : Str) = some (.ref p5) := by rw [← e5]; exact lk_eq
    have off5 : ∀ f, f ≠ ("written_joins" : Str) → f ≠ ("written_products" : Str) → f5.lookup f = none := fun f a b => by rw [← e5, lk_ne b, ← e4, lk_ne a]; rfl
    have st5 := stabO G H x (.ins C' dx f5)
    have s15 := (s1.g.trans s4).trans s5
    have gn5 := s15 _ _ gn
    have nj := names_join T.ok l2
    have jj := joinR_len T.ok l2 T.jl T.jr
    have jp := joinR_len T.ok l2 T.pl T.pr
    have hsz : (100000 : Nat) ≤ sizeLine := by decide
    have w1 : (" " : Str).length = 1 := by decide +kernel
    have ln := okNm_len (T.ok _ T.nv)
    have ls := okNm_len (T.ok _ T.sl)
    have ee : ∀ z : Str, Str.empty ++ z = z := Str.empty_append
    refine q_newX (R := fun s : Str => IsV (.str s)) (ss := [Txt.join (" " : Str) names, never ++ (" " : Str) ++ still]) st5 h5 (ea_cons (ev_join st5 ev_c ((ev_var rfl).imp fun v G' s' e => ⟨pn, e, SqL.of (s' _ _ gn5)⟩) (by rw [w1]; exact nj.1)) (ea_cons (ev_joined (ej_cons (ev_fmtS (ev_var rfl) (by omega)) (by rw [ee]; omega) (ej_cons ev_c (by rw [ee, Str.length_append]; omega) (ej_cons (ev_fmtS (ev_var rfl) (by omega)) (by rw [ee, Str.length_append, Str.length_append]; omega) (by rw [ee]; exact ej_nil))))) ea_nil)) (by simp) fun D G6 H6 J s6 hD hJ => ?_
    obtain ⟨G7, g7, s7, mv⟩ := hJ.step2 st5 s6.s hD
    have old : ∀ {b : Addr} {o : HO} {G' : Hp}, G b = some o → Same G6 G' → G' b = some o := fun e s' => s' _ _ (s6.g _ _ (s15 _ _ e))
    have rowsJ : ∀ {rows : List (List Str)} {pt : Addr} {G' : Hp} {n : Nat} {σ : L2.St}, TabS G pt rows → (∀ r ∈ rows, (r.map (·.length)).sum + r.length * 1 ≤ 208 ∧ (Txt.join (" " : Str) r).length ≤ 208) → rows.length ≤ 16 → ((rows.map fun r => Txt.join (" " : Str) r).map (·.length)).sum + (rows.map fun r => Txt.join (" " : Str) r).length * 1 ≤ 16777216 → Same G6 G' →
        σ = [some (.ref x), some (.ref pn), some (.ref pj), some (.ref pp), some (.str never), some (.str still), some (.ref pd), some (.ref D), some (.ref pt), none, none, none, none] →
        Ev (Own G H x (.ins C' dx f5)) n (0 + 0) (tM1 (rJoinK K) (tC (.str (" " : Str))) (tLc (iList K (tVar 8)) (gName 12) tYes (tM1 (rJoinK K) (tC (.str (" " : Str))) (tVar 12)) [12])) σ G' (IsV (.str (joinR rows))) := fun {rows pt G' n σ} ht hl h16 hs' s' eσ => by
      subst eσ
      obtain ⟨vs, hp, rl⟩ := ht
      have lv := rl_len rl
      refine ev_join st5 ev_c ((ev_lcG (R := fun r : List Str => IsV (.str (Txt.join (" " : Str) r))) (ss := rows) (σf := fun j => [some (.ref x), some (.ref pn), some (.ref pj), some (.ref pp), some (.str never), some (.str still), some (.ref pd), some (.ref D), some (.ref pt), none, none, none, vs[j]?]) st5 (ev_var rfl) (SqL.of (old hp s')) lv (by omega) (fun j y G'' J'' hy s'' t'' Qs q' => ?_) (fun _ => rfl) (fun j y r G'' hy hr s'' => ?_)).imp fun v G'' s'' ⟨p, ys, e, _, g, rl'⟩ => ?_) (by rw [w1]; exact hs')
      · rw [hy] at q'
        exact q'
      · show Ev _ _ _ _ [some (.ref x), some (.ref pn), some (.ref pj), some (.ref pp), some (.str never), some (.str still), some (.ref pd), some (.ref D), some (.ref pt), none, none, none, vs[j]?] _ _
        rw [hy]
        obtain ⟨u, hu, pr, rfl, hpr⟩ := rl_get rl hr
        rw [hu] at hy
        obtain rfl := Option.some.inj hy
        exact ev_join st5 ev_c ((ev_var rfl).imp fun v G3 s3 e => ⟨pr, e, SqL.of (s3 _ _ (s'' _ _ (old hpr s')))⟩) (by rw [w1]; have := (hl r (List.mem_of_getElem? hr)).1; omega)
      · rw [rl_vals rl'] at g
        exact ⟨p, e, SqL.of (by rw [g, List.map_map]; rfl)⟩
    refine q_forIX (RA := IsVs [.ref pj, .ref pp]) st5 s7 ((ev_lstN st5 (ea_consV (ev_var rfl) (ea_consV (ev_var rfl) ea_nilV)) (by simp)).imp fun v G' s' ⟨p, e, _, g⟩ => ⟨p, _, e, g, rfl⟩)
      (fun q j τ J => (∃ a, τ = [some (.ref x), some (.ref pn), some (.ref pj), some (.ref pp), some (.str never), some (.str still), some (.ref pd), some (.ref D), a, none, none, none, none]) ∧ LcQ (Own G H x (.ins C' dx f5)) G6 H6 0 D (fun s : Str => IsV (.str s)) ([Txt.join (" " : Str) names, never ++ (" " : Str) ++ still] ++ [joinR joins, joinR products].take j) J ∧ J q = some (.lst [.ref pj, .ref pp]) ∧ q ≠ D) fun q0 xs G8 H8 s8 gq ex => ?_
    obtain rfl := (show xs = _ from ex)
    refine ⟨fun j τ J hp => SqL.of hp.2.2.1, ⟨⟨_, rfl⟩, (mv s8).1, st5.sub s8.s _ _ gq, fun e => by rw [e, (mv s8).2] at gq; cases gq⟩, fun j y σ' J hy hp => ?_, fun σ' J hp => ?_⟩
    · obtain ⟨⟨a, rfl⟩, hq, hJq, hne⟩ := hp
      rcases j with _ | _ | j
      · cases hy
        show tSeq _ _ (Ends.mk _ _ _ _) [some (.ref x), some (.ref pn), some (.ref pj), some (.ref pp), some (.str never), some (.str still), some (.ref pd), some (.ref D), some (.ref pj), none, none, none, none] _
        exact q_appX2 st5 s6.s hD hq (x := joinR joins) (by simp) rfl (fun G' g' => ea_cons (rowsJ tj (rows_len T.ok l2 T.jl T.jr) (by rw [T.jl]; exact l2) jj.1 g' rfl) ea_nil) fun J' h' kp => q_end ⟨⟨_, rfl⟩, h', kp _ _ (fun z => z) hne hJq, hne⟩
      · cases hy
        show tSeq _ _ (Ends.mk _ _ _ _) [some (.ref x), some (.ref pn), some (.ref pj), some (.ref pp), some (.str never), some (.str still), some (.ref pd), some (.ref D), some (.ref pp), none, none, none, none] _
        exact q_appX2 st5 s6.s hD hq (x := joinR products) (by simp) rfl (fun G' g' => ea_cons (rowsJ tp (rows_len T.ok l2 T.pl T.pr) (by rw [T.pl]; exact l2) jp.1 g' rfl) ea_nil) fun J' h' kp => q_end ⟨⟨_, rfl⟩, h', kp _ _ (fun z => z) hne hJq, hne⟩
      · simp at hy
    · obtain ⟨⟨a, rfl⟩, hq, _, _⟩ := hp
      obtain ⟨G9, s9, r9⟩ := hq.pub st5 s6.s (Nat.le_refl _) hD
      obtain ⟨p9, ys, e, _, g9, rl9⟩ := r9
      obtain rfl : D = p9 := by cases e; rfl
      rw [rl_vals (g := V.str) rl9] at g9
      have ix : ∀ {n j : Nat} {z : Str} {σ : L2.St}, σ[7]? = some (some (.ref D)) → [Txt.join (" " : Str) names, never ++ (" " : Str) ++ still, joinR joins, joinR products][j]? = some z → Ev (Own G H x (.ins C' dx f5)) n (0 + 0) (tOp (rIxA K) (tVar 7) (tC (.int (j : Nat)))) σ G9 (IsV (.str z)) := fun hv hz => ev_opV (ev_var hv) ev_c (v_ixL st5 (SqL.of g9) (atI_nat (by
        show (List.map V.str [Txt.join (" " : Str) names, never ++ (" " : Str) ++ still, joinR joins, joinR products])[_]? = _
        rw [List.getElem?_map, hz]
        rfl)))
      have c1 : ("(table (" : Str).length = 8 ∧ (") " : Str).length = 2 ∧ (" (" : Str).length = 2 ∧ (") (" : Str).length = 3 ∧ ("))" : Str).length = 2 := by decide +kernel
      have la : ∀ a b : Str, (a ++ b).length = a.length + b.length := Str.length_append
      refine q_setV st5 s9.s (x := .str (tbLab names never still joins products)) (ev_joined (ej_cons ev_c (by rw [ee]; omega) (ej_cons (ev_fmtS (ix (j := 0) rfl rfl) (by omega)) (by simp only [ee, la]; omega) (ej_cons ev_c (by simp only [ee, la]; omega) (ej_cons (ev_fmtS (ix (j := 1) rfl rfl) (by simp only [la]; omega)) (by simp only [ee, la]; omega)
        (ej_cons ev_c (by simp only [ee, la]; omega) (ej_cons (ev_fmtS (ix (j := 2) rfl rfl) (by omega)) (by simp only [ee, la]; omega) (ej_cons ev_c (by simp only [ee, la]; omega) (ej_cons (ev_fmtS (ix (j := 3) rfl rfl) (by omega)) (by simp only [ee, la]; omega) (ej_cons ev_c (by simp only [ee, la]; omega) (by rw [ee]; exact ej_nil))))))))))) fun H10 k10 h10 => ?_
      have s69 := s6.g.trans s9.g
      have gd9 : G9 pd = some (.dK (plc names 0)) := s69 _ _ (s5 _ _ (s4 _ _ gd))
      refine q_supO h10 rfl hm hf (ea_cons (ev_var rfl) (ea_cons (ev_var rfl) (ea_cons (ev_opV (ev_var rfl) (ev_var rfl) (v_ixDs st5 gd9 (plc_some T.nd (idx_get T.nv)))) (ea_cons (ev_opV (ev_var rfl) (ev_var rfl) (v_ixDs st5 gd9 (plc_some T.nd (idx_get T.sl)))) ea_nil))))
        (RO := fun _ _ fs' G' => ScIs (tbLab names never still joins products) names (names.idxOf never : Nat) (names.idxOf still : Nat) 1 (idxT names products) (idxT names joins) fs' G' ∧ (∀ f, f ∉ scF → fs'.lookup f = f5.lookup f) ∧ fs'.length ≤ f5.length + 9) (fun vs G2 s2 r2 => ?_) (fun f6 G11 H11 s11 h11 r11 => ?_)
      · obtain ⟨_, _, rfl, a1, _, _, rfl, a2, _, _, rfl, a3, _, _, rfl, a4, a5⟩ := r2
        obtain rfl := (show _ = _ from a1)
        obtain rfl := (show _ = _ from a2)
        obtain rfl := (show _ = _ from a3)
        obtain rfl := (show _ = _ from a4)
        obtain rfl := (show _ = _ from a5)
        have sGs : Same G5 G2 := s69.trans s2
        refine ⟨rfl, tbLab names never still joins products, pn, names, (names.idxOf never : Nat), (names.idxOf still : Nat), 1, idxT names products, idxT names joins, by rw [Nat.zero_add, Nat.zero_add]; rfl, SqL.of (s2 _ _ (old gn s9.g)), by omega, T.nd, by omega, off5 _ (by decide +kernel) (by decide +kernel), off5 _ (by decide +kernel) (by decide +kernel), fun y dy fs' G' s3 hy hfs a b ha hb => ?_, rfl⟩
        have w4 := (hfs ("written_joins" : Str) (by decide +kernel)).trans on4
        have w5 := (hfs ("written_products" : Str) (by decide +kernel)).trans on5
        exact ⟨⟨y, dy, p5, fs', names, products, a, b, rfl, hy, w5, t5.mono (sGs.trans s3), by rw [T.pl]; exact ha, fun r hr => by rw [(T.pr r hr).1]; exact hb, rfl⟩, ⟨y, dy, p4, fs', names, joins, a, b, rfl, hy, w4, t4.mono ((s5.trans sGs).trans s3), by rw [T.jl]; exact ha, fun r hr => by rw [(T.jr r hr).1]; exact hb, rfl⟩⟩
      · exact q_end (q f6 _ _ (own_n h11) ⟨r11.1, fun f hf h1 => (r11.2.1 f hf).trans (off5 f (fun e => h1 (by rw [e]; decide)) (fun e => h1 (by rw [e]; decide)))⟩)
def oddW5 : List Str := ["", "abcdefghijklm", "A", "a-b", "a b", "<a/b>",
  "a_", " ", "0.", repS "z" 13]
def oddS5 : Str := "?+*:!#&.=$^~|;,'\x40[]{}-_/<>ABZ() "
theorem oddW5_ok : ∀ w ∈ oddW5, PyData.strOk w = true ∧ w.length ≤ 13 := by decide +kernel
theorem odd5_l : oddS5.length = 32 ∧ ("a1" : Str).length = 2 ∧ ("z9" : Str).length = 2 ∧ ("z" : Str).length = 1 := by decide +kernel
theorem odd5_c : ∀ i, i < 3 → (PyData.strOk (cutS "a1" none (some ((i : Nat) : Int))) = true ∧ (cutS "a1" none (some ((i : Nat) : Int))).length ≤ 2) ∧ (PyData.strOk (cutS "z9" none (some ((i : Nat) : Int))) = true ∧ (cutS "z9" none (some ((i : Nat) : Int))).length ≤ 2) := by decide +kernel
theorem odd5_at : ∀ i, i < 32 → ∃ c, atI oddS5.cps.toList ((i : Nat) : Int) = some c ∧ TxM 1 (⟨#[c]⟩ : Str) := by
  have e : ∀ i, i < 32 → ((atI oddS5.cps.toList ((i : Nat) : Int)).any fun c => decide (c < 128)) = true := by decide +kernel
  intro i h
  have q := e i h
  cases z : atI oddS5.cps.toList ((i : Nat) : Int) with
  | none =>
    rw [z] at q
    cases q
  | some c =>
    rw [z] at q
    have q : c < 128 := of_decide_eq_true q
    refine ⟨c, rfl, ?_, Nat.le_refl 1⟩
    rw [strOk_iff]
    intro x hx
    obtain rfl := List.mem_singleton.mp (show x ∈ [c] from hx)
    omega
abbrev s__law_odd : Stmt := top 17
theorem sc__law_odd : FnScope ["_law_state", "_law_words", "_law_pick_here", "_law_signs", "_law_sign"] ["_law_state"] (defScope s__law_odd) := ⟨rfl, rfl, rfl, by decide +kernel, rfl, by decide +kernel, by decide +kernel⟩
theorem ok_lodd5 {f : Addr} {fd : FuncData} (Z : Bi mg) (c__law_pick : Callee P w K mg base "_law_pick" CX0 1 ["_law_source_here", "_law_many"] [] sp_pick) (F : Fun K "_law_odd" "_law_odd" s__law_odd f fd) : FnOk P w K mg base CX0 2 f fd ["_law_state"] (spS POdd5) := by
  refine F.ok sc__law_odd (fun vs H Q E h => ?_) (fun cdv A outer s H vs Q E hr h => ?_)
  · obtain ⟨_, _, _, _, _, _, _, ⟨rfl, _⟩, _⟩ := h
    rfl
  · obtain ⟨sa, cl, n, k, G, R, h0, ⟨rfl, rfl, rfl⟩, q⟩ := h
    refine ⟨_, (pss_cons (ps_set (i := 1) sc__law_odd.nd rfl (Or.inl rfl) (pe_lst (pa_cons pe_str (pa_cons pe_str (pa_cons pe_str (pa_cons pe_str (pa_cons pe_str (pa_cons pe_str (pa_cons pe_str (pa_cons pe_str (pa_cons pe_str (pa_cons (pe_op op_mulS pe_str pe_int) pa_nil))))))))))))
  (pss_cons (ps_set (i := 2) sc__law_odd.nd rfl (Or.inl rfl) (pe_callC c__law_pick (hr.mono (by decide)) pass0 (pa_cons (pv 0) (pa_cons pe_int pa_nil))))
  (pss_cons (ps_if (pt_cmpR op_ltA (pv 2) pe_int (nomark _)) (pss_cons (ps_ret (pe_ix (ix_any K (hu_of hr)) (pv 1) (pv 2) (fun _ _ => rfl)))
  pss_nil) pss_nil)
  (pss_cons (ps_set (i := 3) sc__law_odd.nd rfl (Or.inl rfl) pe_str)
  (pss_cons (ps_set (i := 4) sc__law_odd.nd rfl (Or.inl rfl) (pe_ix (ix_any K (hu_of hr)) (pv 3) (pe_callC c__law_pick (hr.mono (by decide)) pass0 (pa_cons (pv 0) (pa_cons (pe_callB (call_lenA K) (by rfl) Z.z_len PySem.boot_len (pa_cons (pv 3) pa_nil)) pa_nil))) (fun _ _ => rfl)))
  (pss_cons (ps_ret (pe_op op_addA (pe_op op_addA (pe_slice sl_str pe_str po_none (po_some (pe_callC c__law_pick (hr.mono (by decide)) pass0 (pa_cons (pv 0) (pa_cons pe_int pa_nil))))) (pv 4)) (pe_slice sl_str pe_str po_none (po_some (pe_callC c__law_pick (hr.mono (by decide)) pass0 (pa_cons (pv 0) (pa_cons pe_int pa_nil)))))))
  pss_nil)))))), ?_⟩
    have st := stabS sa cl
    obtain ⟨l32, la, lz, lz1⟩ := odd5_l
    have hsz : (500000 : Nat) ≤ sizeLine := by decide
    show tSeq _ _ (Ends.mk _ _ _ _) [some _, none, none, none, none] _
    refine q_set h0 (ev_lstN (vs := oddW5.map V.str) st (ea_consV ev_c (ea_consV ev_c (ea_consV ev_c (ea_consV ev_c (ea_consV ev_c (ea_consV ev_c (ea_consV ev_c (ea_consV ev_c (ea_consV ev_c (ea_consV (ev_opV ev_c ev_c (v_repS (k := 13) st (by decide) (by decide) (by omega) (by omega))) ea_nilV)))))))))) (by decide)) fun v2 G2 H2 s2 r2 => ?_
    obtain ⟨pW, rfl, _, gW⟩ := r2
    refine q_setI st s2.s (P := fun i => 0 ≤ i ∧ i < 20) (ev_pick (ea_consV (ev_var rfl) (ea_consV ev_c ea_nilV)) (by decide) (by decide)) fun a H3 ha k3 h3 => ?_
    obtain ⟨a', rfl⟩ : ∃ b : Nat, a = (b : Nat) := ⟨a.toNat, by omega⟩
    have f3 := s2.fr.kp k3
    refine q_if st h3 (et_testV (ev_opV (ev_var rfl) ev_c (v_lt st))) (fun H4 p4 k4 h4 => ?_) (fun H4 p4 k4 h4 => q_end ?_)
    · have hl : a' < oddW5.length := by
        have := of_decide_eq_true p4.symm
        show a' < 10
        omega
      refine q_ret h4 (ev_opV (ev_var rfl) (ev_var rfl) (v_ixL st (SqL.of gW) (atI_nat (by rw [List.getElem?_map, List.getElem?_eq_getElem hl]; rfl)))) fun v5 G5 H5 s5 r5 => ?_
      exact q _ G5 H5 (Fr.stp ((f3.kp k4).trans s5.fr) (st.wk s5.s (by omega))) ⟨_, oddW5_ok _ (List.getElem_mem hl), r5⟩
    · refine q_setV st h4 (x := .str oddS5) ev_c fun H5 k5 h5 => ?_
      refine q_set h5 (R := IsS (TxM 1)) (ev_op (ka := 0) (kb := 1) (Ra := IsV (.str oddS5)) (Rb := IsI fun i => 0 ≤ i ∧ i < 32) (ev_var rfl) (ev_pick (many := 32) (ea_consV (ev_var rfl) (ea_consV (ev_eq (congrArg V.int (by rw [l32]; rfl)) (ev_cbV (ea_consV (ev_var rfl) ea_nilV) (c_lenS st (by omega)))) ea_nilV)) (by decide) (by decide)) fun x y G' s' hx hy => ?_) fun v6 G6 H6 s6 r6 => ?_
      · obtain rfl := (show _ = _ from hx)
        obtain ⟨i, hi, rfl⟩ := hy
        obtain ⟨i', rfl⟩ : ∃ a : Nat, i = (a : Nat) := ⟨i.toNat, by omega⟩
        obtain ⟨c, hc, tx⟩ := odd5_at i' (by omega)
        exact rv_imp (v_ixS st (by omega) hc) fun v G2 s2 r => ⟨_, tx, r⟩
      · obtain ⟨o, ho, rfl⟩ := r6
        have sl : ∀ {m : Nat} {σ : L2.St} {G' : Hp} {z : Str}, σ[0]? = some (some (.ref sa)) → z.length = 2 → (∀ i, i < 3 → PyData.strOk (cutS z none (some ((i : Nat) : Int))) = true ∧ (cutS z none (some ((i : Nat) : Int))).length ≤ 2) → Ev (Src sa cl) m 1 (tSl rSlS (tC (.str z)) tNoPart (tPart (tCall sp_pick [] E0 (tCons (tVar 0) (tCons (tC (.int 3)) tNil))))) σ G' (IsS (TxM 2)) := fun {m σ G' z} e hz ok G1 H1 s0 s Q q => by
          refine ev_c (S := Src sa cl) (n := m) (x := .str z) G1 H1 (Same.refl _) s _ fun v G2 H2 s2 e2 => ?_
          refine (ev_pick (ka := 0) (many := 3) (E := E0) (ea_consV (ev_var e) (ea_consV ev_c ea_nilV)) (by decide) (by decide)) G2 H2 (Same.refl _) s2.s _ fun w G3 H3 s3 e3 => ?_
          obtain ⟨i, hi, rfl⟩ := e3
          obtain ⟨i', rfl⟩ : ∃ a : Nat, i = (a : Nat) := ⟨i.toNat, by omega⟩
          exact ⟨_, rfl, z, e2, by omega, q _ G3 H3 (s2.trans s3) ⟨_, ok i' (by omega), rfl⟩⟩
        refine q_ret s6.s (ev_catT (ka := 1) (kb := 1) (N := 2) (M := 3) st (ev_catT (ka := 1) (kb := 0) (N := 1) (M := 2) st (sl rfl la fun i hi => (odd5_c i hi).1) (ev_TxV (ev_var rfl) ho) (by decide)) (sl rfl lz fun i hi => (odd5_c i hi).2) (by decide)) fun v7 G7 H7 s7 r7 => ?_
        obtain ⟨z, hz, rfl⟩ := r7
        exact q _ G7 H7 (Fr.stp ((((f3.kp k4).kp k5).trans s6.fr).trans s7.fr) (st.wk s7.s (by omega))) ⟨z, hz.up (by decide), rfl⟩
def fV5 (e z : Str) (v : V) : V := if v = .str e then .str z else v
theorem fV5_map (e z : Str) (r : List Str) : (r.map V.str).map (fV5 e z) = (r.map fun s => if s = e then z else s).map V.str := by
  rw [List.map_map, List.map_map]
  refine List.map_congr_left fun s _ => ?_
  show (if V.str s = .str e then V.str z else V.str s) = V.str (if s = e then z else s)
  by_cases h : s = e
  · rw [if_pos h, if_pos (by rw [h])]
  · rw [if_neg h, if_neg (fun y => h (V.str.inj y))]
theorem nodup_mid {α : Type} {l : List α} {q : α} (nd : l.Nodup) (hq : q ∉ l) (i : Nat) : (l.take i ++ [q] ++ l.drop i).Nodup := by
  rw [List.append_assoc]
  show (l.take i ++ q :: l.drop i).Nodup
  rw [List.perm_middle.nodup_iff, List.take_append_drop]
  exact List.nodup_cons.mpr ⟨hq, nd⟩
abbrev s__law_change : Stmt := top 18
theorem sc__law_change : FnScope ["_law_state", "_law_names", "_law_tables", "_law_edges", "_law_way", "_law_spot", "_law_other", "_law_table", "_law_early", "_law_rows", "_law_row", "_law_word"] ["_law_state", "_law_names", "_law_tables", "_law_edges"] (defScope s__law_change) := ⟨rfl, rfl, rfl, by decide +kernel, rfl, by decide +kernel, by decide +kernel⟩
theorem ok_lchange5 {f : Addr} {fd : FuncData} (Z : Bi mg) (c__law_pick : Callee P w K mg base "_law_pick" CX0 1 ["_law_source_here", "_law_many"] [] sp_pick) (c__law_odd : Callee P w K mg base "_law_odd" CX0 2 ["_law_state"] [] (spS POdd5)) (F : Fun K "_law_change" "_law_change" s__law_change f fd) : FnOk P w K mg base CX0 3 f fd ["_law_state", "_law_names", "_law_tables", "_law_edges"] sp_chg5 := by
  refine F.ok sc__law_change (fun vs H Q E h => ?_) (fun cdv A outer s H vs Q E hr h => ?_)
  · obtain ⟨_, _, _, _, _, _, _, _, _, _, _, _, _, _, rfl, _⟩ := h
    rfl
  · obtain ⟨sa, cl, n, G, pn, pe, pt, pT, A0, N0, EE0, T0, m, k, rfl, h0, t0, g0, hm, hk, q⟩ := h
    refine ⟨_, (pss_cons (ps_set (i := 4) sc__law_change.nd rfl (Or.inl rfl) (pe_callC c__law_pick (hr.mono (by decide)) pass0 (pa_cons (pv 0) (pa_cons pe_int pa_nil))))
  (pss_cons (ps_set (i := 5) sc__law_change.nd rfl (Or.inr rfl) (pe_ifExp (pt_cmpR op_gtA (pe_callB (call_lenA K) (by rfl) Z.z_len PySem.boot_len (pa_cons (pv 1) pa_nil)) pe_int (nomark _)) (pe_callC c__law_pick (hr.mono (by decide)) pass0 (pa_cons (pv 0) (pa_cons (pe_callB (call_lenA K) (by rfl) Z.z_len PySem.boot_len (pa_cons (pv 1) pa_nil)) pa_nil))) pe_int))
  (pss_cons (ps_set (i := 6) sc__law_change.nd rfl (Or.inl rfl) (pe_ifExp (pt_cmpR op_gtA (pe_callB (call_lenA K) (by rfl) Z.z_len PySem.boot_len (pa_cons (pv 1) pa_nil)) pe_int (nomark _)) (pe_callC c__law_pick (hr.mono (by decide)) pass0 (pa_cons (pv 0) (pa_cons (pe_callB (call_lenA K) (by rfl) Z.z_len PySem.boot_len (pa_cons (pv 1) pa_nil)) pa_nil))) pe_int))
  (pss_cons (ps_set (i := 7) sc__law_change.nd rfl (Or.inl rfl) (pe_ix (ix_any K (hu_of hr)) (pv 2) (pe_callC c__law_pick (hr.mono (by decide)) pass0 (pa_cons (pv 0) (pa_cons pe_int pa_nil))) (fun _ _ => rfl)))
  (pss_cons (ps_if (PW.pt (pw_and (pt_cmpR (op_eqA K hr.units) (pv 4) pe_int (nomark _)) (pw_and1 (pt_cmpR op_gtA (pe_callB (call_lenA K) (by rfl) Z.z_len PySem.boot_len (pa_cons (pv 1) pa_nil)) pe_int (nomark _))))) (pss_cons (ps_asg (pe_ix (ix_any K (hu_of hr)) (pv 1) (pv 6) (fun _ _ => rfl)) (pg_sub (pv 1) (pv 5) (set_any (hu_of hr))))
  pss_nil) pss_nil)
  (pss_cons (ps_if (PW.pt (pw_and (pt_cmpR (op_eqA K hr.units) (pv 4) pe_int (nomark _)) (pw_and1 (pt_cmpR op_gtA (pe_callB (call_lenA K) (by rfl) Z.z_len PySem.boot_len (pa_cons (pv 1) pa_nil)) pe_int (nomark _))))) (pss_cons (ps_set (i := 8) sc__law_change.nd rfl (Or.inr rfl) (pe_ix (ix_any K (hu_of hr)) (pv 1) (pv 5) (fun _ _ => rfl)))
  (pss_cons (ps_asg (pe_callC c__law_odd (hr.mono (by decide)) pass0 (pa_cons (pv 0) pa_nil)) (pg_sub (pv 1) (pv 5) (set_any (hu_of hr))))
  (pss_cons (ps_for PassesOwn.never rfl (pi_listK K (pv 2)) (pg_name (i := 9) sc__law_change.nd rfl (Or.inl rfl)) (pss_cons (ps_for PassesOwn.never rfl (pi_listK K (pv 9)) (pg_name (i := 10) sc__law_change.nd rfl (Or.inl rfl)) (pss_cons (ps_asg (pe_lc (own := [("_law_word", 11)]) (g := (gName 11)) rfl sc__law_change.nd (pi_listK K (pv 10)) (blkOk_by (by kernel_rfl)) (fun _ _ _ _ _ => (pg_name (i := 11) sc__law_change.nd rfl (Or.inl rfl))) (fun _ _ _ _ _ => pts_nil) (fun _ _ _ _ _ => (pe_ifExp (pt_cmpR (op_eqA K hr.units) (pv 11) (pv 8) (nomark _)) (pe_ix (ix_any K (hu_of hr)) (pv 1) (pv 5) (fun _ _ => rfl)) (pv 11)))) (L2.pg_all (pv 10)))
  pss_nil))
  pss_nil))
  (pss_cons (ps_asg (pe_lc (own := [("_law_word", 11)]) (g := (gName 11)) rfl sc__law_change.nd (pi_listK K (pv 3)) (blkOk_by (by kernel_rfl)) (fun _ _ _ _ _ => (pg_name (i := 11) sc__law_change.nd rfl (Or.inl rfl))) (fun _ _ _ _ _ => pts_nil) (fun _ _ _ _ _ => (pe_ifExp (pt_cmpR (op_eqA K hr.units) (pv 11) (pv 8) (nomark _)) (pe_ix (ix_any K (hu_of hr)) (pv 1) (pv 5) (fun _ _ => rfl)) (pv 11)))) (L2.pg_all (pv 3)))
  pss_nil)))) pss_nil)
  (pss_cons (ps_if (PW.pt (pw_and (pt_cmpR (op_eqA K hr.units) (pv 4) pe_int (nomark _)) (pw_and1 (pt_cmpR op_ltA (pv 5) (pe_callB (call_lenA K) (by rfl) Z.z_len PySem.boot_len (pa_cons (pv 7) pa_nil)) (nomark _))))) (pss_cons (ps_expr (pe_bm PySem.F.plainAttrs_list PySem.F.slot_list_pop PySem.F.type_list_pop mt_popAt (pv 7) (pa_cons (pv 5) pa_nil)))
  pss_nil) pss_nil)
  (pss_cons (ps_if (PW.pt (pw_and (pt_cmpR (op_eqA K hr.units) (pv 4) pe_int (nomark _)) (pw_and1 (pt_cmpR op_ltA (pv 5) (pe_callB (call_lenA K) (by rfl) Z.z_len PySem.boot_len (pa_cons (pv 7) pa_nil)) (nomark _))))) (pss_cons (ps_expr (pe_bm PySem.F.plainAttrs_list PySem.F.slot_list_insert PySem.F.type_list_insert mt_insert (pv 7) (pa_cons (pv 6) (pa_cons (pe_callTy (call_listA K) (by rfl) Z.z_list (by decide +kernel) (pa_cons (pe_ix (ix_any K (hu_of hr)) (pv 7) (pv 5) (fun _ _ => rfl)) pa_nil)) pa_nil))))
  pss_nil) pss_nil)
  (pss_cons (ps_if (PW.pt (pw_and (pt_cmpR (op_eqA K hr.units) (pv 4) pe_int (nomark _)) (pw_and (pt_cmpR op_ltA (pv 5) (pe_callB (call_lenA K) (by rfl) Z.z_len PySem.boot_len (pa_cons (pv 7) pa_nil)) (nomark _)) (pw_and1 (pt_cmpR op_gtA (pe_callB (call_lenA K) (by rfl) Z.z_len PySem.boot_len (pa_cons (pe_ix (ix_any K (hu_of hr)) (pv 7) (pv 5) (fun _ _ => rfl)) pa_nil)) pe_int (nomark _)))))) (pss_cons (ps_expr (pe_bm0 PySem.F.plainAttrs_list PySem.F.slot_list_pop PySem.F.type_list_pop mt_pop (pe_ix (ix_any K (hu_of hr)) (pv 7) (pv 5) (fun _ _ => rfl))))
  pss_nil) pss_nil)
  (pss_cons (ps_if (PW.pt (pw_and (pt_cmpR (op_eqA K hr.units) (pv 4) pe_int (nomark _)) (pw_and (pt_cmpR op_ltA (pv 5) (pe_callB (call_lenA K) (by rfl) Z.z_len PySem.boot_len (pa_cons (pv 7) pa_nil)) (nomark _)) (pw_and1 (pt_cmpR op_gtA (pe_callB (call_lenA K) (by rfl) Z.z_len PySem.boot_len (pa_cons (pe_ix (ix_any K (hu_of hr)) (pv 7) (pv 5) (fun _ _ => rfl)) pa_nil)) pe_int (nomark _)))))) (pss_cons (ps_expr (pe_bm PySem.F.plainAttrs_list PySem.F.slot_list_append PySem.F.type_list_append mt_append (pe_ix (ix_any K (hu_of hr)) (pv 7) (pv 5) (fun _ _ => rfl)) (pa_cons (pe_ix (ix_any K (hu_of hr)) (pe_ix (ix_any K (hu_of hr)) (pv 7) (pv 5) (fun _ _ => rfl)) pe_int (fun _ _ => rfl)) pa_nil)))
  pss_nil) pss_nil)
  (pss_cons (ps_if (PW.pt (pw_and (pt_cmpR (op_eqA K hr.units) (pv 4) pe_int (nomark _)) (pw_and (pt_cmpR op_ltA (pv 5) (pe_callB (call_lenA K) (by rfl) Z.z_len PySem.boot_len (pa_cons (pv 7) pa_nil)) (nomark _)) (pw_and1 (pt_cmpR op_ltA (pv 6) (pe_callB (call_lenA K) (by rfl) Z.z_len PySem.boot_len (pa_cons (pe_ix (ix_any K (hu_of hr)) (pv 7) (pv 5) (fun _ _ => rfl)) pa_nil)) (nomark _)))))) (pss_cons (ps_asg (pe_callC c__law_odd (hr.mono (by decide)) pass0 (pa_cons (pv 0) pa_nil)) (pg_sub (pe_ix (ix_any K (hu_of hr)) (pv 7) (pv 5) (fun _ _ => rfl)) (pv 6) (set_any (hu_of hr))))
  pss_nil) pss_nil)
  (pss_cons (ps_if (pt_cmpR (op_eqA K hr.units) (pv 4) pe_int (nomark _)) (pss_cons (ps_asg (pe_callC c__law_odd (hr.mono (by decide)) pass0 (pa_cons (pv 0) pa_nil)) (pg_sub (pv 3) (pe_op op_modA (pe_callTy call_intA (by rfl) Z.z_int (by decide +kernel) (pa_cons (pv 5) pa_nil)) pe_int) (set_any (hu_of hr))))
  pss_nil) pss_nil)
  pss_nil)))))))))))), ?_⟩
    have st := stabS sa cl
    have hc : ∀ (D : Addr) (m : Nat) (G' J : Hp), Src sa cl m G' J → Src sa cl m (cut G' (· = D)) J := fun D m G' J h => src_cut h
    have len : ∀ {m' i : Nat} {σ : L2.St} {G' : Hp} {p : Addr} {L : List Str}, σ[i]? = some (some (.ref p)) → G' p = some (.lst (L.map V.str)) → Ev (Src sa cl) m' 0 (tCB (rLenA K) (tCons (tVar i) tNil)) σ G' (IsV (.int (L.length : Nat))) := fun e g => ev_eq (congrArg V.int (by rw [List.length_map])) (ev_cbV (ea_consV (ev_var e) ea_nilV) (c_lenL st (SqL.of g)))
    have lenA : ∀ {m' i : Nat} {σ : L2.St} {G' : Hp} {p : Addr} {L : List Addr}, σ[i]? = some (some (.ref p)) → G' p = some (.lst (L.map V.ref)) → Ev (Src sa cl) m' 0 (tCB (rLenA K) (tCons (tVar i) tNil)) σ G' (IsV (.int (L.length : Nat))) := fun e g => ev_eq (congrArg V.int (by rw [List.length_map])) (ev_cbV (ea_consV (ev_var e) ea_nilV) (c_lenL st (SqL.of g)))
    have odd : ∀ {m' : Nat} {σ : L2.St} {G' : Hp}, σ[0]? = some (some (.ref sa)) → Ev (Src sa cl) m' 4 (tCall (spS POdd5) [] E0 (tCons (tVar 0) tNil)) σ G' (IsS (TxM 13)) := fun e => ev_callSV (ka := 0) (kb := 4) (ea_consV (ev_var e) ea_nilV) fun G' s' => ⟨rfl, rfl, rfl⟩
    have spt : ∀ {m' : Nat} {σ : L2.St} {G' : Hp}, σ[0]? = some (some (.ref sa)) → σ[1]? = some (some (.ref pn)) → G' pn = some (.lst (N0.map V.str)) → Ev (Src sa cl) m' 1 (tIf (tTest (tOp rGtI (tCB (rLenA K) (tCons (tVar 1) tNil)) (tC (.int 0)))) (tCall sp_pick [] E0 (tCons (tVar 0) (tCons (tCB (rLenA K) (tCons (tVar 1) tNil)) tNil))) (tC (.int 0))) σ G' (IsI fun i => 0 ≤ i ∧ (i < (m : Nat) ∨ i = 0)) := fun e0 e1 g => by
      have nm := g0.nm
      refine ev_if (ka := 1) (kb := 0) (kc := 0) (c := decide (((N0.length : Nat) : Int) > 0)) st (et_testV (ev_opV (len e1 g) ev_c (v_gt st))) (fun hh => ?_) fun hh => ev_c.imp fun v G2 s2 e => ⟨0, ⟨by decide, .inr rfl⟩, e⟩
      have hh := of_decide_eq_true hh
      exact ev_impI (ev_pick (ka := 0) (many := ((N0.length : Nat) : Int)) (ea_consV (ev_var e0) (ea_consV (len e1 g) ea_nilV)) (by omega) (by omega)) fun j hj => ⟨hj.1, .inl (by omega)⟩
    show tSeq _ _ (Ends.mk _ _ _ _) [some _, some _, some _, some _, none, none, none, none, none, none, none, none] _
    refine q_setI st h0 (P := fun i => 0 ≤ i ∧ i < 9) (ev_pick (ea_consV (ev_var rfl) (ea_consV ev_c ea_nilV)) (by decide) (by decide)) fun way H1 hw k1 h1 => ?_
    refine q_setI st h1 (spt rfl rfl t0.gn) fun sp2 H2 hsp k2 h2 => ?_
    obtain ⟨sp, rfl⟩ : ∃ b : Nat, sp2 = (b : Nat) := ⟨sp2.toNat, by have := hsp.1; omega⟩
    refine q_setI st h2 (spt rfl rfl t0.gn) fun ot2 H3 hot k3 h3 => ?_
    obtain ⟨ot, rfl⟩ : ∃ b : Nat, ot2 = (b : Nat) := ⟨ot2.toNat, by have := hot.1; omega⟩
    have sp17 : sp ≤ 17 := by have := hsp.2; omega
    have ot17 : ot ≤ 17 := by have := hot.2; omega
    have hsp : 0 < m → sp < m := fun h => by have := hsp.2; omega
    have hot : 0 < m → ot < m := fun h => by have := hot.2; omega
    refine q_set h3 (R := fun v _ => ∃ b, v = .ref (pT b)) (ev_op (ka := 0) (kb := 1) (Ra := IsV (.ref pt)) (Rb := IsI fun i => 0 ≤ i ∧ i < 2) (ev_var rfl) (ev_pick (ea_consV (ev_var rfl) (ea_consV ev_c ea_nilV)) (by decide) (by decide)) fun x y G' s' hx hy => ?_) fun v4 G4 H4 s4 r4 => ?_
    · obtain rfl := (show _ = _ from hx)
      obtain ⟨i, hi, rfl⟩ := hy
      by_cases hi0 : i = 0
      · subst hi0
        exact rv_imp (v_ixL st (SqL.of (s' _ _ t0.gp)) (atI_nat (j := 0) rfl)) fun v G2 s2 r => ⟨false, r⟩
      · obtain rfl : i = 1 := by omega
        exact rv_imp (v_ixL st (SqL.of (s' _ _ t0.gp)) (atI_nat (j := 1) rfl)) fun v G2 s2 r => ⟨true, r⟩
    obtain ⟨b, rfl⟩ := r4
    have t4 := t0.mono s4.g
    obtain ⟨KK, hKK⟩ : ∃ KK : Nat → Hp → Hp → Prop, KK = fun k' G' H' => ∃ n A N E T, Src sa cl n G' H' ∧ T5 pn pe pt pT A N E T G' ∧ Gd5 m k' N E T := ⟨_, rfl⟩
    obtain ⟨J, hJ⟩ : ∃ J : Nat → L2.St → Hp → Prop, J = fun k' σ' H' => ∃ y8 y9 y10 G', σ' = [some (.ref sa), some (.ref pn), some (.ref pt), some (.ref pe), some (.int way), some (.int (sp : Nat)), some (.int (ot : Nat)), some (.ref (pT b)), y8, y9, y10, none] ∧ KK k' G' H' := ⟨_, rfl⟩
    have jn : ∀ {k' : Nat} {y8 y9 y10 : Option V} {n : Nat} {G' H' : Hp} {A : Bool → List Addr} {N E : List Str} {T : Bool → List (List Str)}, Src sa cl n G' H' → T5 pn pe pt pT A N E T G' → Gd5 m k' N E T → J k' [some (.ref sa), some (.ref pn), some (.ref pt), some (.ref pe), some (.int way), some (.int (sp : Nat)), some (.int (ot : Nat)), some (.ref (pT b)), y8, y9, y10, none] H' := fun a b c => by
      rw [hJ, hKK]
      exact ⟨_, _, _, _, rfl, _, _, _, _, _, a, b, c⟩
    have je : ∀ {k' : Nat} {σ' : L2.St} {H' : Hp}, J k' σ' H' → ∃ y8 y9 y10 G' n A N E T, σ' = [some (.ref sa), some (.ref pn), some (.ref pt), some (.ref pe), some (.int way), some (.int (sp : Nat)), some (.int (ot : Nat)), some (.ref (pT b)), y8, y9, y10, none] ∧ Src sa cl n G' H' ∧ T5 pn pe pt pT A N E T G' ∧ Gd5 m k' N E T := fun h => by
      rw [hJ, hKK] at h
      obtain ⟨y8, y9, y10, G', e, n, A, N, E, T, a, b, c⟩ := h
      exact ⟨y8, y9, y10, G', n, A, N, E, T, e, a, b, c⟩
    clear hKK hJ
    have nmx : ∀ {m' i : Nat} {σ : L2.St} {G' : Hp} {L : List Str} {x : Str} {j : Nat}, σ[1]? = some (some (.ref pn)) → σ[i]? = some (some (.int (j : Nat))) → G' pn = some (.lst (L.map V.str)) → L[j]? = some x → Ev (Src sa cl) m' 0 (tOp (rIxA K) (tVar 1) (tVar i)) σ G' (IsV (.str x)) := fun e1 e2 g hx => ev_opV (ka := 0) (kb := 0) (ev_var e1) (ev_var e2) (v_ixL st (SqL.of g) (atI_nat (by rw [List.getElem?_map, hx]; rfl)))
    have rwx : ∀ {m' i : Nat} {σ : L2.St} {G' : Hp} {L : List Addr} {p a : Addr} {j : Nat}, σ[7]? = some (some (.ref p)) → σ[i]? = some (some (.int (j : Nat))) → G' p = some (.lst (L.map V.ref)) → L[j]? = some a → Ev (Src sa cl) m' 0 (tOp (rIxA K) (tVar 7) (tVar i)) σ G' (IsV (.ref a)) := fun e1 e2 g hx => ev_opV (ka := 0) (kb := 0) (ev_var e1) (ev_var e2) (v_ixL st (SqL.of g) (atI_nat (by rw [List.getElem?_map, hx]; rfl)))
    have rowOf : ∀ {A : Bool → List Addr} {N E : List Str} {T : Bool → List (List Str)} {G' : Hp} {c : Bool} {i : Nat} {a : Addr}, T5 pn pe pt pT A N E T G' → (A c)[i]? = some a → ∃ r, (T c)[i]? = some r ∧ r ∈ T c ∧ G' a = some (.lst (r.map V.str)) := fun {A N E T G' c i a} t ha => by
      have hi : i < (T c).length := by
        have := (List.getElem?_eq_some_iff.mp ha).1
        rw [(t.gr c).1] at this
        exact this
      exact ⟨_, List.getElem?_eq_getElem hi, List.getElem_mem hi, (t.gr c).2 i a _ ha (List.getElem?_eq_getElem hi)⟩
    show tSeq _ _ (Ends.mk _ _ _ _) [some (.ref sa), some (.ref pn), some (.ref pt), some (.ref pe), some (.int way), some (.int (sp : Nat)), some (.int (ot : Nat)), some (.ref (pT b)), none, none, none, none] _
    -- 1
    refine q_ifB (k := 0) st (J k) s4.s (et_and (ka := 0) (kb := 0) st (et_testV (ev_opV (ev_var rfl) ev_c (v_eqI st))) fun _ => et_testV (ev_opV (len rfl t4.gn) ev_c (v_gt st))) (fun σ' H' hJ => ?_) (fun H5 hu p5 k5 h5 => ?_) (fun H5 hu p5 k5 h5 => q_end (hu _ _ (jn h5 t4 g0)))
    rotate_left
    · have z := of_decide_eq_true (Bool.and_eq_true_iff.mp p5.symm).2
      have nm := g0.nm
      have l1 : sp < N0.length := by have := hsp (by omega); omega
      have l2 : ot < N0.length := by have := hot (by omega); omega
      obtain ⟨_, _, b0, b1⟩ := src_fr0 h5 t4.gn
      refine q_setNewR (R := IsS (TxM 13)) st b0 b1 h5 (hc _) t4.gn (by rw [List.length_map]; exact l1) ((nmx rfl rfl t4.gn (List.getElem?_eq_getElem l2)).imp fun v G' s' e => ⟨_, g0.no _ (List.getElem_mem l2), e⟩) (fun G' s' => ev_var rfl) (fun G' s' => ev_var rfl) fun v G' H' hv s' hS => q_end (hu _ _ ?_)
      obtain ⟨x, hx, rfl⟩ := hv
      rw [← List.map_set] at hS
      exact jn hS ((t4.mono s').setN (N' := N0.set sp x)) (g0.setN hx)
    obtain ⟨y8, y9, y10, G5, n5, A, N, E5, T, rfl, h5, t5, g5⟩ := je hJ
    clear hJ t4 s4
    -- 2
    refine q_ifB (k := 0) st (J k) h5 (et_and (ka := 0) (kb := 0) st (et_testV (ev_opV (ev_var rfl) ev_c (v_eqI st))) fun _ => et_testV (ev_opV (len rfl t5.gn) ev_c (v_gt st))) (fun σ' H' hJ => ?_) (fun H6 hu p6 k6 h6 => ?_) (fun H6 hu p6 k6 h6 => q_end (hu _ _ (jn h6 t5 g5)))
    rotate_left
    · have z := of_decide_eq_true (Bool.and_eq_true_iff.mp p6.symm).2
      have nm := g5.nm
      have l1 : sp < N.length := by have := hsp (by omega); omega
      refine q_setV st h6 (nmx rfl rfl t5.gn (List.getElem?_eq_getElem l1)) fun H7 k7 h7 => ?_
      obtain ⟨e0, he0⟩ : ∃ e0, e0 = N[sp] := ⟨_, rfl⟩
      rw [← he0]
      obtain ⟨_, _, b0, b1⟩ := src_fr0 h7 t5.gn
      show tSeq _ _ (Ends.mk _ _ _ _) [some (.ref sa), some (.ref pn), some (.ref pt), some (.ref pe), some (.int way), some (.int (sp : Nat)), some (.int (ot : Nat)), some (.ref (pT b)), some (.str e0), y9, y10, none] _
      refine q_setNewR (R := IsS (TxM 13)) st b0 b1 h7 (hc _) t5.gn (by rw [List.length_map]; exact l1) (odd rfl) (fun G' s' => ev_var rfl) (fun G' s' => ev_var rfl) fun v G8 H8 hv s8 h8 => ?_
      obtain ⟨x, hx, rfl⟩ := hv
      rw [← List.map_set] at h8
      have t8 := (t5.mono s8).setN (N' := N.set sp x)
      have g8 : Gd5 m k (N.set sp x) E5 T := g5.setN hx
      have x8 : (N.set sp x)[sp]? = some x := List.getElem?_set_self l1
      generalize N.set sp x = N8 at h8 t8 g8 x8
      generalize upd G8 pn (.lst (N8.map V.str)) = G9 at h8 t8
      have cmp : ∀ {m' ix : Nat} {σ : L2.St} {G' : Hp} {p : Addr} {r : List Str} {y9 y10 : Option V}, σ = [some (.ref sa), some (.ref pn), some (.ref pt), some (.ref pe), some (.int way), some (.int (sp : Nat)), some (.int (ot : Nat)), some (.ref (pT b)), some (.str e0), y9, y10, none] → σ[ix]? = some (some (.ref p)) → G' p = some (.lst (r.map V.str)) → r.length ≤ 1000 → G' pn = some (.lst (N8.map V.str)) →
          Ev (Src sa cl) m' 0 (tLc (iList K (tVar ix)) (gName 11) tYes (tIf (tTest (tOp (rEqA K) (tVar 11) (tVar 8))) (tOp (rIxA K) (tVar 1) (tVar 5)) (tVar 11)) [11]) σ G' (IsNew G' (.lst ((r.map fun s => if s = e0 then x else s).map V.str))) := fun {m' ix σ G' p r y9 y10} eσ e g hl gn => by
        subst eσ
        rw [← fV5_map]
        refine ev_lcVL (f := fV5 e0 x) st (ev_var e) (SqL.of g) (by rw [List.length_map]; omega) (fun _ => rfl) fun j v G2 hv s2 => ?_
        obtain ⟨hj, rfl⟩ := map_get hv
        refine ev_eq ?_ (ev_ifV (ka := 0) (kb := 0) (kc := 0) st (et_testV (ev_opV (ka := 0) (kb := 0) (ev_var rfl) (ev_var rfl) (v_eqS st))) (fun _ => nmx rfl rfl (s2 _ _ gn) x8) fun _ => ev_var rfl)
        unfold fV5
        by_cases h : r[j] = e0
        · rw [if_pos (decide_eq_true h), if_pos (by rw [h])]
        · rw [if_neg (by rw [decide_eq_false h]; decide), if_neg (fun y => h (V.str.inj y))]
      have okx : ∀ {r : List Str}, (∀ s ∈ r, TxM 13 s) → ∀ s ∈ r.map (fun s => if s = e0 then x else s), TxM 13 s := fun h s hs => by
        obtain ⟨y, hy, rfl⟩ := List.mem_map.mp hs
        split
        · exact hx
        · exact h y hy
      refine q_forIL (k := 0) st h8 (ev_var rfl) (SqL.of t8.gp) (fun l τ J' => ∃ z9 z10 G' n' T', τ = [some (.ref sa), some (.ref pn), some (.ref pt), some (.ref pe), some (.int way), some (.int (sp : Nat)), some (.int (ot : Nat)), some (.ref (pT b)), some (.str e0), z9, z10, none] ∧ Src sa cl n' G' J' ∧ T5 pn pe pt pT A N8 E5 T' G' ∧ Gd5 m k N8 E5 T') (fun j τ J' ⟨_, _, G', n', T', _, a, b, _⟩ => SqL.of (st.sub a _ _ b.gp)) (fun G' H' s' => ⟨y9, y10, G', _, T, rfl, s'.s, t8.mono s'.g, g8⟩) (fun l v τ J' hv hP => ?_) (fun τ J' hP => ?_)
      · obtain ⟨z9, z10, G10, n10, T10, rfl, h10, t10, g10⟩ := hP
        obtain ⟨c, rfl⟩ : ∃ c, v = .ref (pT c) := by
          rcases l with _ | _ | l
          · exact ⟨false, (Option.some.inj hv).symm⟩
          · exact ⟨true, (Option.some.inj hv).symm⟩
          · cases hv
        show tSeq _ _ (Ends.mk _ _ _ _) [some (.ref sa), some (.ref pn), some (.ref pt), some (.ref pe), some (.int way), some (.int (sp : Nat)), some (.int (ot : Nat)), some (.ref (pT b)), some (.str e0), some (.ref (pT c)), z10, none] _
        refine q_forIL (k := 0) st h10 (ev_var rfl) (SqL.of (t10.gt c)) (fun l τ J' => ∃ z10 G' n' T', τ = [some (.ref sa), some (.ref pn), some (.ref pt), some (.ref pe), some (.int way), some (.int (sp : Nat)), some (.int (ot : Nat)), some (.ref (pT b)), some (.str e0), some (.ref (pT c)), z10, none] ∧ Src sa cl n' G' J' ∧ T5 pn pe pt pT A N8 E5 T' G' ∧ Gd5 m k N8 E5 T') (fun j τ J' ⟨_, G', n', T', _, a, b, _⟩ => SqL.of (st.sub a _ _ (b.gt c))) (fun G' H' s' => ⟨z10, G', _, T10, rfl, s'.s, t10.mono s'.g, g10⟩) (fun l2 v τ J' hv hP => ?_) (fun τ J' hP => ?_)
        · obtain ⟨z10, G11, n11, T11, rfl, h11, t11, g11⟩ := hP
          obtain ⟨hl2, rfl⟩ := map_get hv
          have ha : (A c)[l2]? = some (A c)[l2] := List.getElem?_eq_getElem hl2
          generalize (A c)[l2] = ra at ha
          obtain ⟨r, hr1, hr2, gr⟩ := rowOf t11 ha
          obtain ⟨_, _, b0, b1⟩ := src_fr0 h11 gr
          have rl := (g11.tr c r hr2).1
          show tSeq _ _ (Ends.mk _ _ _ _) [some (.ref sa), some (.ref pn), some (.ref pt), some (.ref pe), some (.int way), some (.int (sp : Nat)), some (.int (ot : Nat)), some (.ref (pT b)), some (.str e0), some (.ref (pT c)), some (.ref ra), none] _
          refine q_allG (ka := 0) (kb := 0) st b0 b1 (hc _) h11 gr (by rw [List.length_map, List.length_map, List.length_map]; omega) (cmp rfl rfl gr (by omega) t11.gn) (fun G' s' => ev_var rfl) fun G' H' s' hS => q_end ⟨_, _, _, _, rfl, hS, (t11.mono s').setR ha, g11.setR (by rw [List.length_map]; exact rl) (okx (g11.tr c r hr2).2)⟩
        · obtain ⟨z10, G11, n11, T11, rfl, h11, t11, g11⟩ := hP
          exact q_end ⟨_, _, G11, n11, T11, rfl, h11, t11, g11⟩
      · obtain ⟨z9, z10, G10, n10, T10, rfl, h10, t10, g10⟩ := hP
        obtain ⟨_, _, b0, b1⟩ := src_fr0 h10 t10.ge
        have el := g10.el
        refine q_allG (ka := 0) (kb := 0) st b0 b1 (hc _) h10 t10.ge (by rw [List.length_map, List.length_map, List.length_map]; omega) (cmp rfl rfl t10.ge (by omega) t10.gn) (fun G' s' => ev_var rfl) fun G' H' s' hS => q_end (hu _ _ (jn hS (t10.mono s').setE (g10.setE' (by rw [List.length_map]; exact el) (okx g10.eo))))
    obtain ⟨y8, y9, y10, G6, n6, A, N, E5, T, rfl, h6, t6, g6⟩ := je hJ
    clear hJ t5 g5 h5
    have lA : ∀ {A : Bool → List Addr} {N E : List Str} {T : Bool → List (List Str)} {G' : Hp} {k' : Nat}, T5 pn pe pt pT A N E T G' → Gd5 m k' N E T → k' ≤ 6 → (A b).length ≤ 23 := fun t g hk' => by
      have := (t.gr b).1
      have := g.tl b
      omega
    -- 3
    refine q_ifB (k := 0) st (J k) h6 (et_and (ka := 0) (kb := 0) st (et_testV (ev_opV (ev_var rfl) ev_c (v_eqI st))) fun _ => et_testV (ev_opV (ev_var rfl) (lenA rfl (t6.gt b)) (v_lt st))) (fun σ' H' hJ => ?_) (fun H7 hu p7 k7 h7 => ?_) (fun H7 hu p7 k7 h7 => q_end (hu _ _ (jn h7 t6 g6)))
    rotate_left
    · have z := of_decide_eq_true (Bool.and_eq_true_iff.mp p7.symm).2
      have l1 : sp < (A b).length := by omega
      obtain ⟨_, _, b0, b1⟩ := src_fr0 h7 (t6.gt b)
      have ll := lA t6 g6 (by omega)
      refine q_popAt (ka := 0) (kb := 0) st b0 b1 (hc _) h7 (t6.gt b) (by rw [List.length_map]; omega) (by rw [List.length_map]; exact l1) (ev_var rfl) (ev_var rfl) fun G' H' s' hS => q_end (hu _ _ ?_)
      have t7 := t6.mono s'
      have er : ((A b).map V.ref).eraseIdx sp = ((A b).take sp ++ (A b).drop (sp + 1)).map V.ref := by
        rw [List.eraseIdx_eq_take_drop_succ, List.map_append, List.map_take, List.map_drop]
      rw [er] at hS
      have nd : ((A b).take sp ++ (A b).drop (sp + 1)).Nodup := by
        rw [← List.eraseIdx_eq_take_drop_succ]
        exact (t6.a.nd b).sublist (List.eraseIdx_sublist _ _)
      have sub : ∀ a ∈ (A b).take sp ++ (A b).drop (sp + 1), a ∈ A b := fun a ha => by
        rcases List.mem_append.mp ha with h | h
        · exact List.mem_of_mem_take h
        · exact List.mem_of_mem_drop h
      refine jn hS (t7.setT (rs := (T b).take sp ++ (T b).drop (sp + 1)) (((t7.gr b).take sp).app ((t7.gr b).drop (sp + 1))) nd fun a ha => ⟨t6.a.na b a (sub a ha), fun c hcb => t6.a.dj b c (Ne.symm hcb) a (sub a ha)⟩) (g6.setT ?_ fun r hr => g6.tr b r ?_)
      · have := g6.tl b
        rw [List.length_append, List.length_take, List.length_drop]
        omega
      · rcases List.mem_append.mp hr with h | h
        · exact List.mem_of_mem_take h
        · exact List.mem_of_mem_drop h
    obtain ⟨y8, y9, y10, G7, n7, A, N, E5, T, rfl, h7, t7, g7⟩ := je hJ
    clear hJ t6 g6 h6
    -- 4
    refine q_ifB (k := 0) st (J (k + 1)) h7 (et_and (ka := 0) (kb := 0) st (et_testV (ev_opV (ev_var rfl) ev_c (v_eqI st))) fun _ => et_testV (ev_opV (ev_var rfl) (lenA rfl (t7.gt b)) (v_lt st))) (fun σ' H' hJ => ?_) (fun H8 hu p8 k8 h8 => ?_) (fun H8 hu p8 k8 h8 => q_end (hu _ _ (jn h8 t7 (g7.up (by omega)))))
    rotate_left
    · have z := of_decide_eq_true (Bool.and_eq_true_iff.mp p8.symm).2
      have l1 : sp < (A b).length := by omega
      obtain ⟨_, _, b0, b1⟩ := src_fr0 h8 (t7.gt b)
      have ll := lA t7 g7 (by omega)
      have ha : (A b)[sp]? = some (A b)[sp] := List.getElem?_eq_getElem l1
      obtain ⟨r, hr1, hr2, gr⟩ := rowOf t7 ha
      refine q_insG (ka := 0) (kb := 0) (P := fun i => i = (ot : Nat)) (R := IsNew G7 (.lst (r.map V.str))) st b0 b1 (hc _) h8 (t7.gt b) (by rw [List.length_map]; omega) (fun i hi => by omega) (ev_var rfl) (ea_cons (ka := 0) (kb := 0) ((ev_var rfl).imp fun v G' s' h => ⟨_, rfl, h⟩) (ea_cons (ka := 0) (kb := 0) (ev_cb (k := 0) (RA := RCons (IsV (.ref (A b)[sp])) RNil) (ea_cons (ka := 0) (kb := 0) (rwx rfl rfl (t7.gt b) ha) ea_nil) fun vs G' s' h => ?_) ea_nil)) fun i v G' H' hi hv s' hS => q_end (hu _ _ ?_)
      · obtain ⟨_, _, rfl, e1, e2⟩ := h
        obtain rfl := (show _ = _ from e1)
        obtain rfl := (show _ = [] from e2)
        exact fun n2 G2 H2 a1 a2 Q2 q2 => (c_listN (K := K) st (SqL.of (s' _ _ gr))) n2 G2 H2 a1 a2 Q2 fun v G3 H3 s3 ⟨p', e1, e2, e3⟩ => q2 v G3 H3 s3 ⟨p', e1, s'.free e2, e3⟩
      · subst hi
        obtain ⟨nr, rfl, fr, gnr⟩ := hv
        rw [Int.toNat_natCast] at hS
        have t8 := t7.mono s'
        have er : ((A b).map V.ref).take ot ++ [V.ref nr] ++ ((A b).map V.ref).drop ot = ((A b).take ot ++ [nr] ++ (A b).drop ot).map V.ref := by
          rw [List.map_append, List.map_append, List.map_take, List.map_drop]
          rfl
        rw [er] at hS
        have out : ∀ c, nr ∉ A c := fun c hx => by
          obtain ⟨i, hi⟩ := List.getElem?_of_mem hx
          obtain ⟨r', _, _, g'⟩ := rowOf t7 hi
          rw [fr] at g'
          cases g'
        have mem : ∀ a ∈ (A b).take ot ++ [nr] ++ (A b).drop ot, a = nr ∨ a ∈ A b := fun a ha => by
          rcases List.mem_append.mp ha with h | h
          · rcases List.mem_append.mp h with h | h
            · exact .inr (List.mem_of_mem_take h)
            · exact .inl (List.mem_singleton.mp h)
          · exact .inr (List.mem_of_mem_drop h)
        refine jn hS (t8.setT (rs := (T b).take ot ++ [r] ++ (T b).drop ot) ((((t8.gr b).take ot).app (.one gnr)).app ((t8.gr b).drop ot)) (nodup_mid (t7.a.nd b) (out b) ot) fun a ha => ?_) (g7.up (Nat.le_succ k) |>.setT ?_ fun x hx => ?_)
        · rcases mem a ha with rfl | h
          · refine ⟨⟨fun e => ?_, fun e => ?_, fun e => ?_, fun c e => ?_⟩, fun c _ => out c⟩
            · rw [e, t7.gn] at fr
              cases fr
            · rw [e, t7.ge] at fr
              cases fr
            · rw [e, t7.gp] at fr
              cases fr
            · rw [e, t7.gt c] at fr
              cases fr
          · exact ⟨t7.a.na b a h, fun c hcb => t7.a.dj b c (Ne.symm hcb) a h⟩
        · have := g7.tl b
          rw [List.length_append, List.length_append, List.length_take, List.length_drop]
          show _ + 1 + _ ≤ _
          omega
        · have z : x ∈ T b := by
            rcases List.mem_append.mp hx with h | h
            · rcases List.mem_append.mp h with h | h
              · exact List.mem_of_mem_take h
              · obtain rfl := List.mem_singleton.mp h
                exact hr2
            · exact List.mem_of_mem_drop h
          exact ⟨Nat.le_trans (g7.tr b x z).1 (by omega), (g7.tr b x z).2⟩
    obtain ⟨y8, y9, y10, G8, n8, A, N, E5, T, rfl, h8, t8, g8⟩ := je hJ
    clear hJ t7 g7 h7
    have lrow : ∀ {m' i : Nat} {σ : L2.St} {G' : Hp} {L : List Addr} {p a : Addr} {j : Nat} {r : List Str}, σ[7]? = some (some (.ref p)) → σ[i]? = some (some (.int (j : Nat))) → G' p = some (.lst (L.map V.ref)) → L[j]? = some a → G' a = some (.lst (r.map V.str)) → Ev (Src sa cl) m' 0 (tCB (rLenA K) (tCons (tOp (rIxA K) (tVar 7) (tVar i)) tNil)) σ G' (IsV (.int (r.length : Nat))) := fun e1 e2 g hx ga => ev_eq (congrArg V.int (by rw [List.length_map])) (ev_cbV (ea_consV (ka := 0) (kb := 0) (rwx e1 e2 g hx) ea_nilV) (c_lenL st (SqL.of ga)))
    -- 5
    refine q_ifB (k := 0) (P := fun c => c = true → ∃ a r, (A b)[sp]? = some a ∧ (T b)[sp]? = some r ∧ r ∈ T b ∧ G8 a = some (.lst (r.map V.str)) ∧ 0 < r.length) st (J (k + 1)) h8 ?_ (fun σ' H' hJ => ?_) (fun H9 hu p9 k9 h9 => ?_) (fun H9 hu p9 k9 h9 => q_end (hu _ _ (jn h9 t8 g8)))
    · by_cases hs : sp < (A b).length
      · have ha : (A b)[sp]? = some (A b)[sp] := List.getElem?_eq_getElem hs
        obtain ⟨r, hr1, hr2, gr⟩ := rowOf t8 ha
        refine (et_and (ka := 0) (kb := 0) st (et_testV (ev_opV (ev_var rfl) ev_c (v_eqI st))) fun _ => et_and (ka := 0) (kb := 0) st (et_testV (ev_opV (ev_var rfl) (lenA rfl (t8.gt b)) (v_lt st))) fun _ => et_testV (ev_opV (lrow rfl rfl (t8.gt b) ha gr) ev_c (v_gt st))).imp fun c h hc => ?_
        rw [h] at hc
        have z := of_decide_eq_true (Bool.and_eq_true_iff.mp (Bool.and_eq_true_iff.mp hc).2).2
        exact ⟨_, r, ha, hr1, hr2, gr, by omega⟩
      · refine (et_and (ka := 0) (kb := 0) st (et_testV (ev_opV (ev_var rfl) ev_c (v_eqI st))) fun _ => et_and (ka := 0) (kb := 0) (b := false) st (et_testV (ev_opV (ev_var rfl) (lenA rfl (t8.gt b)) (v_lt st))) fun hh => ?_).imp fun c h hc => ?_
        · have := of_decide_eq_true hh
          omega
        · rw [h] at hc
          simp at hc
    rotate_left
    · obtain ⟨a, r, ha, hr1, hr2, gr, hl⟩ := p9 rfl
      obtain ⟨_, _, b0, b1⟩ := src_fr0 h9 gr
      have er : r.map V.str = r.dropLast.map V.str ++ [V.str (r.getLast (by intro e; rw [e] at hl; cases hl))] := by
        have := congrArg (List.map V.str) (List.dropLast_concat_getLast (l := r) (by intro e; rw [e] at hl; cases hl))
        rw [List.map_append] at this
        exact this.symm
      rw [er] at gr
      refine q_popG (ka := 0) st b0 b1 (hc _) h9 gr (rwx rfl rfl (t8.gt b) ha) fun G' H' s' hS => q_end (hu _ _ (jn hS ((t8.mono s').setR ha) (g8.setR ?_ fun s hs => (g8.tr b r hr2).2 s ((List.dropLast_sublist r).subset hs))))
      have := (g8.tr b r hr2).1
      rw [List.length_dropLast]
      omega
    obtain ⟨y8, y9, y10, G9, n9, A, N, E5, T, rfl, h9, t9, g9⟩ := je hJ
    clear hJ t8 g8 h8
    -- 6
    refine q_ifB (k := 0) (P := fun c => c = true → ∃ a r, (A b)[sp]? = some a ∧ (T b)[sp]? = some r ∧ r ∈ T b ∧ G9 a = some (.lst (r.map V.str)) ∧ 0 < r.length) st (J (k + 2)) h9 ?_ (fun σ' H' hJ => ?_) (fun H10 hu p10 k10 h10 => ?_) (fun H10 hu p10 k10 h10 => q_end (hu _ _ (jn h10 t9 (g9.up (by omega)))))
    · by_cases hs : sp < (A b).length
      · have ha : (A b)[sp]? = some (A b)[sp] := List.getElem?_eq_getElem hs
        obtain ⟨r, hr1, hr2, gr⟩ := rowOf t9 ha
        refine (et_and (ka := 0) (kb := 0) st (et_testV (ev_opV (ev_var rfl) ev_c (v_eqI st))) fun _ => et_and (ka := 0) (kb := 0) st (et_testV (ev_opV (ev_var rfl) (lenA rfl (t9.gt b)) (v_lt st))) fun _ => et_testV (ev_opV (lrow rfl rfl (t9.gt b) ha gr) ev_c (v_gt st))).imp fun c h hc => ?_
        rw [h] at hc
        have z := of_decide_eq_true (Bool.and_eq_true_iff.mp (Bool.and_eq_true_iff.mp hc).2).2
        exact ⟨_, r, ha, hr1, hr2, gr, by omega⟩
      · refine (et_and (ka := 0) (kb := 0) st (et_testV (ev_opV (ev_var rfl) ev_c (v_eqI st))) fun _ => et_and (ka := 0) (kb := 0) (b := false) st (et_testV (ev_opV (ev_var rfl) (lenA rfl (t9.gt b)) (v_lt st))) fun hh => ?_).imp fun c h hc => ?_
        · have := of_decide_eq_true hh
          omega
        · rw [h] at hc
          simp at hc
    rotate_left
    · obtain ⟨a, r, ha, hr1, hr2, gr, hl⟩ := p10 rfl
      obtain ⟨_, _, b0, b1⟩ := src_fr0 h10 gr
      have okr := g9.tr b r hr2
      refine q_appG (ka := 0) (kb := 0) (R := IsS (TxM 13)) st b0 b1 (hc _) h10 gr (by rw [List.length_map]; omega) (rwx rfl rfl (t9.gt b) ha) (fun G' s' => (ev_opV (ka := 0) (kb := 0) (rwx rfl rfl (s' _ _ (t9.gt b)) ha) ev_c (v_ixL st (SqL.of (s' _ _ gr)) (atI_nat (j := 0) (by rw [List.getElem?_map, List.getElem?_eq_getElem hl]; rfl)))).imp fun v G2 s2 e => ⟨_, okr.2 _ (List.getElem_mem hl), e⟩) fun v G' H' hv s' hS => q_end (hu _ _ ?_)
      obtain ⟨x, hx, rfl⟩ := hv
      rw [show r.map V.str ++ [V.str x] = (r ++ [x]).map V.str by rw [List.map_append]; rfl] at hS
      refine jn hS ((t9.mono s').setR ha) (g9.up (Nat.le_succ (k + 1)) |>.setR ?_ fun s hs => ?_)
      · rw [List.length_append]
        show _ + 1 ≤ _
        omega
      · rcases List.mem_append.mp hs with h | h
        · exact okr.2 s h
        · obtain rfl := List.mem_singleton.mp h
          exact hx
    obtain ⟨y8, y9, y10, G10, n10, A, N, E5, T, rfl, h10, t10, g10⟩ := je hJ
    clear hJ t9 g9 h9
    -- 7
    refine q_ifB (k := 0) (P := fun c => c = true → ∃ a r, (A b)[sp]? = some a ∧ (T b)[sp]? = some r ∧ r ∈ T b ∧ G10 a = some (.lst (r.map V.str)) ∧ ot < r.length) st (J (k + 2)) h10 ?_ (fun σ' H' hJ => ?_) (fun H11 hu p11 k11 h11 => ?_) (fun H11 hu p11 k11 h11 => q_end (hu _ _ (jn h11 t10 g10)))
    · by_cases hs : sp < (A b).length
      · have ha : (A b)[sp]? = some (A b)[sp] := List.getElem?_eq_getElem hs
        obtain ⟨r, hr1, hr2, gr⟩ := rowOf t10 ha
        refine (et_and (ka := 0) (kb := 0) st (et_testV (ev_opV (ev_var rfl) ev_c (v_eqI st))) fun _ => et_and (ka := 0) (kb := 0) st (et_testV (ev_opV (ev_var rfl) (lenA rfl (t10.gt b)) (v_lt st))) fun _ => et_testV (ev_opV (ev_var rfl) (lrow rfl rfl (t10.gt b) ha gr) (v_lt st))).imp fun c h hc => ?_
        rw [h] at hc
        have z := of_decide_eq_true (Bool.and_eq_true_iff.mp (Bool.and_eq_true_iff.mp hc).2).2
        exact ⟨_, r, ha, hr1, hr2, gr, by omega⟩
      · refine (et_and (ka := 0) (kb := 0) st (et_testV (ev_opV (ev_var rfl) ev_c (v_eqI st))) fun _ => et_and (ka := 0) (kb := 0) (b := false) st (et_testV (ev_opV (ev_var rfl) (lenA rfl (t10.gt b)) (v_lt st))) fun hh => ?_).imp fun c h hc => ?_
        · have := of_decide_eq_true hh
          omega
        · rw [h] at hc
          simp at hc
    rotate_left
    · obtain ⟨a, r, ha, hr1, hr2, gr, hl⟩ := p11 rfl
      obtain ⟨_, _, b0, b1⟩ := src_fr0 h11 gr
      have okr := g10.tr b r hr2
      refine q_setNewR (R := IsS (TxM 13)) st b0 b1 h11 (hc _) gr (by rw [List.length_map]; exact hl) (odd rfl) (fun G' s' => rwx rfl rfl (s' _ _ (t10.gt b)) ha) (fun G' s' => ev_var rfl) fun v G' H' hv s' hS => q_end (hu _ _ ?_)
      obtain ⟨x, hx, rfl⟩ := hv
      rw [← List.map_set] at hS
      refine jn hS ((t10.mono s').setR ha) (g10.setR (by rw [List.length_set]; exact okr.1) fun s hs => ?_)
      rcases mem_set hs with rfl | h
      · exact hx
      · exact okr.2 s h
    obtain ⟨y8, y9, y10, G11, n11, A, N, E5, T, rfl, h11, t11, g11⟩ := je hJ
    clear hJ t10 g10 h10
    -- 8
    refine q_ifB (k := 0) st (J (k + 2)) h11 (et_testV (ev_opV (ev_var rfl) ev_c (v_eqI st))) (fun σ' H' hJ => ?_) (fun H12 hu p12 k12 h12 => ?_) (fun H12 hu p12 k12 h12 => q_end (hu _ _ (jn h12 t11 g11)))
    rotate_left
    · obtain ⟨_, _, b0, b1⟩ := src_fr0 h12 t11.ge
      have el := g11.el
      refine q_setNewR (i := sp % 2) (R := IsS (TxM 13)) st b0 b1 h12 (hc _) t11.ge (by rw [List.length_map, el]; exact Nat.mod_lt _ (by decide)) (odd rfl) (fun G' s' => ev_var rfl) (fun G' s' => ev_eq (congrArg V.int (by omega)) (ev_opV (ka := 0) (kb := 0) (ev_cbV (ea_consV (ev_var rfl) ea_nilV) (c_int st)) ev_c (v_mod st (by decide)))) fun v G' H' hv s' hS => q_end (hu _ _ ?_)
      obtain ⟨x, hx, rfl⟩ := hv
      rw [← List.map_set] at hS
      exact jn hS (t11.mono s').setE (g11.setE hx)
    obtain ⟨y8, y9, y10, G12, n12, A, N, E5, T, rfl, h12, t12, g12⟩ := je hJ
    exact q_end (q _ _ _ _ _ _ _ h12 t12 g12)
theorem ok_table_placesX {CB : Addr} (Z : Bi mg) (e_Bad : Ex0C K CB) (m_Bad : mg "BadScale" = some (.ref CB)) {f : Addr} {fd : FuncData} (F : Fun K "table_places" "table_places" s_table_places f fd) : FnOk P w K mg base (L2.CX P w) 1 f fd ["places", "table"] (sp_tpX CB) := by
  refine F.okX sc_table_places (fun vs H Q E h => ?_) (fun cdv A outer s H vs Q E hr h => ?_)
  · obtain ⟨_, _, _, _, _, rfl, _⟩ := h
    rfl
  · obtain ⟨pd, pt, names, rows, G, rfl, hs, hd, hnd, hn, ⟨vs, ht, rl⟩, hl, hr2, bad, q⟩ := h
    refine ⟨_, (pss_cons (ps_if (PW.pt (pw_or (pt_cmpR (op_neA K hr.units) (pe_callB (call_lenA K) (by rfl) Z.z_len PySem.boot_len (pa_cons (pv 1) pa_nil)) (pe_callB (call_lenA K) (by rfl) Z.z_len PySem.boot_len (pa_cons (pv 0) pa_nil)) (nomark _)) (pw_or1 (pt_val (pe_callB (call_anyA K) (by rfl) Z.z_any (by decide +kernel) (pa_cons (pe_lc (own := [("row", 3)]) (g := (gName 3)) rfl sc_table_places.nd (pi_listK K (pv 1)) (blkOk_by (by kernel_rfl)) (fun _ _ _ _ _ => (pg_name (i := 3) sc_table_places.nd rfl (Or.inl rfl))) (fun _ _ _ _ _ => pts_nil) (fun _ _ _ _ _ => (pe_cmpR (op_neA K hr.units) (pe_callB (call_lenA K) (by rfl) Z.z_len PySem.boot_len (pa_cons (pv 3) pa_nil)) (pe_callB (call_lenA K) (by rfl) Z.z_len PySem.boot_len (pa_cons (pv 0) pa_nil)) (nomark _)))) pa_nil)))))) (pss_cons (ps_raiseS rfl e_Bad m_Bad (takes_of rfl rfl rfl rfl))
  pss_nil) pss_nil)
  (pss_cons (ps_setLc (i := 2) (own := [("row", 3)]) (g := (gName 3)) rfl sc_table_places.nd rfl rfl (sw_true rfl rfl rfl (by decide +kernel)) (pi_listK K (pv 1)) (blkOk_by (by kernel_rfl)) (fun _ _ _ _ _ => (pg_name (i := 3) sc_table_places.nd rfl (Or.inl rfl))) (fun _ _ _ _ _ => pts_nil) (fun _ _ _ _ _ => (pe_lc (own := [("name", 4)]) (g := (gName 4)) rfl sc_table_places.nd (pi_listK K (pv 3)) (blkOk_by (by kernel_rfl)) (fun _ _ _ _ _ => (pg_name (i := 4) sc_table_places.nd rfl (Or.inl rfl))) (fun _ _ _ _ _ => pts_nil) (fun _ _ _ _ _ => (pe_dget1 (hu_of hr) (pv 0) (pv 4) ⟨rfl, rfl, rfl, rfl⟩)))))
  (pss_cons (ps_if (pt_val (pe_callB (call_anyA K) (by rfl) Z.z_any (by decide +kernel) (pa_cons (pe_lc (own := [("row", 3)]) (g := (gName 3)) rfl sc_table_places.nd (pi_listK K (pv 2)) (blkOk_by (by kernel_rfl)) (fun _ _ _ _ _ => (pg_name (i := 3) sc_table_places.nd rfl (Or.inl rfl))) (fun _ _ _ _ _ => pts_nil) (fun _ _ _ _ _ => (pe_cmpR (op_inA K (hu_of hr)) pe_non (pv 3) (by rfl)))) pa_nil))) (pss_cons (ps_raiseS rfl e_Bad m_Bad (takes_of rfl rfl rfl rfl))
  pss_nil) pss_nil)
  (pss_cons (ps_ret (pv 2))
  pss_nil)))), ?_⟩
    have st := stab0 G H
    have h0 : SP0 G H 0 G H := Grow.refl hs
    show tSeq _ _ (Ends.mk _ _ _ _) [some _, some _, none, none, none] _
    have lv := rl_len rl
    have lp := plc_len names 0
    refine q_if (P := fun c => c = (!decide (rows.length = names.length) || (rows.map fun r => !decide (r.length = names.length)).any id)) st h0 (et_or st ((et_testV (ev_opV (ev_cbV (ea_consV (ev_var rfl) ea_nilV) (c_lenL st (SqL.of ht))) (ev_cbV (ea_consV (ev_var rfl) ea_nilV) (c_lenD st hd)) (v_neI st))).imp fun c h => by rw [h, lv, lp]; congr 1; exact decide_eq_decide.mpr (by omega)) fun _ => et_B (ev_cb (ea_cons (ev_lcRL (f := fun r : List Str => V.bl (!decide (r.length = names.length))) (ss := rows) st (ev_var rfl) (SqL.of ht) rl (by omega) fun r x hr hx => ?_) ea_nil) fun us G' s' e => ?_)) (fun H1 p1 k1 h1 => ?_) (fun H1 p1 k1 h1 => q_end ?_)
    · obtain ⟨p, rfl, hp⟩ := hx
      refine ⟨[some (.ref pd), some (.ref pt), none, some (.ref p), none], fun G2 J a1 a2 Q q => q, rfl, fun G2 a2 => ev_eq ?_ (ev_opV (ka := 0) (kb := 0) (ev_cbV (ea_consV (ev_var rfl) ea_nilV) (c_lenL st (SqL.of (a2 _ _ hp)))) (ev_cbV (ea_consV (ev_var rfl) ea_nilV) (c_lenD st (a2 _ _ hd))) (v_neI st))⟩
      rw [List.length_map, lp]
      congr 2
      exact decide_eq_decide.mpr (by omega)
    · obtain ⟨_, _, rfl, ⟨p, rfl, _, g⟩, e2⟩ := e
      obtain rfl := (show _ = _ from e2)
      exact c_any st (SqL.of (by rw [g, List.map_map]; rfl))
    · exact q_raise0 (q H1 h1)
    have p1 := p1.symm
    rw [Bool.or_eq_false_iff, Bool.not_eq_false', List.any_eq_false] at p1
    obtain ⟨c1, c2⟩ := p1
    have c1 := of_decide_eq_true c1
    have c2 : ∀ r ∈ rows, r.length = names.length := fun r hr => by
      have := c2 _ (List.mem_map.mpr ⟨r, hr, rfl⟩)
      simpa using this
    have ⟨rb, hrb, eb, heb, hnb⟩ : ∃ r, r ∈ rows ∧ ∃ e, e ∈ r ∧ e ∉ names := by
      refine Classical.byContradiction fun hno => bad ⟨c1, fun r hr => ⟨c2 r hr, fun e he => ?_⟩⟩
      exact Classical.byContradiction fun hn => hno ⟨r, hr, e, he, hn⟩
    refine q_set (R := IsNX G (RL (IsGR5 names) rows)) h1 (ev_lcG (R := IsGR5 names) (ss := rows) (σf := fun j => [some (.ref pd), some (.ref pt), none, vs[j]?, none]) st (ev_var rfl) (SqL.of ht) lv (by omega) (fun j y G' J hy s' t' Qs q' => ?_) (fun _ => rfl) (fun j y r G' hy hrj s' => ?_)) fun v2 G2 H2 s2 r2 => ?_
    · rw [hy] at q'
      exact q'
    · show Ev _ _ _ _ [some (.ref pd), some (.ref pt), none, vs[j]?, none] _ _
      rw [hy]
      obtain ⟨u, hu, p, rfl, hp⟩ := rl_get rl hrj
      rw [hu] at hy
      obtain rfl := Option.some.inj hy
      have hm := List.mem_of_getElem? hrj
      refine (ev_lcVL (f := fun v => match v with | .str e => gV5 names e | _ => .non) st (ev_var rfl) (SqL.of (s' _ _ hp)) (by rw [List.length_map]; have := hr2 r hm; omega) (fun _ => rfl) fun i z G'' hz s'' => ?_).imp fun v G'' s'' ⟨p2, e, _, g⟩ => ⟨p2, e, by rw [g, List.map_map]; rfl⟩
      obtain ⟨hi, rfl⟩ := map_get hz
      exact ev_dget (k := .inr r[i]) st (ev_var rfl) (s'' _ _ (s' _ _ hd)) (ev_var rfl)
    obtain ⟨p2, ws, rfl, _, g2, rl2⟩ := r2
    refine q_if (P := fun c => c = (rows.map fun r => inV .non (r.map (gV5 names))).any id) st s2.s (et_B (ev_cb (ea_cons (ev_lcRL (f := fun r : List Str => V.bl (inV .non (r.map (gV5 names)))) (ss := rows) st (ev_var rfl) (SqL.of g2) rl2 (by omega) fun r x hr hx => ?_) ea_nil) fun us G' s' e => ?_)) (fun H3 p3 k3 h3 => ?_) (fun H3 p3 k3 h3 => ?_)
    · obtain ⟨p, rfl, hp⟩ := hx
      refine ⟨[some (.ref pd), some (.ref pt), some (.ref p2), some (.ref p), none], fun G3 J a1 a2 Q q => q, rfl, fun G3 a2 => ev_opV (ka := 0) (kb := 0) ev_c (ev_var rfl) (v_inL (neg := false) st (SqL.of (a2 _ _ hp)) rfl ?_)⟩
      rw [List.all_map, List.all_eq_true]
      exact fun e _ => gV5_flat hnd e
    · obtain ⟨_, _, rfl, ⟨p, rfl, _, g⟩, e2⟩ := e
      obtain rfl := (show _ = _ from e2)
      exact c_any st (SqL.of (by rw [g, List.map_map]; rfl))
    · refine q_raise0 (q H3 ?_)
      have z := (show Grow G H G2 H3 from h3)
      exact ⟨Same.refl _, z.h, z.g.trans z.s, fun b o e => .inl e⟩
    · refine absurd p3.symm ?_
      rw [Bool.not_eq_false, List.any_eq_true]
      exact ⟨_, List.mem_map.mpr ⟨rb, hrb, rfl⟩, inV_gV5 heb hnb⟩
theorem ok_TableX {CB D : Addr} (Z : Bi mg) (e_Bad : Ex0C K CB) (m_Bad : mg "BadScale" = some (.ref CB)) (opq : PySem.W.nsIn K cStatics "thirdparty.any" = some none) (top0 : (P.main.scope.names.lookup ("super" : Str)).isSome = false)
    (hC : Cls K D) (hN : ∀ f ∈ ("written_joins" : Str) :: "written_products" :: scF, NoAttr K D f)
    (c_is_table_name : Callee P w K mg base "is_table_name" CX0 1 ["name"] [] (spP PIsN)) (c_table_places : Callee P w K mg base "table_places" (L2.CX P w) 1 ["places", "table"] [] (spE (spP PTp) (sp_tpX CB)))
    {f : Addr} {fd : FuncData} (F : FunSD P K "__init__" "TableScale.__init__" s_TableScale___init__ [] [] f fd D) : FnOk P w K mg base (L2.CX P w) 10 f fd ["self", "names", "joins", "products", "never", "still"] (spXC CB D PTbX) := by
  refine F.toS.okX sc_TableScale___init__ Z.z_super opq top0 rfl rfl (fun vs H Q E h => ?_) (fun cdv cc A outer s H vs Q E hr h SA => ?_)
  · obtain ⟨x, dx, rest, G, rfl, _, _, _, ⟨_, _, _, _, _, _, _, _, rfl, _⟩, _⟩ := h
    rfl
  · obtain ⟨x, dx, rest, G, rfl, hx, hG, gx, ⟨pn, pj, pp, names, joins, products, never, still, rfl, gn, tj, tp, ln, l1000, lj, lq, rj, rp, bad⟩, q⟩ := h
    refine ⟨_, (psa_cons (ps_setDc (i := 6) (own := [("place", 10), ("name", 11)]) (g := (gTup _ 2 (gCons (gName 10) (gCons (gName 11) gNil)))) rfl sc_TableScale___init__.nd rfl rfl (sw_dc rfl rfl rfl (by decide +kernel)) (pi_enum (by rfl) Z.z_enumerate (pa_cons (pv 1) pa_nil)) (blkOk_by (by kernel_rfl)) (fun _ _ _ _ _ => (pg_tup rfl (pgs_cons (pg_name (i := 10) sc_TableScale___init__.nd rfl (Or.inl rfl)) (pgs_cons (pg_name (i := 11) sc_TableScale___init__.nd rfl (Or.inl rfl)) pgs_nil)))) (fun _ _ _ _ _ => pts_nil) (fun _ _ _ _ _ => (pv 11)) (fun _ _ _ _ _ => (pv 10)))
  (psa_cons (ps_if (PW.pt (pw_or (pt_not (pt_chain op_leA op_leA pe_int (pe_callB (call_lenA K) (by rfl) Z.z_len PySem.boot_len (pa_cons (pv 1) pa_nil)) pe_int)) (pw_or1 (pt_cmpR (op_neA K hr.units) (pe_callB (call_lenA K) (by rfl) Z.z_len PySem.boot_len (pa_cons (pv 6) pa_nil)) (pe_callB (call_lenA K) (by rfl) Z.z_len PySem.boot_len (pa_cons (pv 1) pa_nil)) (nomark _))))) (pss_cons (ps_raiseS rfl e_Bad m_Bad (takes_of rfl rfl rfl rfl))
  pss_nil) pss_nil)
  (psa_cons (ps_if (PW.pt (pw_or (pt_not (pt_val (pe_callB (call_allA K) (by rfl) Z.z_all (by decide +kernel) (pa_cons (pe_lc (own := [("name", 11)]) (g := (gName 11)) rfl sc_TableScale___init__.nd (pi_listK K (pv 1)) (blkOk_by (by kernel_rfl)) (fun _ _ _ _ _ => (pg_name (i := 11) sc_TableScale___init__.nd rfl (Or.inl rfl))) (fun _ _ _ _ _ => pts_nil) (fun _ _ _ _ _ => (pe_callC c_is_table_name (hr.mono (by decide)) pass0 (pa_cons (pv 11) pa_nil)))) pa_nil)))) (pw_or (pt_cmpR (op_ninA K (hu_of hr)) (pv 4) (pv 6) (by rfl)) (pw_or1 (pt_cmpR (op_ninA K (hu_of hr)) (pv 5) (pv 6) (by rfl)))))) (pss_cons (ps_raiseS rfl e_Bad m_Bad (takes_of rfl rfl rfl rfl))
  pss_nil) pss_nil)
  (psa_cons (ps_fld (pv 0) (pe_callC c_table_places (hr.mono (by decide)) (passE (takes_of rfl rfl rfl rfl)) (pa_cons (pv 6) (pa_cons (pv 2) pa_nil))) rfl)
  (psa_cons (ps_fld (pv 0) (pe_callC c_table_places (hr.mono (by decide)) (passE (takes_of rfl rfl rfl rfl)) (pa_cons (pv 6) (pa_cons (pv 3) pa_nil))) rfl)
  (psa_cons ps_never
  (psa_cons ps_never
  (psa_cons ps_never
  (psa_cons ps_never
  (psa_end pss_nil)))))))))), ?_⟩
    have h0 := own_start (o := .ins D dx []) hG gx hx 0
    have st0 := stabO G H x (.ins D dx [])
    show tSeq _ _ (Ends.mk _ _ _ _) [some _, some _, some _, some _, some _, some _, none, none, none, none, none, none, none] _
    have lm : (names.map V.str).length = names.length := List.length_map _
    refine q_set h0 (ev_dcEG st0 (ea_consV (ev_var rfl) ea_nilV) (SqL.of gn) (by omega) (by decide) (Nat.le_of_ble_eq_true rfl) (Nat.le_of_ble_eq_true rfl) (fun _ _ => rfl)) fun v1 G1 H1 s1 r1 => ?_
    obtain ⟨pd, rfl, _, gd⟩ := r1
    have gn1 := s1.g _ _ gn
    obtain ⟨dl, dn⟩ := dG_len names names.length (Nat.le_refl _)
    rw [List.take_length] at dn
    refine q_if (P := fun c => c = (!(decide (1 ≤ names.length) && decide (names.length ≤ 16)) || !decide ((dG names names.length).length = names.length))) st0 s1.s ((et_or st0 (et_not (et_testV (ev_chain st0 ev_c (ev_cbV (ea_consV (ev_var rfl) ea_nilV) (c_lenL st0 (SqL.of gn1))) (v_le st0) ev_c (v_le st0)))) (fun _ => et_testV (ev_opV (ev_cbV (ea_consV (ev_var rfl) ea_nilV) (c_lenD st0 gd)) (ev_cbV (ea_consV (ev_var rfl) ea_nilV) (c_lenL st0 (SqL.of gn1))) (v_neI st0)))).imp fun c h => by
      rw [h, lm]
      congr 1
      · congr 1
        congr 1
        · exact decide_eq_decide.mpr (by omega)
        · exact decide_eq_decide.mpr (by omega)
      · congr 1
        exact decide_eq_decide.mpr (by omega)) (fun H2 p2 k2 h2 => q_raise0 (q _ _ _ (own_n h2))) (fun H2 p2 k2 h2 => q_end ?_)
    obtain ⟨a1, a2⟩ := Bool.or_eq_false_iff.mp p2.symm
    rw [Bool.not_eq_false'] at a1 a2
    obtain ⟨b1, b2⟩ := Bool.and_eq_true_iff.mp a1
    have l1 := of_decide_eq_true b1
    have l2 := of_decide_eq_true b2
    obtain ⟨nd, ep⟩ := dn (of_decide_eq_true a2)
    rw [ep] at gd
    have key : ∀ z : Str, (valV (plc names 0) (.inr z)).isSome = decide (z ∈ names) := fun z => by
      by_cases h : z ∈ names
      · rw [plc_some nd (idx_get h), decide_eq_true h]
        rfl
      · rw [plc_none h, decide_eq_false h]
        rfl
    refine q_if (P := fun c => c = (!(names.map okNm).all id || (!decide (never ∈ names) || !decide (still ∈ names)))) st0 h2 ((et_or st0 (et_not (et_B (b := (names.map okNm).all id) (ev_cb (ea_cons (ev_lcVL (f := fun v => match v with | .str s => .bl (okNm s) | _ => .non) st0 (ev_var rfl) (SqL.of gn1) (by omega) (fun _ => rfl) fun j y G' hy s' => ?_) ea_nil) fun us G' s' e => ?_))) (fun _ => et_or st0 (et_testV (ev_opV (ev_var rfl) (ev_var rfl) (v_inD (neg := true) (key := .inr never) st0 gd))) (fun _ => et_testV (ev_opV (ev_var rfl) (ev_var rfl) (v_inD (neg := true) (key := .inr still) st0 gd))))).imp fun c h => by
      rw [h, key, key]
      rfl) (fun H3 p3 k3 h3 => q_raise0 (q _ _ _ (own_n h3))) (fun H3 p3 k3 h3 => q_end ?_)
    · obtain ⟨hj, rfl⟩ := map_get hy
      exact ev_callV st0 (ea_consV (ev_var rfl) ea_nilV) fun G6 s6 => ⟨_, rfl, l1000 _ (List.getElem_mem hj), rfl⟩
    · obtain ⟨_, _, rfl, ⟨p, rfl, _, g⟩, e2⟩ := e
      obtain rfl := (show _ = _ from e2)
      exact c_all st0 (SqL.of (by rw [g, List.map_map, List.map_map]; rfl))
    obtain ⟨a3, a4⟩ := Bool.or_eq_false_iff.mp p3.symm
    obtain ⟨a5, a6⟩ := Bool.or_eq_false_iff.mp a4
    rw [Bool.not_eq_false'] at a3 a5 a6
    have ok : ∀ nm ∈ names, okNm nm = true := fun nm h => List.all_eq_true.mp a3 _ (List.mem_map.mpr ⟨nm, h, rfl⟩)
    have nv := of_decide_eq_true a5
    have sl := of_decide_eq_true a6
    by_cases hj : TpOk names joins
    · refine q_fldO h3 (ev_callE1 (R := fun v G' => ∃ p, v = .ref p ∧ TabI names G' p joins) (ws := [.ref pd, .ref pj]) st0 (ea_consV (ev_var rfl) (ea_consV (ev_var rfl) ea_nilV)) fun G' s' => ⟨pd, pj, names, joins, rfl, s' _ _ gd, nd, by omega, tj.mono (s1.g.trans s'), hj.1, hj.2, rfl⟩) rfl hC (hN _ (by decide)) (by decide) fun v4 G4 H4 s4 h4 r4 => ?_
      obtain ⟨p4, rfl, t4⟩ := r4
      generalize e4 : putF ("written_joins" : Str) (.ref p4) [] = f4 at h4
      have z4 : f4.length ≤ 1 := by rw [← e4]; exact putF_len _ _ _
      have st4 := stabO G H x (.ins D dx f4)
      have gd4 := s4 _ _ gd
      have hp : ¬ TpOk names products := fun hp => bad ⟨l1, l2, nd, ok, nv, sl, hj.1, hj.2, hp.1, hp.2⟩
      exact q_fldO h4 (ev_callF (R1 := fun _ _ => False) (RA := IsVs [.ref pd, .ref pp]) (ea_consV (ev_var rfl) (ea_consV (ev_var rfl) ea_nilV)) fun vs G' H' Q' hS s' ev => by
        obtain rfl := (show _ = _ from ev)
        exact .inr ⟨pd, pp, names, products, G', rfl, st4.sub hS, s' _ _ gd4, nd, by omega, tp.mono ((s1.g.trans s4).trans s'), lq, rp, hp, fun H2 g2 => q _ _ _ (own_n (st4.grow hS g2))⟩) rfl hC (hN _ (by decide)) (by omega) fun v5 G5 H5 s5 h5 r5 => r5.elim
    · exact q_fldO h3 (ev_callF (R1 := fun _ _ => False) (RA := IsVs [.ref pd, .ref pj]) (ea_consV (ev_var rfl) (ea_consV (ev_var rfl) ea_nilV)) fun vs G' H' Q' hS s' ev => by
        obtain rfl := (show _ = _ from ev)
        exact .inr ⟨pd, pj, names, joins, G', rfl, st0.sub hS, s' _ _ gd, nd, by omega, tj.mono (s1.g.trans s'), lj, rj, hj, fun H2 g2 => q _ _ _ (own_n (st0.grow hS g2))⟩) rfl hC (hN _ (by decide)) (by decide) fun v5 G5 H5 s5 h5 r5 => r5.elim
abbrev s__law_right_name : Stmt := top 15
theorem sc__law_right_name : FnScope ["_law_name", "_law_sign"] ["_law_name"] (defScope s__law_right_name) := ⟨rfl, rfl, rfl, by decide +kernel, rfl, by decide +kernel, by decide +kernel⟩
theorem ok_lrname5 {f : Addr} {fd : FuncData} (Z : Bi mg) (F : Fun K "_law_right_name" "_law_right_name" s__law_right_name f fd) : FnOk P w K mg base CX0 1 f fd ["_law_name"] (spP PIsN) := by
  refine F.ok sc__law_right_name (fun vs H Q E h => ?_) (fun cdv A outer s H vs Q E hr h => ?_)
  · obtain ⟨_, _, _, ⟨_, rfl, _⟩, _⟩ := h
    rfl
  · obtain ⟨G, R, hs, ⟨nm, rfl, hl, rfl⟩, q⟩ := h
    refine ⟨_, (pss_cons (ps_if (PW.pt (pw_or (pt_cmpR op_ltA (pe_callB (call_lenA K) (by rfl) Z.z_len PySem.boot_len (pa_cons (pv 0) pa_nil)) pe_int (nomark _)) (pw_or1 (pt_cmpR op_gtA (pe_callB (call_lenA K) (by rfl) Z.z_len PySem.boot_len (pa_cons (pv 0) pa_nil)) pe_int (nomark _))))) (pss_cons (ps_ret pe_bl)
  pss_nil) pss_nil)
  (pss_cons (ps_for PassesOwn.never rfl (pi_str (pv 0)) (pg_name (i := 1) sc__law_right_name.nd rfl (Or.inl rfl)) (pss_cons (ps_if (pt_cmpR op_notin_str (pv 1) pe_str (by rfl)) (pss_cons (ps_ret pe_bl)
  pss_nil) pss_nil)
  pss_nil))
  (pss_cons (ps_ret pe_bl)
  pss_nil))), ?_⟩
    have st := stab0 G H
    have h0 : SP0 G H 0 G H := Grow.refl hs
    have hsz : (1000 : Nat) ≤ sizeLine := by decide
    show tSeq _ _ (Ends.mk _ _ _ _) [some _, none] _
    have e0 : okNm nm = (decide (1 ≤ nm.length ∧ nm.length ≤ 12) && (nm.cps.toList.map sgn).all id) := by
      unfold okNm
      rw [← Bool.decide_and]
      congr 1
      exact decide_eq_decide.mpr (by omega)
    refine q_if st h0 (et_or st (et_testV (ev_opV (ev_cbV (ea_consV (ev_var rfl) ea_nilV) (c_lenS st (by omega))) ev_c (v_lt st))) fun _ => et_testV (ev_opV (ev_cbV (ea_consV (ev_var rfl) ea_nilV) (c_lenS st (by omega))) ev_c (v_gt st))) (fun H1 p1 k1 h1 => ?_) (fun H1 p1 k1 h1 => q_end ?_)
    · refine q_retV st h1 (x := .bl false) ev_c fun H2 k2 h2 => q _ _ _ h2 (congrArg V.bl ?_)
      rw [e0, decide_eq_false, Bool.false_and]
      rcases Bool.or_eq_true_iff.mp p1.symm with z | z
      · have := of_decide_eq_true z
        omega
      · have := of_decide_eq_true z
        omega
    · have hlen : 1 ≤ nm.length ∧ nm.length ≤ 12 := by
        obtain ⟨a, b⟩ := Bool.or_eq_false_iff.mp p1.symm
        have := of_decide_eq_false a
        have := of_decide_eq_false b
        omega
      rw [decide_eq_true hlen, Bool.true_and] at e0
      refine q_forS st h1 (ev_var rfl) (fun l τ J => (∃ y, τ = [some (.str nm), y]) ∧ SP0 G H 0 G J ∧ ∀ (i : Nat) c, i < l → nm.cps.toList[i]? = some c → sgn c = true) (fun G' H' s' => ⟨⟨_, rfl⟩, st.anti h1 s'.s s'.g, fun i c hi => absurd hi (Nat.not_lt_zero _)⟩) (fun l c τ J hcl hP => ?_) (fun τ J hP => ?_)
      · obtain ⟨⟨y, rfl⟩, hS, hold⟩ := hP
        show tSeq _ _ (Ends.mk _ _ _ _) [some (.str nm), some (.str ⟨#[c]⟩)] _
        have hcl : nm.cps.toList[l]? = some c := by rw [Array.getElem?_toList]; exact hcl
        refine q_if st hS (et_testV (ev_opV (ev_var rfl) ev_c (rv_val (fun H2 _ Q q => ⟨_, _, rfl, rfl, q⟩) st))) (fun H3 p3 k3 h3 => ?_) (fun H3 p3 k3 h3 => q_end (q_end ⟨⟨_, rfl⟩, h3, fun i d hi hd => ?_⟩))
        · refine q_retV st h3 (x := .bl false) ev_c fun H4 k4 h4 => q _ _ _ h4 (congrArg V.bl ?_)
          have hs : sgn c = false := by
            unfold sgn
            cases z : (Builtin.Str.occurrences signsL ⟨#[c]⟩ 0 signsL.length 1).isEmpty with
            | true => rfl
            | false =>
              have p3 : true = !(!(Builtin.Str.occurrences signsL ⟨#[c]⟩ 0 signsL.length 1).isEmpty) := p3
              rw [z] at p3
              cases p3
          rw [e0, eq_comm, List.all_eq_false]
          exact ⟨_, List.mem_map.mpr ⟨c, List.mem_of_getElem? hcl, rfl⟩, by rw [hs]; decide⟩
        · rcases Nat.lt_or_eq_of_le (Nat.le_of_lt_succ hi) with h | h
          · exact hold i d h hd
          · subst h
            rw [hcl] at hd
            obtain rfl := Option.some.inj hd
            unfold sgn
            have p3 : false = !(!(Builtin.Str.occurrences signsL ⟨#[c]⟩ 0 signsL.length 1).isEmpty) := p3
            cases z : (Builtin.Str.occurrences signsL ⟨#[c]⟩ 0 signsL.length 1).isEmpty with
            | false => rfl
            | true =>
              rw [z] at p3
              cases p3
      · obtain ⟨⟨y, rfl⟩, hS, hold⟩ := hP
        refine q_retV st hS (x := .bl true) ev_c fun H2 k2 h2 => q _ _ _ h2 (congrArg V.bl ?_)
        rw [e0, eq_comm, List.all_eq_true]
        intro b hb
        obtain ⟨c, hc, rfl⟩ := List.mem_map.mp hb
        obtain ⟨i, hi⟩ := List.getElem?_of_mem hc
        exact hold i c (List.getElem?_eq_some_iff.mp hi).1 hi
def PRt5 : List V → Hp → HR → Prop := fun vs G R => ∃ (pn pe pt : Addr) (pT : Bool → Addr) (A : Bool → List Addr) (N : List Str) (x0 x1 : Str) (T : Bool → List (List Str)) (m k : Nat), vs = [.ref pn, .ref pt, .ref pe] ∧ T5 pn pe pt pT A N [x0, x1] T G ∧ Gd5 m k N [x0, x1] T ∧ m ≤ 100 ∧ k ≤ 10 ∧ R = IsV (.bl (rt5 N (T false) (T true) x0 x1))
abbrev s__law_right : Stmt := top 16
theorem sc__law_right : FnScope ["_law_names", "_law_tables", "_law_edges", "_law_many", "_law_k", "_law_table", "_law_row", "_law_word"] ["_law_names", "_law_tables", "_law_edges"] (defScope s__law_right) := ⟨rfl, rfl, rfl, by decide +kernel, rfl, by decide +kernel, by decide +kernel⟩
theorem ok_lright5 {f : Addr} {fd : FuncData} (Z : Bi mg) (c__law_right_name : Callee P w K mg base "_law_right_name" CX0 1 ["_law_name"] [] (spP PIsN)) (F : Fun K "_law_right" "_law_right" s__law_right f fd) : FnOk P w K mg base CX0 2 f fd ["_law_names", "_law_tables", "_law_edges"] (spP PRt5) := by
  refine F.ok sc__law_right (fun vs H Q E h => ?_) (fun cdv A outer s H vs Q E hr h => ?_)
  · obtain ⟨_, _, _, ⟨_, _, _, _, _, _, _, _, _, _, _, rfl, _⟩, _⟩ := h
    rfl
  · obtain ⟨G, R, hs, ⟨pn, pe, pt, pT, A, N, x0, x1, T, m, k, rfl, t0, g0, hm, hk, rfl⟩, q⟩ := h
    refine ⟨_, (pss_cons (ps_set (i := 3) sc__law_right.nd rfl (Or.inl rfl) (pe_callB (call_lenA K) (by rfl) Z.z_len PySem.boot_len (pa_cons (pv 0) pa_nil)))
  (pss_cons (ps_if (PW.pt (pw_or (pt_cmpR op_ltA (pv 3) pe_int (nomark _)) (pw_or1 (pt_cmpR op_gtA (pv 3) pe_int (nomark _))))) (pss_cons (ps_ret pe_bl)
  pss_nil) pss_nil)
  (pss_cons (ps_for PassesOwn.never rfl (pi_range1 (by rfl) Z.z_range (pa_cons (pv 3) pa_nil)) (pg_name (i := 4) sc__law_right.nd rfl (Or.inl rfl)) (pss_cons (ps_if (PW.pt (pw_or (pt_not (pt_val (pe_callC c__law_right_name (hr.mono (by decide)) pass0 (pa_cons (pe_ix (ix_any K (hu_of hr)) (pv 0) (pv 4) (fun _ _ => rfl)) pa_nil)))) (pw_or1 (pt_cmpR (op_inA K (hu_of hr)) (pe_ix (ix_any K (hu_of hr)) (pv 0) (pv 4) (fun _ _ => rfl)) (pe_slice (sl_listK K) (pv 0) po_none (po_some (pv 4))) (by rfl))))) (pss_cons (ps_ret pe_bl)
  pss_nil) pss_nil)
  pss_nil))
  (pss_cons (ps_for PassesOwn.never rfl (pi_listK K (pv 1)) (pg_name (i := 5) sc__law_right.nd rfl (Or.inl rfl)) (pss_cons (ps_if (pt_cmpR (op_neA K hr.units) (pe_callB (call_lenA K) (by rfl) Z.z_len PySem.boot_len (pa_cons (pv 5) pa_nil)) (pv 3) (nomark _)) (pss_cons (ps_ret pe_bl)
  pss_nil) pss_nil)
  (pss_cons (ps_for PassesOwn.never rfl (pi_listK K (pv 5)) (pg_name (i := 6) sc__law_right.nd rfl (Or.inl rfl)) (pss_cons (ps_if (pt_cmpR (op_neA K hr.units) (pe_callB (call_lenA K) (by rfl) Z.z_len PySem.boot_len (pa_cons (pv 6) pa_nil)) (pv 3) (nomark _)) (pss_cons (ps_ret pe_bl)
  pss_nil) pss_nil)
  (pss_cons (ps_for PassesOwn.never rfl (pi_listK K (pv 6)) (pg_name (i := 7) sc__law_right.nd rfl (Or.inl rfl)) (pss_cons (ps_if (pt_cmpR (op_ninA K (hu_of hr)) (pv 7) (pv 0) (by rfl)) (pss_cons (ps_ret pe_bl)
  pss_nil) pss_nil)
  pss_nil))
  pss_nil)))
  pss_nil)))
  (pss_cons (ps_ret (pe_and (pe_cmpR (op_inA K (hu_of hr)) (pe_ix (ix_any K (hu_of hr)) (pv 2) pe_int (fun _ _ => rfl)) (pv 0) (by rfl)) (pe_one (pe_cmpR (op_inA K (hu_of hr)) (pe_ix (ix_any K (hu_of hr)) (pv 2) pe_int (fun _ _ => rfl)) (pv 0) (by rfl)))))
  pss_nil))))), ?_⟩
    have st := stab0 G H
    have h0 : SP0 G H 0 G H := Grow.refl hs
    show tSeq _ _ (Ends.mk _ _ _ _) [some _, some _, some _, none, none, none, none, none] _
    have nm := g0.nm
    have lm : (N.map V.str).length = N.length := List.length_map _
    refine q_setV st h0 (x := .int (N.length : Nat)) (ev_eq (congrArg V.int (by rw [lm])) (ev_cbV (ea_consV (ev_var rfl) ea_nilV) (c_lenL st (SqL.of t0.gn)))) fun H1 k1 h1 => ?_
    have no : ∀ {H2 : Hp} {n : Nat} {σ : L2.St} {u : TS} {nx bk ct : L2.St → Hp → Prop}, SP0 G H n G H2 → rt5 N (T false) (T true) x0 x1 = false → tSeq (tRet (tC (.bl false))) u (Ends.mk nx Q bk ct) σ H2 := fun h hf => q_retV st h (x := .bl false) ev_c fun H4 k4 h4 => q _ _ _ h4 (congrArg V.bl hf.symm)
    refine q_if st h1 (et_or st (et_testV (ev_opV (ev_var rfl) ev_c (v_lt st))) fun _ => et_testV (ev_opV (ev_var rfl) ev_c (v_gt st))) (fun H2 p2 k2 h2 => no h2 ?_) (fun H2 p2 k2 h2 => q_end ?_)
    · unfold rt5
      rw [decide_eq_false, Bool.false_and]
      rcases Bool.or_eq_true_iff.mp p2.symm with z | z
      · have := of_decide_eq_true z
        omega
      · have := of_decide_eq_true z
        omega
    have hlen : 1 ≤ N.length ∧ N.length ≤ 16 := by
      obtain ⟨a, b⟩ := Bool.or_eq_false_iff.mp p2.symm
      have := of_decide_eq_false a
      have := of_decide_eq_false b
      omega
    have e5 : rt5 N (T false) (T true) x0 x1 = (rtN N N.length && (rtT N (T false) && rtT N (T true)) && (decide (x0 ∈ N) && decide (x1 ∈ N))) := by
      unfold rt5
      rw [decide_eq_true hlen, Bool.true_and]
    refine q_forP st h2 (ea_consV (ev_var rfl) ea_nilV) (by omega) (by omega) (fun j τ => (∃ y, τ = [some (.ref pn), some (.ref pt), some (.ref pe), some (.int (N.length : Nat)), y, none, none, none]) ∧ rtN N j = true) ⟨⟨_, rfl⟩, rfl⟩ (fun j τ J hj hP s3 => ?_) (fun τ J hP s3 => ?_)
    · obtain ⟨⟨y, rfl⟩, hold⟩ := hP
      have hj' : j < N.length := by omega
      show tSeq _ _ (Ends.mk _ _ _ _) [some (.ref pn), some (.ref pt), some (.ref pe), some (.int (N.length : Nat)), some (.int (j : Nat)), none, none, none] _
      have gd : N.getD j "" = N[j] := by rw [List.getD_eq_getElem?_getD, List.getElem?_eq_getElem hj']; rfl
      have ixn : ∀ {n : Nat} {σ : L2.St} {G' : Hp}, Same G G' → σ[0]? = some (some (.ref pn)) → σ[4]? = some (some (.int (j : Nat))) → Ev (SP0 G H) n 0 (tOp (rIxA K) (tVar 0) (tVar 4)) σ G' (IsV (.str N[j])) := fun s' e1 e2 => ev_opV (ka := 0) (kb := 0) (ev_var e1) (ev_var e2) (v_ixL st (SqL.of (s' _ _ t0.gn)) (atI_nat (by rw [List.getElem?_map, List.getElem?_eq_getElem hj']; rfl)))
      have stp : rtN N (j + 1) = (rtN N j && (okNm N[j] && !decide (N[j] ∈ N.take j))) := by
        unfold rtN
        rw [List.range_succ, List.all_append, ← gd]
        simp
      refine q_if st s3.s (et_or (a := !okNm N[j]) (b := decide (N[j] ∈ N.take j)) (ka := 0) (kb := 0) st (et_not (et_B (ev_callV (k := 0) st (ea_consV (ka := 0) (kb := 0) (ixn (Same.refl _) rfl rfl) ea_nilV) fun G' s' => ⟨_, rfl, by have := (g0.no _ (List.getElem_mem hj')).2; omega, rfl⟩))) fun _ => et_testV (ev_op (ka := 0) (kb := 0) (Ra := IsV (.str N[j])) (Rb := IsBl ((N.take j).map V.str)) (ixn (Same.refl _) rfl rfl) ((ev_slLN (ka := 0) (kb := 0) (kc := 0) st (ev_var rfl) (SqL.of t0.gn) eo_none (eo_some (ev_var rfl))).imp fun v G' s' ⟨p, e1, e2, e3⟩ => ⟨p, e1, by rw [e3, cutV_to (by omega), List.map_take]⟩) fun x y G' s' hx hy => ?_)) (fun H4 p4 k4 h4 => no h4 ?_) (fun H4 p4 k4 h4 => q_end (q_end ⟨⟨⟨_, rfl⟩, ?_⟩, s3.go k4 h4⟩))
      · obtain rfl := (show _ = _ from hx)
        obtain ⟨p, rfl, gp⟩ := hy
        have z := v_inL (neg := false) st (SqL.of (K := K) gp) (x := .str N[j]) rfl (by rw [List.all_map, List.all_eq_true]; exact fun _ _ => rfl)
        rw [inV_strs] at z
        exact z
      · have hf : rtN N (j + 1) = false := by
          rw [stp]
          rcases Bool.or_eq_true_iff.mp p4.symm with z | z
          · rw [show okNm N[j] = false by simpa using z]
            simp
          · rw [z]
            simp
        have hf2 : rtN N N.length = false := by
          cases z : rtN N N.length with
          | false => rfl
          | true =>
            refine absurd hf ?_
            rw [Bool.not_eq_false]
            exact List.all_eq_true.mpr fun i hi => List.all_eq_true.mp z i (List.mem_range.mpr (by have := List.mem_range.mp hi; omega))
        rw [e5, hf2]
        rfl
      · obtain ⟨a, b⟩ := Bool.or_eq_false_iff.mp p4.symm
        rw [stp, hold, b, show okNm N[j] = true by simpa using a]
        rfl
    obtain ⟨⟨y4, rfl⟩, hN⟩ := hP
    rw [Int.toNat_natCast] at hN
    rw [hN, Bool.true_and] at e5
    refine q_forPL (g := gName 5) st s3.s (ev_var rfl) (SqL.of t0.gp) (fun l τ => (∃ y5 y6 y7, τ = [some (.ref pn), some (.ref pt), some (.ref pe), some (.int (N.length : Nat)), y4, y5, y6, y7]) ∧ (0 < l → rtT N (T false) = true) ∧ (1 < l → rtT N (T true) = true)) ⟨⟨_, _, _, rfl⟩, fun h => absurd h (Nat.lt_irrefl _), fun h => absurd h (by decide)⟩ (fun l v τ J hv hP s4 => ?_) (fun τ J hP s4 => ?_)
    · obtain ⟨⟨y5, y6, y7, rfl⟩, ho0, ho1⟩ := hP
      obtain ⟨b, rfl, hb⟩ : ∃ b, v = .ref (pT b) ∧ (rtT N (T b) = false → (rtT N (T false) && rtT N (T true)) = false) ∧ (rtT N (T b) = true → (0 < l + 1 → rtT N (T false) = true) ∧ (1 < l + 1 → rtT N (T true) = true)) := by
        rcases l with _ | _ | l
        · exact ⟨false, (Option.some.inj hv).symm, fun h => by rw [h]; rfl, fun h => ⟨fun _ => h, fun h => absurd h (by decide)⟩⟩
        · exact ⟨true, (Option.some.inj hv).symm, fun h => by rw [h, Bool.and_false], fun h => ⟨fun _ => ho0 (by decide), fun _ => h⟩⟩
        · cases hv
      obtain ⟨hbF, hbT⟩ := hb
      have noT : rtT N (T b) = false → rt5 N (T false) (T true) x0 x1 = false := fun h => by rw [e5, hbF h]; rfl
      have ra := t0.gr b
      show tSeq _ _ (Ends.mk _ _ _ _) [some (.ref pn), some (.ref pt), some (.ref pe), some (.int (N.length : Nat)), y4, some (.ref (pT b)), y6, y7] _
      refine q_if st s4.s (et_testV (ev_opV (ev_cbV (ea_consV (ev_var rfl) ea_nilV) (c_lenL st (SqL.of (t0.gt b)))) (ev_var rfl) (v_neI st))) (fun H5 p5 k5 h5 => no h5 (noT ?_)) (fun H5 p5 k5 h5 => q_end ?_)
      · have z : ¬ (T b).length = N.length := fun z => by
          rw [List.length_map, ra.1, z] at p5
          simp at p5
        unfold rtT
        rw [decide_eq_false z, Bool.false_and]
      have lT : (T b).length = N.length := by
        rw [List.length_map, ra.1] at p5
        simp at p5
        omega
      refine q_forPL (g := gName 6) st h5 (ev_var rfl) (SqL.of (t0.gt b)) (fun l2 τ => (∃ y6 y7, τ = [some (.ref pn), some (.ref pt), some (.ref pe), some (.int (N.length : Nat)), y4, some (.ref (pT b)), y6, y7]) ∧ ∀ (i : Nat) r, i < l2 → (T b)[i]? = some r → rtR N r = true) ⟨⟨_, _, rfl⟩, fun i r hi => absurd hi (Nat.not_lt_zero _)⟩ (fun l2 v τ J hv hP s6 => ?_) (fun τ J hP s6 => ?_)
      · obtain ⟨⟨y6, y7, rfl⟩, hold⟩ := hP
        obtain ⟨hl2, rfl⟩ := map_get hv
        have ha : (A b)[l2]? = some (A b)[l2] := List.getElem?_eq_getElem hl2
        have hl2' : l2 < (T b).length := by rw [← ra.1]; exact hl2
        have hr1 : (T b)[l2]? = some (T b)[l2] := List.getElem?_eq_getElem hl2'
        have gr := ra.2 l2 _ _ ha hr1
        have okr := g0.tr b _ (List.getElem_mem hl2')
        have hmem := List.getElem_mem hl2'
        generalize (A b)[l2] = a at ha gr
        generalize (T b)[l2] = r at hr1 gr okr hmem
        have noR : rtR N r = false → rt5 N (T false) (T true) x0 x1 = false := fun h => noT (by
          unfold rtT
          rw [show (T b).all (rtR N) = false from List.all_eq_false.mpr ⟨r, hmem, by rw [h]; decide⟩, Bool.and_false])
        show tSeq _ _ (Ends.mk _ _ _ _) [some (.ref pn), some (.ref pt), some (.ref pe), some (.int (N.length : Nat)), y4, some (.ref (pT b)), some (.ref a), y7] _
        refine q_if st s6.s (et_testV (ev_opV (ev_cbV (ea_consV (ev_var rfl) ea_nilV) (c_lenL st (SqL.of gr))) (ev_var rfl) (v_neI st))) (fun H7 p7 k7 h7 => no h7 (noR ?_)) (fun H7 p7 k7 h7 => q_end ?_)
        · have z : ¬ r.length = N.length := fun z => by
            rw [List.length_map, z] at p7
            simp at p7
          unfold rtR
          rw [decide_eq_false z, Bool.false_and]
        have lR : r.length = N.length := by
          rw [List.length_map] at p7
          simp at p7
          omega
        refine q_forPL (g := gName 7) st h7 (ev_var rfl) (SqL.of gr) (fun l3 τ => (∃ y7, τ = [some (.ref pn), some (.ref pt), some (.ref pe), some (.int (N.length : Nat)), y4, some (.ref (pT b)), some (.ref a), y7]) ∧ ∀ (i : Nat) e, i < l3 → r[i]? = some e → e ∈ N) ⟨⟨_, rfl⟩, fun i r hi => absurd hi (Nat.not_lt_zero _)⟩ (fun l3 v τ J hv hP s8 => ?_) (fun τ J hP s8 => ?_)
        · obtain ⟨⟨y7, rfl⟩, hold3⟩ := hP
          obtain ⟨hl3, rfl⟩ := map_get hv
          show tSeq _ _ (Ends.mk _ _ _ _) [some (.ref pn), some (.ref pt), some (.ref pe), some (.int (N.length : Nat)), y4, some (.ref (pT b)), some (.ref a), some (.str r[l3])] _
          have z := v_inL (neg := true) st (SqL.of (K := K) t0.gn) (x := .str r[l3]) rfl (by rw [List.all_map, List.all_eq_true]; exact fun _ _ => rfl)
          rw [inV_strs] at z
          refine q_if st s8.s (et_testV (ev_opV (ev_var rfl) (ev_var rfl) z)) (fun H9 p9 k9 h9 => no h9 (noR ?_)) (fun H9 p9 k9 h9 => q_end (q_end ⟨⟨⟨_, rfl⟩, fun i e hi he => ?_⟩, s8.go k9 h9⟩))
          · have p9 : true = !decide (r[l3] ∈ N) := p9
            unfold rtR
            rw [show (r.all fun s => decide (s ∈ N)) = false from List.all_eq_false.mpr ⟨r[l3], List.getElem_mem hl3, by
              cases z : decide (r[l3] ∈ N) with
              | false => decide
              | true => rw [z] at p9; cases p9⟩, Bool.and_false]
          · have p9 : false = !decide (r[l3] ∈ N) := p9
            rcases Nat.lt_or_eq_of_le (Nat.le_of_lt_succ hi) with h | h
            · exact hold3 i e h he
            · subst h
              rw [List.getElem?_eq_getElem hl3] at he
              obtain rfl := Option.some.inj he
              cases z : decide (r[i] ∈ N) with
              | true => exact of_decide_eq_true z
              | false => rw [z] at p9; cases p9
        · obtain ⟨⟨y7, rfl⟩, hold3⟩ := hP
          rw [List.length_map] at hold3
          refine q_end ⟨⟨⟨_, _, rfl⟩, fun i r' hi hr' => ?_⟩, (s6.go k7 h7).trans s8⟩
          rcases Nat.lt_or_eq_of_le (Nat.le_of_lt_succ hi) with h | h
          · exact hold i r' h hr'
          · subst h
            rw [hr1] at hr'
            obtain rfl := Option.some.inj hr'
            unfold rtR
            rw [decide_eq_true lR, Bool.true_and, List.all_eq_true]
            intro e he
            obtain ⟨i, hi⟩ := List.getElem?_of_mem he
            exact decide_eq_true (hold3 i e (List.getElem?_eq_some_iff.mp hi).1 hi)
      · obtain ⟨⟨y6, y7, rfl⟩, hold⟩ := hP
        rw [List.length_map] at hold
        refine q_end ⟨⟨⟨_, _, _, rfl⟩, hbT ?_⟩, (s4.go k5 h5).trans s6⟩
        unfold rtT
        rw [decide_eq_true lT, Bool.true_and, List.all_eq_true]
        intro r hr
        obtain ⟨i, hi⟩ := List.getElem?_of_mem hr
        exact hold i r (by have := (List.getElem?_eq_some_iff.mp hi).1; rw [ra.1]; exact this) hi
    · obtain ⟨⟨y5, y6, y7, rfl⟩, ho0, ho1⟩ := hP
      have mem : ∀ {z : Str} {i : Nat}, ([x0, x1] : List Str)[i]? = some z → Ev (SP0 G H) 0 0 (tOp (rInA K false) (tOp (rIxA K) (tVar 2) (tC (.int (i : Nat)))) (tVar 0)) [some (.ref pn), some (.ref pt), some (.ref pe), some (.int (N.length : Nat)), y4, y5, y6, y7] G (IsV (.bl (decide (z ∈ N)))) := fun {z i} hz => by
        have w := v_inL (neg := false) st (SqL.of (K := K) t0.gn) (x := .str z) rfl (by rw [List.all_map, List.all_eq_true]; exact fun _ _ => rfl)
        rw [inV_strs] at w
        exact ev_opV (ka := 0) (kb := 0) (ev_opV (ka := 0) (kb := 0) (ev_var rfl) ev_c (v_ixL st (SqL.of t0.ge) (atI_nat (by rw [List.getElem?_map, hz]; rfl)))) (ev_var rfl) w
      refine q_retV st s4.s (x := .bl (decide (x0 ∈ N) && decide (x1 ∈ N))) (ev_andV (ka := 0) (kb := 0) st (mem (i := 0) rfl) fun _ => mem (i := 1) rfl) fun H5 k5 h5 => q _ _ _ h5 (congrArg V.bl ?_)
      rw [e5, ho0 (by show 0 < 2; decide), ho1 (by show 1 < 2; decide)]
      rfl
def IsSt5 (many : Nat) : HR := fun v G => ∃ (p : Addr) (names : List Str), v = .ref p ∧ G p = some (.lst (names.map V.str)) ∧ names.length = many ∧ ∀ nm ∈ names, TxM 13 nm
instance (many) : Mon (IsSt5 many) := ⟨fun s ⟨p, names, e, g, h⟩ => ⟨p, names, e, s _ _ g, h⟩⟩
def PTn5 : Addr → List V → Nat → Nat → Hp → HR → Prop := fun sa vs _ k _ R => ∃ many : Nat, vs = [.ref sa, .int (many : Nat)] ∧ many ≤ 17 ∧ k = 14 ∧ R = IsSt5 many
abbrev s__law_table_names : Stmt := top 14
theorem sc__law_table_names : FnScope ["_law_source_here", "_law_many", "_law_alphabet", "_law_begin", "_law_word", "_law_k", "_law_cut_at"] ["_law_source_here", "_law_many"] (defScope s__law_table_names) := ⟨rfl, rfl, rfl, by decide +kernel, rfl, by decide +kernel, by decide +kernel⟩
theorem ok_table_names5 {f : Addr} {fd : FuncData} (Z : Bi mg) (c__law_pick : Callee P w K mg base "_law_pick" CX0 1 ["_law_source_here", "_law_many"] [] sp_pick) (F : Fun K "_law_table_names" "_law_table_names" s__law_table_names f fd) : FnOk P w K mg base CX0 3 f fd ["_law_source_here", "_law_many"] (spS PTn5) := by
  refine F.ok sc__law_table_names (fun vs H Q E h => ?_) (fun cdv A outer s H vs Q E hr h => ?_)
  · obtain ⟨_, _, _, _, _, _, _, ⟨_, rfl, _⟩, _⟩ := h
    rfl
  · obtain ⟨sa, cl, n, k, G, R, h0, ⟨many, rfl, m2, rfl, rfl⟩, q⟩ := h
    refine ⟨_, (pss_cons (ps_set (i := 2) sc__law_table_names.nd rfl (Or.inr rfl) pe_str)
  (pss_cons (ps_set (i := 3) sc__law_table_names.nd rfl (Or.inr rfl) (pe_callC c__law_pick (hr.mono (by decide)) pass0 (pa_cons (pv 0) (pa_cons pe_int pa_nil))))
  (pss_cons (ps_set (i := 4) sc__law_table_names.nd rfl (Or.inr rfl) pe_str)
  (pss_cons (ps_for PassesOwn.never rfl (pi_range1 (by rfl) Z.z_range (pa_cons (pe_callC c__law_pick (hr.mono (by decide)) pass0 (pa_cons (pv 0) (pa_cons pe_int pa_nil))) pa_nil)) (pg_name (i := 5) sc__law_table_names.nd rfl (Or.inl rfl)) (pss_cons (ps_set (i := 4) sc__law_table_names.nd rfl (Or.inr rfl) (pe_op op_addA (pv 4) (pe_ix (ix_any K (hu_of hr)) (pv 2) (pe_callC c__law_pick (hr.mono (by decide)) pass0 (pa_cons (pv 0) (pa_cons pe_int pa_nil))) (fun _ _ => rfl))))
  pss_nil))
  (pss_cons (ps_set (i := 6) sc__law_table_names.nd rfl (Or.inr rfl) (pe_callC c__law_pick (hr.mono (by decide)) pass0 (pa_cons (pv 0) (pa_cons (pe_op op_addA (pe_callB (call_lenA K) (by rfl) Z.z_len PySem.boot_len (pa_cons (pv 4) pa_nil)) pe_int) pa_nil))))
  (pss_cons (ps_ret (pe_lc (own := [("_law_k", 5)]) (g := (gName 5)) rfl sc__law_table_names.nd (pi_range1 (by rfl) Z.z_range (pa_cons (pv 1) pa_nil)) (blkOk_by (by kernel_rfl)) (fun _ _ _ _ _ => (pg_name (i := 5) sc__law_table_names.nd rfl (Or.inl rfl))) (fun _ _ _ _ _ => pts_nil) (fun _ _ _ _ _ => (pe_op op_addA (pe_op op_addA (pe_slice sl_str (pv 4) po_none (po_some (pv 6))) (pe_ix (ix_any K (hu_of hr)) (pv 2) (pe_op op_modA (pe_callTy call_intA (by rfl) Z.z_int (by decide +kernel) (pa_cons (pe_op op_addA (pv 3) (pe_op op_mulA pe_int (pv 5))) pa_nil)) pe_int) (fun _ _ => rfl))) (pe_slice sl_str (pv 4) (po_some (pv 6)) po_none)))))
  pss_nil)))))), ?_⟩
    have st := stabS sa cl
    show tSeq _ _ (Ends.mk _ _ _ _) [some _, some _, none, none, none, none, none] _
    have hsz : (1000 : Nat) ≤ sizeLine := by decide
    refine q_setV st h0 (x := .str alphL) ev_c fun H1 k1 h1 => ?_
    refine q_setI st h1 (ev_pick (ea_consV (ev_var rfl) (ea_consV ev_c ea_nilV)) (by decide) (by decide)) fun b0 H2 hb k2 h2 => ?_
    obtain ⟨b, rfl⟩ : ∃ a : Nat, b0 = (a : Nat) := ⟨b0.toNat, by omega⟩
    refine q_setV st h2 (x := .str ("" : Str)) ev_c fun H3 k3 h3 => ?_
    have f3 := (((Fr.refl (S := Src sa cl) G H).kp k1).kp k2).kp k3
    refine q_forRB (Pm := fun m => 0 ≤ m ∧ m < 12) st h3 (ea_cons (ev_pick (ea_consV (ev_var rfl) (ea_consV ev_c ea_nilV)) (by decide) (by decide)) ea_nil) (fun j => j) (fun j σ' G' H' => Fr (Src sa cl) G H G' H' ∧ ∃ a wd, σ' = [some (.ref sa), some (.int (many : Nat)), some (.str alphL), some (.int (b : Nat)), some (.str wd), a, none] ∧ wd.length = j ∧ ∀ x ∈ wd.cps.toList, sgn x = true ∧ x < 128) rfl (fun m h => by omega) (fun H4 k4 h4 => ⟨f3.kp k4, none, ("" : Str), rfl, rfl, fun x hx => by cases hx⟩) (fun m j σ' G4 H4 hm hj s4 h4 hp => ?_) (fun m σ' G4 H4 hm s4 h4 hp => ?_)
    · obtain ⟨f4, a, wd, rfl, hwl, hwc⟩ := hp
      refine q_set (R := IsS fun z => ∃ c, z = wd ++ (⟨#[c]⟩ : Str) ∧ sgn c = true ∧ c < 128) h4 (ev_op (ev_var rfl) (ev_op (R := IsS fun z => ∃ c, z = (⟨#[c]⟩ : Str) ∧ sgn c = true ∧ c < 128) (ev_var rfl) (ev_pick (ea_consV (ev_var rfl) (ea_consV ev_c ea_nilV)) (by decide) (by decide)) fun u v G' s' eu ev => ?_) fun u v G' s' eu ev => ?_) fun v5 G5 H5 s5 r5 => ?_
      · obtain rfl := (show _ = _ from eu)
        obtain ⟨i, hi, rfl⟩ := ev
        obtain ⟨i', rfl⟩ : ∃ a : Nat, i = (a : Nat) := ⟨i.toNat, by omega⟩
        exact rv_imp (v_ixS st (by rw [alph_len]; decide) (alph_at (by omega))) fun v G2 s2 r => ⟨_, ⟨_, rfl, alph_ok _ (by omega), alph_asc _ (by omega)⟩, r⟩
      · obtain rfl := (show _ = _ from eu)
        obtain ⟨z, ⟨c, rfl, hc⟩, rfl⟩ := ev
        exact rv_imp (v_adds st (by rw [hwl]; show j + 1 ≤ _; omega)) fun v G2 s2 r => ⟨_, ⟨c, rfl, hc⟩, r⟩
      · obtain ⟨z, ⟨c, rfl, hc⟩, rfl⟩ := r5
        refine q_end ⟨G5, s4.trans s5.g, s5.s, f4.trans s5.fr, _, _, rfl, by rw [Str.length_append, hwl]; rfl, fun x hx => ?_⟩
        rw [Str.cps_append] at hx
        simp at hx
        rcases hx with h | rfl
        · exact hwc x (by simpa using h)
        · exact hc
    · obtain ⟨f4, a, wd, rfl, hwl, hwc⟩ := hp
      refine q_setI st h4 (ev_pick (ea_consV (ev_var rfl) (ea_consV (ev_opV (ev_cbV (ea_consV (ev_var rfl) ea_nilV) (c_lenS st (by omega))) ev_c (v_add st)) ea_nilV)) (by omega) (by omega)) fun c0 H5 hc k5 h5 => ?_
      obtain ⟨c, rfl⟩ : ∃ a : Nat, c0 = (a : Nat) := ⟨c0.toNat, by omega⟩
      have hcw : c ≤ wd.length := by omega
      have hpl : (cutS wd none (some (c : Nat))).length ≤ 11 ∧ (cutS wd (some (c : Nat)) none).length ≤ 11 := by
        have e1 : (cutS wd none (some (c : Nat))).length = (cutS wd none (some (c : Nat))).cps.toList.length := rfl
        have e2 : (cutS wd (some (c : Nat)) none).length = (cutS wd (some (c : Nat)) none).cps.toList.length := rfl
        have e3 : wd.cps.toList.length = wd.length := rfl
        rw [e1, e2, cutS_pre hcw, cutS_suf hcw, List.length_take, List.length_drop, e3]
        omega
      refine q_ret h5 (ev_lcV (f := fun k => .str (tname (cutS wd none (some (c : Nat))) (cutS wd (some (c : Nat)) none) b k)) st (ea_consV (ev_var rfl) ea_nilV) (by omega) (by omega) (fun _ => rfl) fun j G' hj s' => ?_) fun v6 G6 H6 s6 r6 => ?_
      · refine ev_opV (ev_opV (ev_slS (ev_var rfl) (by omega) eo_none (eo_some (ev_var rfl))) (ev_opV (ev_var rfl) (ev_eq (y := .int (((b + 7 * j) % 36 : Nat))) rfl (ev_eq (congrArg V.int (by omega)) (ev_opV (ev_cbV (ea_consV (ev_opV (ev_var rfl) (ev_opV ev_c (ev_var rfl) (v_mul st (.inl ⟨by decide, by decide⟩))) (v_add st)) ea_nilV) (c_int st)) ev_c (v_mod st (by decide))))) (v_ixS st (by rw [alph_len]; decide) (alph_at (Nat.mod_lt _ (by decide))))) (v_adds st ?_)) (ev_slS (ev_var rfl) (by omega) (eo_some (ev_var rfl)) eo_none) (v_adds st ?_)
        · show _ + 1 ≤ _
          omega
        · rw [Str.length_append]
          show _ + 1 + _ ≤ _
          omega
      · obtain ⟨p6, rfl, _, g6⟩ := r6
        rw [Int.toNat_natCast] at g6
        refine q _ G6 H6 (Fr.stp ((f4.kp k5).trans s6.fr) (st.wk s6.s (by omega))) ⟨p6, (List.range many).map (tname (cutS wd none (some (c : Nat))) (cutS wd (some (c : Nat)) none) b), rfl, by rw [g6, List.map_map]; rfl, by rw [List.length_map, List.length_range], fun nm hnm => ?_⟩
        obtain ⟨k, _, rfl⟩ := List.mem_map.mp hnm
        obtain ⟨z1, z2, z3⟩ := tname_ok (b := b) (k := k) hcw (by omega) hwc
        exact ⟨z2, by omega⟩
theorem strs_of5 {P : Str → Prop} {G : Hp} : ∀ {ys : List V}, (∀ (i : Nat) y, ys[i]? = some y → IsS P y G) → ∃ r : List Str, ys = r.map V.str ∧ (∀ s ∈ r, P s) ∧ r.length = ys.length
  | [], _ => ⟨[], rfl, (fun _ h => by cases h), rfl⟩
  | y :: ys, h => by
    obtain ⟨s, hs, rfl⟩ := h 0 y rfl
    obtain ⟨r, e, hr, hl⟩ := strs_of5 (P := P) (G := G) (ys := ys) fun i z hz => h (i + 1) z hz
    exact ⟨s :: r, by rw [e]; rfl, fun z hz => by
      rcases List.mem_cons.mp hz with rfl | hz
      · exact hs
      · exact hr z hz, by rw [List.length_cons, hl]; rfl⟩
theorem tb5_self {p : Addr} {as : List Addr} {rs : List (List Str)} {G : Hp} (g : G p = some (.lst (as.map V.ref))) (h : RwA as rs G) : p ∉ as := fun hm => by
  obtain ⟨i, hi⟩ := List.getElem?_of_mem hm
  have hl : i < rs.length := by
    have := (List.getElem?_eq_some_iff.mp hi).1
    rw [h.1] at this
    exact this
  have z := h.2 i p _ hi (List.getElem?_eq_getElem hl)
  rw [g] at z
  have z : as.map V.ref = rs[i].map V.str := by
    injection z with z
    injection z
  cases as with
  | nil => cases hm
  | cons a as =>
    cases e : rs[i] with
    | nil => rw [e] at z; cases z
    | cons s r => rw [e] at z; cases z
theorem rl_sr5 {as : List Addr} {rs : List (List Str)} {G : Hp} (h : RwA as rs G) : RL IsSR rs (as.map V.ref) G := by
  obtain ⟨l, h⟩ := h
  induction rs generalizing as with
  | nil =>
    cases as with
    | nil => rfl
    | cons a as => cases l
  | cons r rs ih =>
    cases as with
    | nil => cases l
    | cons a as => exact ⟨.ref a, as.map V.ref, rfl, ⟨a, rfl, h 0 a r rfl rfl⟩, ih (by simpa using l) fun i b q hb hq => h (i + 1) b q hb hq⟩
def dat5 (N : List Str) (J P : List (List Str)) : PyData := .list [.list (N.map PyData.str), .list (J.map rowD), .list (P.map rowD)]
theorem plainB_strs {L : List Str} (h : ∀ s ∈ L, PyData.strOk s = true) : plainBs (L.map PyData.str) = true := plainBs_all fun d hd => by
  obtain ⟨s, hs, rfl⟩ := List.mem_map.mp hd
  exact h s hs
theorem plainB_rows {J : List (List Str)} (h : ∀ r ∈ J, ∀ s ∈ r, PyData.strOk s = true) : plainBs (J.map rowD) = true := plainBs_all fun d hd => by
  obtain ⟨r, hr, rfl⟩ := List.mem_map.mp hd
  exact plainB_strs (h r hr)
theorem dat5_plain {N : List Str} {J P : List (List Str)} (h1 : ∀ s ∈ N, PyData.strOk s = true) (h2 : ∀ r ∈ J, ∀ s ∈ r, PyData.strOk s = true) (h3 : ∀ r ∈ P, ∀ s ∈ r, PyData.strOk s = true) : plainB (dat5 N J P) = true := plainBs_all fun d hd => by
  rcases List.mem_cons.mp hd with rfl | hd
  · exact plainB_strs h1
  · rcases List.mem_cons.mp hd with rfl | hd
    · exact plainB_rows h2
    · obtain rfl := List.mem_singleton.mp hd
      exact plainB_rows h3
theorem dat5_dep (N : List Str) (J P : List (List Str)) : PyData.depth (dat5 N J P) ≤ 60 := by
  have a := depth_rows J
  have b := depth_rows P
  have c : PyData.depth (.list (N.map PyData.str)) = 1 := depth_row N
  simp only [dat5, PyData.depth, PyData.depthAll] at *
  omega
def IsK5 (N : List Str) (J P : List (List Str)) : HR := fun v G => ∃ p a b c, v = .ref p ∧ G p = some (.lst [.ref a, .ref b, .ref c]) ∧ G a = some (.lst (N.map V.str)) ∧ TabS G b J ∧ TabS G c P
instance (N J P) : Mon (IsK5 N J P) := ⟨fun s ⟨p, a, b, c, e, g, h1, h2, h3⟩ => ⟨p, a, b, c, e, s _ _ g, s _ _ h1, h2.mono s, h3.mono s⟩⟩
theorem k5_dp {N : List Str} {J P : List (List Str)} {v : V} {G : Hp} (h : IsK5 N J P v G) : Dp K G v (dat5 N J P) := by
  obtain ⟨p, a, b, c, rfl, g, h1, ⟨vb, gb, rb⟩, ⟨vc, gc, rc⟩⟩ := h
  exact .lst (SqL.of g) (.cons (.lst (SqL.of h1) (dp_strs N)) (.cons (.lst (SqL.of gb) (dp_rows rb)) (.cons (.lst (SqL.of gc) (dp_rows rc)) .nil)))
def IsTS5 (J : List (List Str)) : HR := fun v G => ∃ a, v = .ref a ∧ TabS G a J
instance (J) : Mon (IsTS5 J) := ⟨fun s ⟨a, e, h⟩ => ⟨a, e, h.mono s⟩⟩
theorem t5_tab {pn pe pt : Addr} {pT : Bool → Addr} {A : Bool → List Addr} {N E : List Str} {T : Bool → List (List Str)} {G : Hp} (h : T5 pn pe pt pT A N E T G) (b : Bool) : TabS G (pT b) (T b) := ⟨_, h.gt b, rl_sr5 (h.gr b)⟩
theorem ins_dup {N : List Str} {s : Str} (h : s ∈ N) (i : Nat) : ¬ (N.take i ++ [s] ++ N.drop i).Nodup := fun nd => by
  rw [List.append_assoc] at nd
  have nd : (N.take i ++ s :: N.drop i).Nodup := nd
  rw [List.perm_middle.nodup_iff, List.take_append_drop] at nd
  exact (List.nodup_cons.mp nd).1 h
abbrev s_law : Stmt := top 19
theorem sc_law : FnScope ["_law_script", "_law_state", "_law_changes", "_law_many", "_law_names", "_law_joins", "_law_products", "_law_tables", "_law_edges", "_law_k", "_law_kept", "_law_size", "_law_caught", "e", "_law_a", "_law_b", "_law_row"] ["_law_script"] (defScope s_law) := ⟨rfl, rfl, rfl, by decide +kernel, rfl, by decide +kernel, by decide +kernel⟩
theorem ok_law05 {CB CT a_DeedscaleError a_MixedScales : Addr} (Z : Bi mg) (m_BadScale : mg "BadScale" = some (.ref CB)) (g_DeedscaleError : mg "DeedscaleError" = some (.ref a_DeedscaleError)) (g_MixedScales : mg "MixedScales" = some (.ref a_MixedScales)) (te : PySem.W.exmOne K (.ref CB) (.ref CB) = some true) (xc_BadScale : ExcC K CB)
    (kD : PySem.W.kitOne K (.ref CB) (.ref a_DeedscaleError) = some true) (kV : PySem.W.kitOne K (.ref CB) (.type "ValueError") = some true) (kM : PySem.W.kitOne K (.ref CB) (.ref a_MixedScales) = some false) (oC : ClsOk K CT)
    (k2_TableScale : MakerK P w K mg base "TableScale" CT (L2.CX P w) 10 ["self", "names", "joins", "products", "never", "still"] 3 ["never", "still"] (fun vs zs => vs ++ zs) (spE (spI (PTbI CT)) (spXC CB CT PTbX)))
    (c__law_source : Callee P w K mg base "_law_source" CX0 1 ["_law_script"] [] (sp_source K)) (c__law_pick : Callee P w K mg base "_law_pick" CX0 1 ["_law_source_here", "_law_many"] [] sp_pick) (c__law_table_names : Callee P w K mg base "_law_table_names" CX0 3 ["_law_source_here", "_law_many"] [] (spS PTn5))
    (c__law_change : Callee P w K mg base "_law_change" CX0 3 ["_law_state", "_law_names", "_law_tables", "_law_edges"] [] sp_chg5) (c__law_right : Callee P w K mg base "_law_right" CX0 2 ["_law_names", "_law_tables", "_law_edges"] [] (spP PRt5))
    {f : Addr} {fd : FuncData} (F : Fun K "law" "law" s_law f fd) : FnOk P w K mg base CX0 12 f fd ["_law_script"] (sp_law K) := by
  refine F.ok sc_law (fun vs H Q E h => ?_) (fun cdv A outer s H vs Q E hr h => ?_)
  · obtain ⟨_, _, rfl, _⟩ := h
    rfl
  · obtain ⟨p, ns, rfl, hq, hl, q⟩ := h
    refine ⟨_, (pss_cons (ps_set (i := 1) sc_law.nd rfl (Or.inr rfl) (pe_callC c__law_source (hr.mono (by decide)) pass0 (pa_cons (pv 0) pa_nil)))
  (pss_cons (ps_set (i := 2) sc_law.nd rfl (Or.inl rfl) (pe_callC c__law_pick (hr.mono (by decide)) pass0 (pa_cons (pv 1) (pa_cons pe_int pa_nil))))
  (pss_cons (ps_set (i := 3) sc_law.nd rfl (Or.inr rfl) (pe_callC c__law_pick (hr.mono (by decide)) pass0 (pa_cons (pv 1) (pa_cons pe_int pa_nil))))
  (pss_cons (ps_if (pt_cmpR (op_eqA K hr.units) (pe_callC c__law_pick (hr.mono (by decide)) pass0 (pa_cons (pv 1) (pa_cons pe_int pa_nil))) pe_int (nomark _)) (pss_cons (ps_set (i := 3) sc_law.nd rfl (Or.inr rfl) (pe_op op_addA pe_int (pe_callC c__law_pick (hr.mono (by decide)) pass0 (pa_cons (pv 1) (pa_cons pe_int pa_nil)))))
  pss_nil) pss_nil)
  (pss_cons (ps_set (i := 4) sc_law.nd rfl (Or.inr rfl) (pe_callC c__law_table_names (hr.mono (by decide)) pass0 (pa_cons (pv 1) (pa_cons (pv 3) pa_nil))))
  (pss_cons (ps_setLc (i := 5) (own := [("_law_a", 14)]) (g := (gName 14)) rfl sc_law.nd rfl rfl (sw_true rfl rfl rfl (by decide +kernel)) (pi_listK K (pv 4)) (blkOk_by (by kernel_rfl)) (fun _ _ _ _ _ => (pg_name (i := 14) sc_law.nd rfl (Or.inl rfl))) (fun _ _ _ _ _ => pts_nil) (fun _ _ _ _ _ => (pe_lc (own := [("_law_b", 15)]) (g := (gName 15)) rfl sc_law.nd (pi_listK K (pv 4)) (blkOk_by (by kernel_rfl)) (fun _ _ _ _ _ => (pg_name (i := 15) sc_law.nd rfl (Or.inl rfl))) (fun _ _ _ _ _ => pts_nil) (fun _ _ _ _ _ => (pe_ix (ix_any K (hu_of hr)) (pv 4) (pe_callC c__law_pick (hr.mono (by decide)) pass0 (pa_cons (pv 1) (pa_cons (pv 3) pa_nil))) (fun _ _ => rfl))))))
  (pss_cons (ps_setLc (i := 6) (own := [("_law_a", 14)]) (g := (gName 14)) rfl sc_law.nd rfl rfl (sw_true rfl rfl rfl (by decide +kernel)) (pi_listK K (pv 4)) (blkOk_by (by kernel_rfl)) (fun _ _ _ _ _ => (pg_name (i := 14) sc_law.nd rfl (Or.inl rfl))) (fun _ _ _ _ _ => pts_nil) (fun _ _ _ _ _ => (pe_lc (own := [("_law_b", 15)]) (g := (gName 15)) rfl sc_law.nd (pi_listK K (pv 4)) (blkOk_by (by kernel_rfl)) (fun _ _ _ _ _ => (pg_name (i := 15) sc_law.nd rfl (Or.inl rfl))) (fun _ _ _ _ _ => pts_nil) (fun _ _ _ _ _ => (pe_ix (ix_any K (hu_of hr)) (pv 4) (pe_callC c__law_pick (hr.mono (by decide)) pass0 (pa_cons (pv 1) (pa_cons (pv 3) pa_nil))) (fun _ _ => rfl))))))
  (pss_cons (ps_set (i := 7) sc_law.nd rfl (Or.inl rfl) (pe_lst (pa_cons (pv 5) (pa_cons (pv 6) pa_nil))))
  (pss_cons (ps_set (i := 8) sc_law.nd rfl (Or.inl rfl) (pe_lst (pa_cons pe_str (pa_cons pe_str pa_nil))))
  (pss_cons (ps_if (pt_cmpR op_gtA (pv 3) pe_int (nomark _)) (pss_cons (ps_set (i := 8) sc_law.nd rfl (Or.inl rfl) (pe_lst (pa_cons (pe_ix (ix_any K (hu_of hr)) (pv 4) (pe_callC c__law_pick (hr.mono (by decide)) pass0 (pa_cons (pv 1) (pa_cons (pv 3) pa_nil))) (fun _ _ => rfl)) (pa_cons (pe_ix (ix_any K (hu_of hr)) (pv 4) (pe_callC c__law_pick (hr.mono (by decide)) pass0 (pa_cons (pv 1) (pa_cons (pv 3) pa_nil))) (fun _ _ => rfl)) pa_nil))))
  pss_nil) pss_nil)
  (pss_cons (ps_for PassesOwn.never rfl (pi_range1 (by rfl) Z.z_range (pa_cons (pv 2) pa_nil)) (pg_name (i := 9) sc_law.nd rfl (Or.inl rfl)) (pss_cons (ps_expr (pe_callC c__law_change (hr.mono (by decide)) pass0 (pa_cons (pv 1) (pa_cons (pv 4) (pa_cons (pv 7) (pa_cons (pv 8) pa_nil))))))
  pss_nil))
  (pss_cons (ps_if (PW.pt (pw_and (pt_chain op_ltA op_ltA pe_int (pe_callB (call_lenA K) (by rfl) Z.z_len PySem.boot_len (pa_cons (pv 4) pa_nil)) pe_int) (pw_and1 (pt_cmpR (op_eqA K hr.units) (pe_callC c__law_pick (hr.mono (by decide)) pass0 (pa_cons (pv 1) (pa_cons pe_int pa_nil))) pe_int (nomark _))))) (pss_cons (ps_expr (pe_bm PySem.F.plainAttrs_list PySem.F.slot_list_insert PySem.F.type_list_insert mt_insert (pv 4) (pa_cons (pe_callC c__law_pick (hr.mono (by decide)) pass0 (pa_cons (pv 1) (pa_cons (pe_op op_addA (pe_callB (call_lenA K) (by rfl) Z.z_len PySem.boot_len (pa_cons (pv 4) pa_nil)) pe_int) pa_nil))) (pa_cons (pe_ix (ix_any K (hu_of hr)) (pv 4) (pe_callC c__law_pick (hr.mono (by decide)) pass0 (pa_cons (pv 1) (pa_cons (pe_callB (call_lenA K) (by rfl) Z.z_len PySem.boot_len (pa_cons (pv 4) pa_nil)) pa_nil))) (fun _ _ => rfl)) pa_nil))))
  pss_nil) pss_nil)
  (pss_cons (ps_set (i := 10) sc_law.nd rfl (Or.inl rfl) (pe_lst (pa_cons (pe_callTy (call_listA K) (by rfl) Z.z_list (by decide +kernel) (pa_cons (pv 4) pa_nil)) (pa_cons (pe_lc (own := [("_law_row", 16)]) (g := (gName 16)) rfl sc_law.nd (pi_listK K (pv 5)) (blkOk_by (by kernel_rfl)) (fun _ _ _ _ _ => (pg_name (i := 16) sc_law.nd rfl (Or.inl rfl))) (fun _ _ _ _ _ => pts_nil) (fun _ _ _ _ _ => (pe_callTy (call_listA K) (by rfl) Z.z_list (by decide +kernel) (pa_cons (pv 16) pa_nil)))) (pa_cons (pe_lc (own := [("_law_row", 16)]) (g := (gName 16)) rfl sc_law.nd (pi_listK K (pv 6)) (blkOk_by (by kernel_rfl)) (fun _ _ _ _ _ => (pg_name (i := 16) sc_law.nd rfl (Or.inl rfl))) (fun _ _ _ _ _ => pts_nil) (fun _ _ _ _ _ => (pe_callTy (call_listA K) (by rfl) Z.z_list (by decide +kernel) (pa_cons (pv 16) pa_nil)))) pa_nil)))))
  (pss_cons (ps_set (i := 11) sc_law.nd rfl (Or.inl rfl) (pe_un un_neg pe_int))
  (pss_cons (ps_set (i := 12) sc_law.nd rfl (Or.inl rfl) (pe_lst pa_nil))
  (pss_cons (ps_try_as (i := 13) (Wout := fun _ _ _ _ => False) rfl rfl sc_law.nd rfl rfl ⟨rfl, by decide, Or.inl m_BadScale⟩ takes0
    (fun W pn xe tk _ => (pss_cons (ps_set (i := 11) sc_law.nd rfl (Or.inl rfl) (pe_fldK K (pe_makeKSC k2_TableScale (hr.mono (by decide)) (fun σ => passAt tk σ) (pa_cons (pv 4) (pa_cons (pv 5) (pa_cons (pv 6) pa_nil))) (pk_cons (pe_ix (ix_any K (hu_of hr)) (pv 8) pe_int (fun _ _ => rfl)) (pk_cons (pe_ix (ix_any K (hu_of hr)) (pv 8) pe_int (fun _ _ => rfl)) pk_nil)))))
  pss_nil))
    (fun a oe cls d pn hz hf => (pss_cons (ps_set (i := 12) sc_law.nd rfl (Or.inl rfl) (pe_lst (pa_cons (pe_callB (call_isE0 rfl xc_BadScale hz hf) (by rfl) Z.z_isinstance (by decide +kernel) (pa_cons (pv 13) (pa_cons (pe_glob (v := .ref a_DeedscaleError) rfl g_DeedscaleError rfl) pa_nil))) (pa_cons (pe_callB (call_isE0 rfl xc_BadScale hz hf) (by rfl) Z.z_isinstance (by decide +kernel) (pa_cons (pv 13) (pa_cons (pe_bltn (v := .ty "ValueError") (by rfl) Z.z_ValueError (by decide +kernel) rfl) pa_nil))) (pa_cons (pe_callB (call_isE0 rfl xc_BadScale hz hf) (by rfl) Z.z_isinstance (by decide +kernel) (pa_cons (pv 13) (pa_cons (pe_glob (v := .ref a_MixedScales) rfl g_MixedScales rfl) pa_nil))) pa_nil)))))
  pss_nil)))
  (pss_cons (ps_if (pt_cmpR (op_neA K hr.units) (pe_lst (pa_cons (pv 4) (pa_cons (pv 5) (pa_cons (pv 6) pa_nil)))) (pv 10) (nomark _)) (pss_cons (ps_ret pe_bl)
  pss_nil) pss_nil)
  (pss_cons (ps_if (pt_val (pe_callC c__law_right (hr.mono (by decide)) pass0 (pa_cons (pv 4) (pa_cons (pv 7) (pa_cons (pv 8) pa_nil))))) (pss_cons (ps_ret (pe_and (pe_cmpR (op_eqA K hr.units) (pv 12) (pe_lst pa_nil) (nomark _)) (pe_one (pe_cmpR (op_eqA K hr.units) (pv 11) (pv 3) (nomark _)))))
  pss_nil) pss_nil)
  (pss_cons (ps_ret (pe_and (pe_cmpR (op_eqA K hr.units) (pv 12) (pe_lst (pa_cons pe_bl (pa_cons pe_bl (pa_cons pe_bl pa_nil)))) (nomark _)) (pe_one (pe_cmpR (op_eqA K hr.units) (pv 11) (pe_un un_neg pe_int) (nomark _)))))
  pss_nil))))))))))))))))))), ?_⟩
    show tSeq _ _ (Ends.mk _ _ _ _) [some _, none, none, none, none, none, none, none, none, none, none, none, none, none, none, none, none] _
    refine q_source (fun Q q => ⟨_, rfl, q⟩) hq (by omega) fun sa cl H1 h1 => ?_
    have st := stabS sa cl
    have hc : ∀ (D : Addr) (m : Nat) (G' J : Hp), Src sa cl m G' J → Src sa cl m (cut G' (· = D)) J := fun D m G' J h => src_cut h
    have anyP : ∀ {m : Nat} {σ : L2.St} {G' : Hp} {many : Int}, 1 ≤ many → many ≤ 10 ^ 7 → σ[1]? = some (some (.ref sa)) → EvT (Src sa cl) m 1 (tTest (tOp (rEqA K) (tCall sp_pick [] E0 (tCons (tVar 1) (tCons (tC (.int many)) tNil))) (tC (.int 0)))) σ G' (fun _ => True) := fun {m σ G' many} h1 h2 e => et_any (Ra := IsI fun z => 0 ≤ z ∧ z < many) (Rb := IsV (.int 0)) (stabS sa cl) (ev_pick (ka := 0) (ea_consV (ev_var e) (ea_consV ev_c ea_nilV)) h1 h2) ev_c fun u v G' s' hu hv => by
      obtain ⟨z, _, rfl⟩ := hu
      obtain rfl := (show _ = _ from hv)
      exact ⟨_, v_eqI (stabS sa cl)⟩
    refine q_setI st h1 (P := fun i => 0 ≤ i ∧ i < 3) (ev_pick (ea_consV (ev_var rfl) (ea_consV ev_c ea_nilV)) (by decide) (by decide)) fun chg H2 hchg k2 h2 => ?_
    refine q_setI st h2 (P := fun i => 0 ≤ i ∧ i < 6) (ev_pick (ea_consV (ev_var rfl) (ea_consV ev_c ea_nilV)) (by decide) (by decide)) fun m0 H3 hm0 k3 h3 => ?_
    refine q_ifB (k := 1) st (fun σ' H' => ∃ (m n : Nat) (G' : Hp), σ' = [some (.ref p), some (.ref sa), some (.int chg), some (.int (m : Nat)), none, none, none, none, none, none, none, none, none, none, none, none, none] ∧ m ≤ 17 ∧ Src sa cl n G' H') h3 (anyP (by decide) (by decide) rfl) (fun σ' H' hJ => ?_) (fun H4 hu p4 k4 h4 => ?_) (fun H4 hu p4 k4 h4 => q_end (hu _ _ ⟨m0.toNat, _, _, by rw [show ((m0.toNat : Nat) : Int) = m0 by omega]; rfl, by omega, h4⟩))
    rotate_left
    · refine q_setI st h4 (P := fun i => 16 ≤ i ∧ i ≤ 17) (ev_op (ka := 0) (kb := 1) (Ra := IsV (.int 16)) (Rb := IsI fun r => 0 ≤ r ∧ r < 2) ev_c (ev_pick (ka := 0) (ea_consV (ev_var rfl) (ea_consV ev_c ea_nilV)) (by decide) (by decide)) fun x y G2 s2 hx hy => ?_) fun m1 H5 hm1 k5 h5 => q_end (hu _ _ ⟨m1.toNat, _, _, by rw [show ((m1.toNat : Nat) : Int) = m1 by omega]; rfl, by omega, h5⟩)
      obtain rfl := (show _ = _ from hx)
      obtain ⟨j, hj, rfl⟩ := hy
      exact rv_imp (v_add st) fun v _ _ e => ⟨16 + j, by omega, e⟩
    obtain ⟨m, n4, G4, rfl, hm, h4⟩ := hJ
    refine q_set h4 (ev_callSV (kb := 14) (R := IsSt5 m) (ea_consV (ev_var rfl) (ea_consV (ev_var rfl) ea_nilV)) fun G' s' => ⟨m, rfl, hm, rfl, rfl⟩) fun v5 G5 H5 s5 r5 => ?_
    obtain ⟨pn, N, rfl, gN, nm, okN⟩ := r5
    have tabE : ∀ {n i14 : Nat} {σ : L2.St} {G' : Hp}, Same G5 G' → (∃ z5 z6, σ = [some (.ref p), some (.ref sa), some (.int chg), some (.int (m : Nat)), some (.ref pn), z5, z6, none, none, none, none, none, none, none, none, none, none]) → Ev (Src sa cl) n (0 + (0 + 1 * N.length) * N.length) (tLc (iList K (tVar 4)) (gName 14) tYes (tLc (iList K (tVar 4)) (gName 15) tYes (tOp (rIxA K) (tVar 4) (tCall sp_pick [] E0 (tCons (tVar 1) (tCons (tVar 3) tNil)))) [15]) [14]) σ G' (IsTb5 G' (fun r => r.length = N.length ∧ ∀ s ∈ r, TxM 13 s) N.length) := fun {n i14 σ G'} s' ⟨z5, z6, eσ⟩ => by
      subst eσ
      have lN : (N.map V.str).length = N.length := List.length_map _
      have z := ev_lcT (K := K) (S := Src sa cl) (n := n) (k := 0) (c1 := 0 + 1 * N.length) (te := tVar 4) (i := 14) (vs := [14]) (σ := [some (.ref p), some (.ref sa), some (.int chg), some (.int (m : Nat)), some (.ref pn), z5, z6, none, none, none, none, none, none, none, none, none, none]) (P := fun r => r.length = N.length ∧ ∀ s ∈ r, TxM 13 s) st (ev_var rfl) (SqL.of (s' _ _ gN)) (by rw [lN]; omega) (fun _ => rfl) (el := tLc (iList K (tVar 4)) (gName 15) tYes (tOp (rIxA K) (tVar 4) (tCall sp_pick [] E0 (tCons (tVar 1) (tCons (tVar 3) tNil)))) [15]) fun j x G2 hx s2 => ?_
      · rw [lN] at z
        exact z
      · have y := ev_lcL (K := K) (S := Src sa cl) (n := n + 0 + (0 + 1 * N.length) * j) (k := 0) (c1 := 1) (te := tVar 4) (i := 15) (vs := [15]) (σ := [some (.ref p), some (.ref sa), some (.int chg), some (.int (m : Nat)), some (.ref pn), z5, z6, none, none, none, none, none, none, none, some x, none, none]) (G := G2) st (fun _ => IsS (TxM 13)) (ev_var rfl) (SqL.of (s2 _ _ (s' _ _ gN))) (by rw [lN]; omega) (el := tOp (rIxA K) (tVar 4) (tCall sp_pick [] E0 (tCons (tVar 1) (tCons (tVar 3) tNil)))) (fun i y G3 hy s3 => ?_) (fun _ => rfl)
        · rw [lN] at y
          refine y.imp fun v G3 s3 h => ?_
          obtain ⟨q1, ys, rfl, fq, gq, lq, hq⟩ := h
          obtain ⟨r, rfl, hr, lr⟩ := strs_of5 hq
          exact ⟨r, ⟨by rw [lr, lq], hr⟩, q1, rfl, fq, gq⟩
        · have hm1 : 1 ≤ m := by
            have := (List.getElem?_eq_some_iff.mp hy).1
            rw [lN] at this
            omega
          refine ev_op (ka := 0) (kb := 1) (Ra := IsV (.ref pn)) (Rb := IsI fun i => 0 ≤ i ∧ i < (m : Nat)) (ev_var rfl) (ev_pick (ka := 0) (ea_consV (ev_var rfl) (ea_consV (ev_var rfl) ea_nilV)) (by omega) (by omega)) fun a b G6 s6 ha hb => ?_
          obtain rfl := (show _ = _ from ha)
          obtain ⟨i, hi, rfl⟩ := hb
          obtain ⟨i', rfl⟩ : ∃ a : Nat, i = (a : Nat) := ⟨i.toNat, by omega⟩
          have hi' : i' < N.length := by omega
          exact rv_imp (v_ixL st (SqL.of (s6 _ _ (s3 _ _ (s2 _ _ (s' _ _ gN))))) (atI_nat (by rw [List.getElem?_map, List.getElem?_eq_getElem hi']; rfl))) fun v G2 s2 r => ⟨_, okN _ (List.getElem_mem hi'), r⟩
    refine q_set s5.s (tabE (i14 := 0) (Same.refl _) ⟨_, _, rfl⟩) fun v6 G6 H6 s6 r6 => ?_
    obtain ⟨pj, aJ, J0, rfl, fj, gj, ndJ, raJ, faJ, prJ, lJ⟩ := r6
    refine q_set s6.s (tabE (i14 := 0) s6.g ⟨_, _, rfl⟩) fun v7 G7 H7 s7 r7 => ?_
    obtain ⟨pp, aP, P0, rfl, fp, gp, ndP, raP, faP, prP, lP⟩ := r7
    refine q_set s7.s (ev_lstN st (ea_consV (ev_var rfl) (ea_consV (ev_var rfl) ea_nilV)) (by simp)) fun v8 G8 H8 s8 r8 => ?_
    obtain ⟨pt, rfl, ft, gt⟩ := r8
    refine q_set s8.s (ev_lstN st (ea_consV ev_c (ea_consV ev_c ea_nilV)) (by simp)) fun v9 G9 H9 s9 r9 => ?_
    obtain ⟨pe0, rfl, fe0, ge0⟩ := r9
    show tSeq _ _ (Ends.mk _ _ _ _) [some (.ref p), some (.ref sa), some (.int chg), some (.int (m : Nat)), some (.ref pn), some (.ref pj), some (.ref pp), some (.ref pt), some (.ref pe0), none, none, none, none, none, none, none, none] _
    have ab : TxM 13 "a" ∧ TxM 13 "b" := ⟨⟨by decide +kernel, by decide +kernel⟩, ⟨by decide +kernel, by decide +kernel⟩⟩
    refine q_ifB (k := 0) (P := fun c => c = decide ((m : Int) > 0)) st (fun σ' H' => ∃ pe x0 x1 n G', σ' = [some (.ref p), some (.ref sa), some (.int chg), some (.int (m : Nat)), some (.ref pn), some (.ref pj), some (.ref pp), some (.ref pt), some (.ref pe), none, none, none, none, none, none, none, none] ∧ Src sa cl n G' H' ∧ Same G8 G' ∧ G8 pe = none ∧ G' pe = some (.lst [.str x0, .str x1]) ∧ TxM 13 x0 ∧ TxM 13 x1) s9.s (et_testV (ev_opV (ev_var rfl) ev_c (v_gt st))) (fun σ' H' hJ => ?_) (fun H10 hu p10 k10 h10 => ?_) (fun H10 hu p10 k10 h10 => q_end (hu _ _ ⟨pe0, "a", "b", _, G9, rfl, h10, s9.g, fe0, ge0, ab.1, ab.2⟩))
    rotate_left
    · have hm1 := of_decide_eq_true p10.symm
      have nmE : ∀ {n : Nat} {σ : L2.St} {G' : Hp}, Same G9 G' → σ[1]? = some (some (.ref sa)) → σ[3]? = some (some (.int (m : Nat))) → σ[4]? = some (some (.ref pn)) → Ev (Src sa cl) n 1 (tOp (rIxA K) (tVar 4) (tCall sp_pick [] E0 (tCons (tVar 1) (tCons (tVar 3) tNil)))) σ G' (IsS (TxM 13)) := fun s' e1 e3 e4 => ev_op (ka := 0) (kb := 1) (Ra := IsV (.ref pn)) (Rb := IsI fun i => 0 ≤ i ∧ i < (m : Nat)) (ev_var e4) (ev_pick (ka := 0) (ea_consV (ev_var e1) (ea_consV (ev_var e3) ea_nilV)) (by omega) (by omega)) fun a b G6 s6' ha hb => by
        obtain rfl := (show _ = _ from ha)
        obtain ⟨i, hi, rfl⟩ := hb
        obtain ⟨i', rfl⟩ : ∃ a : Nat, i = (a : Nat) := ⟨i.toNat, by omega⟩
        have hi' : i' < N.length := by omega
        exact rv_imp (v_ixL st (SqL.of (s6' _ _ (s' _ _ (s9.g _ _ (s8.g _ _ (s7.g _ _ (s6.g _ _ gN))))))) (atI_nat (by rw [List.getElem?_map, List.getElem?_eq_getElem hi']; rfl))) fun v G2 s2 r => ⟨_, okN _ (List.getElem_mem hi'), r⟩
      refine q_set h10 (ev_lstXN st (RA := RCons (IsS (TxM 13)) (RCons (IsS (TxM 13)) RNil)) (ea_cons (ka := 1) (nmE (Same.refl _) rfl rfl rfl) (ea_cons (ka := 1) (nmE (Same.refl _) rfl rfl rfl) ea_nil)) rc2_len) fun v11 G11 H11 s11 r11 => q_end ?_
      obtain ⟨pe, xs, rfl, fpe, gpe, _, _, rfl, ⟨x0, hx0, rfl⟩, _, _, rfl, ⟨x1, hx1, rfl⟩, e3⟩ := r11
      obtain rfl := (show _ = [] from e3)
      exact hu _ _ ⟨pe, x0, x1, _, G11, rfl, s11.s, s9.g.trans s11.g, s9.g.free fpe, gpe, hx0, hx1⟩
    obtain ⟨pe, x0, x1, n10, G10, rfl, h10, s10, fe, ge, hx0, hx1⟩ := hJ
    have t10 : T5 pn pe pt (fun b => cond b pp pj) (fun b => cond b aP aJ) N [x0, x1] (fun b => cond b P0 J0) G10 := by
      have g8N := s8.g _ _ (s7.g _ _ (s6.g _ _ gN))
      have g8j := s8.g _ _ (s7.g _ _ gj)
      have g8p := s8.g _ _ gp
      have nn : ∀ {G' : Hp} {a b : Addr} {o : HO}, G' a = some o → G' b = none → a ≠ b := fun h1 h2 e => by
        rw [e, h2] at h1
        cases h1
      have old : ∀ {as : List Addr} {rs : List (List Str)} {G' : Hp} {b : Addr}, RwA as rs G' → G' b = none → ∀ a ∈ as, a ≠ b := fun ra hb a ha => by
        obtain ⟨i, hi⟩ := List.getElem?_of_mem ha
        have hl := (List.getElem?_eq_some_iff.mp hi).1
        rw [ra.1] at hl
        exact nn (ra.2 i a _ hi (List.getElem?_eq_getElem hl)) hb
      refine ⟨⟨nn g8N fe, nn (s7.g _ _ (s6.g _ _ gN)) ft, (fun e => by rw [e, gt] at fe; cases fe), fun b => ?_, fun b c hbc => ?_, fun b a ha => ?_, fun b => ?_, fun b c hbc a ha hb => ?_⟩, s10 _ _ g8N, ge, s10 _ _ gt, fun b => ?_, fun b => ?_⟩
      · cases b with
        | false => exact ⟨nn gN fj, Ne.symm (nn g8j fe), Ne.symm (nn (s7.g _ _ gj) ft)⟩
        | true => exact ⟨nn (s6.g _ _ gN) fp, Ne.symm (nn g8p fe), Ne.symm (nn gp ft)⟩
      · cases b <;> cases c
        · exact absurd rfl hbc
        · exact nn gj fp
        · exact Ne.symm (nn gj fp)
        · exact absurd rfl hbc
      · cases b with
        | false =>
          refine ⟨Ne.symm (nn gN (faJ a ha)), old ((raJ.mono s7.g).mono s8.g) fe a ha, old (raJ.mono s7.g) ft a ha, fun c => ?_⟩
          cases c with
          | false => exact fun e => tb5_self gj raJ (by rw [← show a = pj from e]; exact ha)
          | true => exact old raJ fp a ha
        | true =>
          refine ⟨Ne.symm (nn (s6.g _ _ gN) (faP a ha)), old (raP.mono s8.g) fe a ha, old raP ft a ha, fun c => ?_⟩
          cases c with
          | false => exact Ne.symm (nn gj (faP a ha))
          | true => exact fun e => tb5_self gp raP (by rw [← show a = pp from e]; exact ha)
      · cases b with
        | false => exact ndJ
        | true => exact ndP
      · have : ∀ x ∈ aJ, x ∉ aP := fun x hx hy => old raJ (faP x hy) x hx rfl
        cases b <;> cases c
        · exact hbc rfl
        · exact this a ha hb
        · exact this a hb ha
        · exact hbc rfl
      · cases b with
        | false => exact s10 _ _ g8j
        | true => exact s10 _ _ g8p
      · cases b with
        | false => exact ((raJ.mono s7.g).mono s8.g).mono s10
        | true => exact (raP.mono s8.g).mono s10
    have d10 : Gd5 m 0 N [x0, x1] (fun b => cond b P0 J0) := by
      refine ⟨nm, okN, rfl, fun s hs => ?_, fun b => ?_, fun b r hr => ?_⟩
      · rcases List.mem_cons.mp hs with rfl | hs
        · exact hx0
        · obtain rfl := List.mem_singleton.mp hs
          exact hx1
      · cases b with
        | false => rw [show (cond false P0 J0) = J0 from rfl, lJ]; omega
        | true => rw [show (cond true P0 J0) = P0 from rfl, lP]; omega
      · cases b with
        | false =>
          have := prJ r hr
          exact ⟨by omega, this.2⟩
        | true =>
          have := prP r hr
          exact ⟨by omega, this.2⟩
    generalize (fun b => cond b aP aJ) = A0 at t10
    generalize hpT : (fun b => cond b pp pj) = pT at t10
    have pTf : pT false = pj := by rw [← hpT]; rfl
    have pTt : pT true = pp := by rw [← hpT]; rfl
    rw [← pTf, ← pTt]
    clear hpT
    generalize (fun b => cond b P0 J0) = T0 at t10 d10
    have e0 : ([x0, x1] : List Str).length = 2 := rfl
    generalize ([x0, x1] : List Str) = E0' at t10 d10 e0
    refine q_forI1 (k := 0) h10 (ea_consV (ev_var rfl) ea_nilV) (by omega) (by omega) (fun j τ J' => ∃ y9 n G' A N E T, τ = [some (.ref p), some (.ref sa), some (.int chg), some (.int (m : Nat)), some (.ref pn), some (.ref (pT false)), some (.ref (pT true)), some (.ref pt), some (.ref pe), y9, none, none, none, none, none, none, none] ∧ Src sa cl n G' J' ∧ T5 pn pe pt pT A N E T G' ∧ Gd5 m (2 * j) N E T) (fun G' H' s' => ⟨_, _, G', A0, N, E0', T0, rfl, s'.s, t10.mono s'.g, d10⟩) (fun j τ J' hj hP => ?_) (fun τ J' hP => ?_)
    · obtain ⟨y9, n11, G11, A11, N11, E11, T11, rfl, h11, t11, d11⟩ := hP
      refine q_dropC (k := 0) (RA := IsVs [.ref sa, .ref pn, .ref pt, .ref pe]) h11 (ea_consV (ev_var rfl) (ea_consV (ev_var rfl) (ea_consV (ev_var rfl) (ea_consV (ev_var rfl) ea_nilV)))) fun vs G' H' s' ev => ?_
      obtain rfl := (show _ = _ from ev)
      exact ⟨sa, cl, _, G', pn, pe, pt, pT, A11, N11, E11, T11, m, 2 * j, rfl, s'.s, t11.mono s'.g, d11, hm, by omega, fun n' G2 H2 A' N' E' T' a b c => q_end ⟨_, n', G2, A', N', E', T', rfl, a, b, c⟩⟩
    · obtain ⟨y9, n11, G11, A11, N11, E11, T11, rfl, h11, t11, d11⟩ := hP
      have d11 := d11.up (j := 4) (by omega)
      have nm11 := d11.nm
      have lN : (N11.map V.str).length = N11.length := List.length_map _
      have len : ∀ {n : Nat} {σ : L2.St} {G' : Hp}, Same G11 G' → σ[4]? = some (some (.ref pn)) → Ev (Src sa cl) n 0 (tCB (rLenA K) (tCons (tVar 4) tNil)) σ G' (IsV (.int (N11.length : Nat))) := fun s' e => ev_eq (congrArg V.int (by rw [lN])) (ev_cbV (ea_consV (ev_var e) ea_nilV) (c_lenL st (SqL.of (s' _ _ t11.gn))))
      refine q_ifB (k := 1) (P := fun c => c = true → 0 < N11.length) st (fun σ' H' => ∃ n G' N', σ' = [some (.ref p), some (.ref sa), some (.int chg), some (.int (m : Nat)), some (.ref pn), some (.ref (pT false)), some (.ref (pT true)), some (.ref pt), some (.ref pe), y9, none, none, none, none, none, none, none] ∧ Src sa cl n G' H' ∧ T5 pn pe pt pT A11 N' E11 T11 G' ∧ (∀ s ∈ N', TxM 13 s) ∧ N'.length ≤ 18 ∧ (N'.Nodup → N'.length = m)) h11 ((et_andL (ka := 0) (kb := 1) (P2 := fun _ => True) st (et_testV (ev_chain (ka := 0) (kb := 0) (kc := 0) st ev_c (len (Same.refl _) rfl) (v_lt st) ev_c (v_lt st))) fun _ => anyP (by decide) (by decide) rfl).imp fun c h hc => ?_) (fun σ' H' hJ => ?_) (fun H12 hu p12 k12 h12 => ?_) (fun H12 hu p12 k12 h12 => q_end (hu _ _ ⟨_, G11, N11, rfl, h12, t11, d11.no, by omega, fun _ => nm11⟩))
      · have z := of_decide_eq_true (Bool.and_eq_true_iff.mp (h hc)).1
        omega
      rotate_left
      · have hl := p12 rfl
        obtain ⟨_, _, b0, b1⟩ := src_fr0 h12 t11.gn
        refine q_insG (ka := 0) (kb := 2) (P := fun i => 0 ≤ i ∧ i < ((N11.length + 1 : Nat) : Int)) (R := IsS (· ∈ N11)) st b0 b1 (hc _) h12 t11.gn (by rw [lN]; omega) (fun i hi => by omega) (ev_var rfl) (ea_cons (ka := 1) (kb := 1) (ev_pick (ka := 0) (many := ((N11.length + 1 : Nat) : Int)) (ea_consV (ev_var rfl) (ea_consV (ev_eq (congrArg V.int (by omega)) (ev_opV (ka := 0) (kb := 0) (len (Same.refl _) rfl) ev_c (v_add st))) ea_nilV)) (by omega) (by omega)) (ea_cons (ka := 1) (kb := 0) (ev_op (ka := 0) (kb := 1) (Ra := IsV (.ref pn)) (Rb := IsI fun i => 0 ≤ i ∧ i < (N11.length : Nat)) (ev_var rfl) (ev_pick (ka := 0) (ea_consV (ev_var rfl) (ea_consV (len (Same.refl _) rfl) ea_nilV)) (by omega) (by omega)) fun a b G6 s6' ha hb => ?_) ea_nil)) fun i v G' H' hi hv s' hS => q_end (hu _ _ ?_)
        · obtain rfl := (show _ = _ from ha)
          obtain ⟨i, hi, rfl⟩ := hb
          obtain ⟨i', rfl⟩ : ∃ a : Nat, i = (a : Nat) := ⟨i.toNat, by omega⟩
          have hi' : i' < N11.length := by omega
          exact rv_imp (v_ixL st (SqL.of (s6' _ _ t11.gn)) (atI_nat (by rw [List.getElem?_map, List.getElem?_eq_getElem hi']; rfl))) fun v G2 s2 r => ⟨_, List.getElem_mem hi', r⟩
        · obtain ⟨x, hx, rfl⟩ := hv
          have er : (N11.map V.str).take i.toNat ++ [V.str x] ++ (N11.map V.str).drop i.toNat = (N11.take i.toNat ++ [x] ++ N11.drop i.toNat).map V.str := by
            rw [List.map_append, List.map_append, List.map_take, List.map_drop]
            rfl
          rw [er] at hS
          refine ⟨_, _, _, rfl, hS, (t11.mono s').setN, fun s hs => ?_, ?_, fun nd => absurd nd (ins_dup hx _)⟩
          · rcases List.mem_append.mp hs with h | h
            · rcases List.mem_append.mp h with h | h
              · exact d11.no s (List.mem_of_mem_take h)
              · obtain rfl := List.mem_singleton.mp h
                exact d11.no s hx
            · exact d11.no s (List.mem_of_mem_drop h)
          · rw [List.length_append, List.length_append, List.length_take, List.length_drop]
            show _ + 1 + _ ≤ _
            omega
      obtain ⟨n12, G12, N12, rfl, h12, t12, ok12, l12, nd12⟩ := hJ
      have okT : ∀ b, ∀ r ∈ T11 b, r.length ≤ 21 ∧ ∀ s ∈ r, TxM 13 s := fun b r hr => by
        have := d11.tr b r hr
        exact ⟨by omega, this.2⟩
      have rowsE : ∀ {n i : Nat} {b : Bool} {σ : L2.St} {G' : Hp}, Same G12 G' → (i = 5 ∧ b = false ∨ i = 6 ∧ b = true) → σ = [some (.ref p), some (.ref sa), some (.int chg), some (.int (m : Nat)), some (.ref pn), some (.ref (pT false)), some (.ref (pT true)), some (.ref pt), some (.ref pe), y9, none, none, none, none, none, none, none] → Ev (Src sa cl) n 0 (tLc (iList K (tVar i)) (gName 16) tYes (tCB (rListQ K) (tCons (tVar 16) tNil)) [16]) σ G' (IsTS5 (T11 b)) := fun {n i b σ G'} s' hi eσ => by
        have ei : σ[i]? = some (some (.ref (pT b))) := by
          subst eσ
          rcases hi with ⟨rfl, rfl⟩ | ⟨rfl, rfl⟩ <;> rfl
        have lA : (A11 b).length = (T11 b).length := (t12.gr b).1
        have lT := d11.tl b
        have g12 := s' _ _ (t12.gt b)
        have rl := rl_sr5 (t12.gr b)
        refine (ev_lcG (R := fun r : List Str => IsSR r) (ss := T11 b) (σf := fun j => (wipe σ [16]).set 16 (some (((A11 b).map V.ref).getD j .non))) st (ev_var ei) (SqL.of g12) (by rw [List.length_map]; exact lA) (by rw [List.length_map]; omega) (fun j x G2 J hx s2 s3 Q q => ?_) (fun j => by subst eσ; rfl) fun j x r G2 hx hr s2 => ?_).imp fun v G2 s2 h => ?_
        · rw [List.getD_eq_getElem?_getD, hx] at q
          exact q
        · rw [List.getD_eq_getElem?_getD, hx]
          obtain ⟨u, hu, a, rfl, ga⟩ := rl_get rl hr
          rw [hu] at hx
          obtain rfl := Option.some.inj hx
          subst eσ
          exact (ev_cbV (ea_consV (ev_var rfl) ea_nilV) (c_listN (K := K) st (SqL.of (s2 _ _ (s' _ _ ga))))).imp fun v G3 s3 ⟨p', e1, e2, e3⟩ => ⟨p', e1, e3⟩
        · obtain ⟨a, xs, rfl, _, ga, ra⟩ := h
          exact ⟨a, rfl, xs, ga, ra⟩
      have k5of : ∀ {n : Nat} {t : TA} {σ : L2.St} {G' : Hp}, EvA (Src sa cl) n 0 t σ G' (RCons (IsBl (N12.map V.str)) (RCons (IsTS5 (T11 false)) (RCons (IsTS5 (T11 true)) RNil))) → Ev (Src sa cl) n 0 (tLst t) σ G' (IsK5 N12 (T11 false) (T11 true)) := fun e => (ev_lstXN st e rc3_len).imp fun v G2 s2 h => by
        obtain ⟨q1, xs, rfl, _, g1, _, _, rfl, ⟨a, rfl, ga⟩, _, _, rfl, ⟨b, rfl, gb⟩, _, _, rfl, ⟨c, rfl, gc⟩, e4⟩ := h
        obtain rfl := (show _ = [] from e4)
        exact ⟨q1, a, b, c, rfl, g1, ga, gb, gc⟩
      refine q_set h12 (k5of (ea_cons (ka := 0) (kb := 0) ((ev_cbV (ea_consV (ev_var rfl) ea_nilV) (c_listN (K := K) st (SqL.of t12.gn))).imp fun v G3 s3 ⟨p', e1, e2, e3⟩ => ⟨p', e1, e3⟩) (ea_cons (ka := 0) (kb := 0) (rowsE (Same.refl _) (.inl ⟨rfl, rfl⟩) rfl) (ea_cons (ka := 0) (kb := 0) (rowsE (Same.refl _) (.inr ⟨rfl, rfl⟩) rfl) ea_nil)))) fun v13 G13 H13 s13 r13 => ?_
      obtain ⟨pk, rfl⟩ : ∃ pk, v13 = .ref pk := by
        obtain ⟨pk, _, _, _, e, _⟩ := r13
        exact ⟨pk, e⟩
      have t13 := t12.mono s13.g
      refine q_setV st s13.s (ev_unV ev_c (u_neg st)) fun H14 k14 h14 => ?_
      refine q_set h14 (ev_lstN st ea_nilV (by simp)) fun v15 G15 H15 s15 r15 => ?_
      obtain ⟨pc, rfl, _, gc⟩ := r15
      have t15 := t13.mono s15.g
      have el := d11.el
      obtain ⟨z0, z1, rfl⟩ : ∃ z0 z1, E11 = [z0, z1] := by
        rcases E11 with _ | ⟨z0, _ | ⟨z1, _ | ⟨z2, r⟩⟩⟩
        · cases el
        · cases el
        · exact ⟨z0, z1, rfl⟩
        · cases el
      show tSeq _ _ (Ends.mk _ _ _ _) [some (.ref p), some (.ref sa), some (.int chg), some (.int (m : Nat)), some (.ref pn), some (.ref (pT false)), some (.ref (pT true)), some (.ref pt), some (.ref pe), y9, some (.ref pk), some (.int (-1)), some (.ref pc), none, none, none, none] _
      refine q_join (fun σ' H' => ∃ y13 sz pc' n G', σ' = [some (.ref p), some (.ref sa), some (.int chg), some (.int (m : Nat)), some (.ref pn), some (.ref (pT false)), some (.ref (pT true)), some (.ref pt), some (.ref pe), y9, some (.ref pk), some (.int sz), some (.ref pc'), y13, none, none, none] ∧ Src sa cl n G' H' ∧ Same G15 G' ∧ ((TbOk N12 (T11 false) (T11 true) z0 z1 ∧ sz = (N12.length : Nat) ∧ G' pc' = some (.lst [])) ∨ (¬ TbOk N12 (T11 false) (T11 true) z0 z1 ∧ sz = -1 ∧ G' pc' = some (.lst [.bl true, .bl true, .bl false])))) (fun σ' H' hJ => ?_) fun nx' hn => ?_
      · obtain ⟨y13, sz, pc', n16, G16, rfl, h16, s16, hres⟩ := hJ
        have t16 := t15.mono s16
        have k16 := Mon.mon (R := IsK5 N12 (T11 false) (T11 true)) (s15.g.trans s16) r13
        have pl : plainB (dat5 N12 (T11 false) (T11 true)) = true := dat5_plain (fun s hs => (ok12 s hs).1) (fun r hr s hs => ((okT false r hr).2 s hs).1) fun r hr s hs => ((okT true r hr).2 s hs).1
        refine q_if st h16 (et_testV (b := false) (ev_op (ka := 0) (kb := 0) (Ra := IsK5 N12 (T11 false) (T11 true)) (Rb := IsK5 N12 (T11 false) (T11 true)) (k5of (ea_cons (ka := 0) (kb := 0) ((ev_var rfl).imp fun v G2 s2 e => ⟨pn, e, s2 _ _ t16.gn⟩) (ea_cons (ka := 0) (kb := 0) ((ev_var rfl).imp fun v G2 s2 e => ⟨_, e, (t5_tab t16 false).mono s2⟩) (ea_cons (ka := 0) (kb := 0) ((ev_var rfl).imp fun v G2 s2 e => ⟨_, e, (t5_tab t16 true).mono s2⟩) ea_nil)))) ((ev_var rfl).imp fun v G2 s2 e => by rw [show v = _ from e]; exact Mon.mon s2 k16) fun x y G2 s2 hx hy => ?_)) (fun H17 p17 k17 h17 => by cases p17) (fun H17 p17 k17 h17 => q_end ?_)
        · have z := v_neD (K := K) st (k5_dp hx) (k5_dp hy) (shapedB pl (dat5_dep _ _ _)) (shapedB pl (dat5_dep _ _ _))
          rw [eqvB _ pl] at z
          exact z
        refine q_if (P := fun c => c = rt5 N12 (T11 false) (T11 true) z0 z1) st h17 (et_B (ev_callV (k := 0) st (ea_consV (ev_var rfl) (ea_consV (ev_var rfl) (ea_consV (ev_var rfl) ea_nilV))) fun G' s' => ⟨pn, pe, pt, pT, A11, N12, z0, z1, T11, N12.length, 4, rfl, t16.mono s', ⟨rfl, ok12, rfl, d11.eo, d11.tl, d11.tr⟩, by omega, by decide, rfl⟩)) (fun H18 p18 k18 h18 => ?_) (fun H18 p18 k18 h18 => ?_)
        · have T := rt5_iff.mp p18.symm
          rcases hres with ⟨_, rfl, gc'⟩ | ⟨hno, _⟩
          · have lm := nd12 T.nd
            refine q_retV st h18 (x := .bl (true && true)) (ev_andV (ka := 0) (kb := 0) st (ev_op (ka := 0) (kb := 0) (Ra := IsV (.ref pc')) (Rb := IsBl []) (ev_var rfl) ((ev_lstN st ea_nilV (by simp)).imp fun v G3 s3 ⟨p', e1, e2, e3⟩ => ⟨p', e1, e3⟩) fun x y G2 s2 hx hy => ?_) fun _ => ev_eq (congrArg V.bl (decide_eq_true (by rw [lm]))) (ev_opV (ka := 0) (kb := 0) (ev_var rfl) (ev_var rfl) (v_eqI st))) fun H19 k19 h19 => q _
            obtain rfl := (show _ = _ from hx)
            obtain ⟨p', rfl, g'⟩ := hy
            exact v_eqD (d := .list []) (e := .list []) st (.lst (SqL.of (s2 _ _ gc')) .nil) (.lst (SqL.of g') .nil) (shapedB rfl (by decide)) (shapedB rfl (by decide))
          · exact absurd T hno
        · have hno : ¬ TbOk N12 (T11 false) (T11 true) z0 z1 := fun T => by
            rw [rt5_iff.mpr T] at p18
            cases p18
          rcases hres with ⟨T, _⟩ | ⟨_, rfl, gc'⟩
          · exact absurd T hno
          · refine q_end ?_
            refine q_retV st h18 (x := .bl (true && true)) (ev_andV (ka := 0) (kb := 0) st (ev_op (ka := 0) (kb := 0) (Ra := IsV (.ref pc')) (Rb := IsBl [.bl true, .bl true, .bl false]) (ev_var rfl) ((ev_lstN st (ea_consV ev_c (ea_consV ev_c (ea_consV ev_c ea_nilV))) (by simp)).imp fun v G3 s3 ⟨p', e1, e2, e3⟩ => ⟨p', e1, e3⟩) fun x y G2 s2 hx hy => ?_) fun _ => ev_opV (ka := 0) (kb := 0) (ev_var rfl) (ev_unV ev_c (u_neg st)) (v_eqI st)) fun H19 k19 h19 => q _
            obtain rfl := (show _ = _ from hx)
            obtain ⟨p', rfl, g'⟩ := hy
            have pl3 : plainB (.list [.bool true, .bool true, .bool false]) = true := rfl
            have z := v_eqD (K := K) (d := .list [.bool true, .bool true, .bool false]) (e := .list [.bool true, .bool true, .bool false]) st (.lst (SqL.of (s2 _ _ gc')) (.cons (.bl _) (.cons (.bl _) (.cons (.bl _) .nil)))) (.lst (SqL.of g') (.cons (.bl _) (.cons (.bl _) (.cons (.bl _) .nil)))) (shapedB pl3 (by simp [PyData.depth, PyData.depthAll])) (shapedB pl3 (by simp [PyData.depth, PyData.depthAll]))
            rw [eqvB _ pl3] at z
            exact z
      · have edg : ∀ {n i : Nat} {z : Str} {σ : L2.St} {G' : Hp}, Same G15 G' → σ[8]? = some (some (.ref pe)) → ([z0, z1] : List Str)[i]? = some z → Ev (Src sa cl) n 0 (tOp (rIxA K) (tVar 8) (tC (.int (i : Nat)))) σ G' (IsV (.str z)) := fun s' e hz => ev_opV (ka := 0) (kb := 0) (ev_var e) ev_c (v_ixL st (SqL.of (s' _ _ t15.ge)) (atI_nat (by rw [List.getElem?_map, hz]; rfl)))
        refine q_mkCKG (K := K) (ka := 0) (kb := 0) (RA := IsVs [.ref pn, .ref (pT false), .ref (pT true)]) (RB := IsVs [.str z0, .str z1]) st s15.s (ea_consV (ev_var rfl) (ea_consV (ev_var rfl) (ea_consV (ev_var rfl) ea_nilV))) (fun G' s' => ea_consV (ka := 0) (edg (i := 0) s' rfl rfl) (ea_consV (ka := 0) (edg (i := 1) s' rfl rfl) ea_nilV)) (fun vs G' e => by rw [show vs = _ from e]; rfl) (fun vs G' e => by rw [show vs = _ from e]; rfl) fun vs zs G3 G4 H4 s4 s34 e1 e2 => ?_
        obtain rfl := (show vs = _ from e1)
        obtain rfl := (show zs = _ from e2)
        have t4 := t15.mono s4.g
        by_cases hb : TbOk N12 (T11 false) (T11 true) z0 z1
        · refine mkC_ok st s4.s (fun x => rfl) ⟨rfl, rfl, pn, pT false, pT true, N12, T11 false, T11 true, z0, z1, rfl, t4.gn, t5_tab t4 false, t5_tab t4 true, hb, rfl⟩ fun v G5 H5 s5 io => ?_
          obtain ⟨x, dx, fs', G5', rfl, gx, ss, hsc, _⟩ := io
          refine q_setV st s5.s (ev_fld st ev_c (ss _ _ upd_same) oC.c (oC.n _ (by decide)) hsc.siz) fun H6 k6 h6 => q_end (hn _ _ ⟨none, _, pc, _, G5, rfl, h6, s4.g.trans s5.g, .inl ⟨hb, rfl, s5.g _ _ (s4.g _ _ gc)⟩⟩)
        · have lJ := fun b => d11.tl b
          refine mkC_bad st s4.s (fun x => rfl) ⟨pn, pT false, pT true, N12, T11 false, T11 true, z0, z1, rfl, t4.gn, t5_tab t4 false, t5_tab t4 true, by omega, fun nm h => by have := (ok12 nm h).2; omega, by have := lJ false; omega, by have := lJ true; omega, fun r h => by have := (okT false r h).1; omega, fun r h => by have := (okT true r h).1; omega, hb⟩ fun H5 k5 h5 => ?_
          refine ⟨true, te, fun _ bb _ => ?_, fun z => by cases z⟩
          show tSeq _ _ (Ends.mk _ _ _ _) [some (.ref p), some (.ref sa), some (.int chg), some (.int (m : Nat)), some (.ref pn), some (.ref (pT false)), some (.ref (pT true)), some (.ref pt), some (.ref pe), y9, some (.ref pk), some (.int (-1)), some (.ref pc), some (.ref bb), none, none, none] _
          refine q_set h5 (ev_lstN st (ea_consV (ev_cbV (ea_consV (ev_var rfl) (ea_consV ev_c ea_nilV)) (c_isE st (fun _ r => r) kD)) (ea_consV (ev_cbV (ea_consV (ev_var rfl) (ea_consV ev_c ea_nilV)) (c_isE st (fun _ r => r) kV)) (ea_consV (ev_cbV (ea_consV (ev_var rfl) (ea_consV ev_c ea_nilV)) (c_isE st (fun _ r => r) kM)) ea_nilV))) (by simp)) fun v9 G9 H9 s9 r9 => ?_
          obtain ⟨p9, rfl, _, g9⟩ := r9
          exact q_end (hn _ _ ⟨_, -1, p9, _, G9, rfl, s9.s, s4.g.trans s9.g, .inr ⟨hb, rfl, g9⟩⟩)
end
end L2.DS
namespace L2.DS
open PySem PySem.Spec PyProof.Rows
theorem bind_Scale {K : PySem.W.Frag} {f : Addr} {fd : FuncData} (F : FunD K "__init__" "Scale.__init__" (defArgs s_Scale___init__) (defBody s_Scale___init__) (defScope s_Scale___init__) [.int 1] [] f fd) : ∃ ds, Vals [.int 1] ds ∧ Binds K fd ["self", "label", "names", "never_at", "still_at", "depth"] ds :=
  F.binds1 5 0 (by decide) rfl fun T kV doc pm an cdv ct us its h1 h2 => match us, its, h1, h2 with
    | [_, _, _, _, _], [_], _, _ => ⟨_, rfl, rfl⟩
theorem FunSD.kbindsN {prog : Program} {K : PySem.W.Frag} {x qual : Str} {st : Stmt} {kws : List (Str × V)} {f D : Addr} {fd : FuncData} {ps : List Str} (F : FunSD prog K x qual st [] kws f fd D) (n : Nat) (ks : List Str)
    (h : ∀ (cc : Addr) (kV doc pm : Value) (an : Option Addr) (cdv ct : Value) (us ws : List Value), us.length = n → ws.length = ks.length → bindArgs (PySem.W.fnX x qual (defArgs st) (defBody st) (defScope st) [("__class__", cc)] .none kV doc pm an cdv ct) ⟨us, ks.zip ws⟩ = pure (ps.zip (us ++ ws))) :
    KBn K fd ps n ks (fun us ws => us ++ ws) (fun vs zs => vs ++ zs) := by
  obtain ⟨oc, od, dV, kV, doc, pm, an, cda, ct, osl, cc, ol, vs, file, tf, ccl, ccd, csl, rfl, h2, h3, h4, h5, h6, h7, h8, hD, hK⟩ := F.ex
  rcases hD with ⟨_, rfl⟩ | ⟨e, _⟩
  · exact ⟨fun s us ws X l1 l2 => .of_eq (h cc kV doc pm an (.ref cda) ct us ws l1 l2), fun r1 r2 => r1.append r2⟩
  · exact absurd rfl e
theorem bindK_Tb {P : Program} {K : PySem.W.Frag} {f D : Addr} {fd : FuncData} (F : FunSD P K "__init__" "TableScale.__init__" s_TableScale___init__ [] [] f fd D) : KBn K fd ["self", "names", "joins", "products", "never", "still"] 4 ["never", "still"] (fun us ws => us ++ ws) (fun vs zs => vs ++ zs) :=
  F.kbindsN 4 ["never", "still"] fun cc kV doc pm an cdv ct us ws h1 h2 => match us, ws, h1, h2 with
    | [_, _, _, _], [_, _], _, _ => rfl
end L2.DS
/-! What the looks say: defs with a closure over their class, own errors. -/
namespace L2.DS
open PySem PySem.Spec PyProof.Rows
section
variable {P : Program} {K : Fg} {f D C : Addr} {x qual file z nm : Str} {st : Stmt}
theorem ckFile_ok {vs : Array Value} (h : ckFile file vs = true) : ∃ fi tf, vs[2]? = some (.str fi tf) ∧ (file == fi) = true := by
  unfold ckFile at h
  split at h
  · rename_i fi tf e
    exact ⟨fi, tf, e, h⟩
  · cases h
theorem ckFlds_ok {o : Option Obj} (h : ckFlds file o = true) : ∃ c1 oc1 vs sl1, o = some ⟨c1, oc1, .fields vs, sl1⟩ ∧ ∃ fi tf, vs[2]? = some (.str fi tf) ∧ (file == fi) = true := by
  unfold ckFlds at h
  split at h
  · rename_i c1 oc1 vs sl1
    exact ⟨c1, oc1, vs, sl1, rfl, ckFile_ok h⟩
  · cases h
theorem ckCode_ok {v : Value} (h : ckCode file K qual v = true) : ∃ cda, v = .ref cda ∧ PySem.W.codeIn K (.ref cda) qual = true ∧ ckFlds file (K.lookup cda) = true := by
  unfold ckCode at h
  split at h
  · rename_i cda
    exact ⟨cda, rfl, and2 h⟩
  · cases h
theorem ckCell_ok {o : Option Obj} (h : ckCell D o = true) : ∃ c2 oc2 sl2, o = some ⟨c2, oc2, .cell (some (.ref D)), sl2⟩ := by
  unfold ckCell at h
  split at h
  · rename_i c2 oc2 D' sl2
    rw [of_decide_eq_true h]
    exact ⟨c2, oc2, sl2, rfl⟩
  · cases h
theorem ckClo_ok {l : List (Str × Addr)} (h : ckClo K D l = true) : ∃ cc, l = [(("__class__" : Str), cc)] ∧ ckCell D (K.lookup cc) = true := by
  unfold ckClo at h
  split at h
  · rename_i y cc
    obtain ⟨a, b⟩ := and2 h
    rw [of_decide_eq_true a]
    exact ⟨cc, rfl, b⟩
  · cases h
/-- all that stands behind a def that says super() -/
theorem sup_of (e : fnU K f = some (x, qual, defArgs st, .stmts (defBody st), defScope st, mainGlobals, builtinsNs)) (c : ckSup file K f D qual = true) :
    ∃ (oc : Value) (od : Option Addr) (kV doc pm : Value) (an : Option Addr) (cda : Addr) (ct : Value) (osl : Array (Option Value)) (cc : Addr) (c1 : Value) (oc1 : Option Addr) (vs : Array Value) (sl1 : Array (Option Value)) (fi : Str) (tf : Tok) (c2 : Value) (oc2 : Option Addr) (sl2 : Array (Option Value)),
    K.lookup f = some ⟨oc, od, .func (PySem.W.fnX x qual (defArgs st) (defBody st) (defScope st) [("__class__", cc)] .none kV doc pm an (.ref cda) ct), osl⟩ ∧ PySem.W.codeIn K (.ref cda) qual = true ∧ K.lookup cda = some ⟨c1, oc1, .fields vs, sl1⟩ ∧ vs[2]? = some (.str fi tf) ∧ (file == fi) = true ∧
    K.lookup cc = some ⟨c2, oc2, .cell (some (.ref D)), sl2⟩ ∧ PySem.W.keepIn K (.ref f) = true ∧ PySem.W.fnIn K f = true ∧ PySem.W.typeIn K (.ref f) = some (.type "function") ∧ (fdA K f).kwdefaults = kV := by
  obtain ⟨oc, od, osl, cl, dV, kV, doc, pm, an, cdv, ct, l⟩ := fnU_ok e
  obtain ⟨k, c⟩ := and2 c
  obtain ⟨k1, c⟩ := and2 c
  obtain ⟨k2, c⟩ := and2 c
  have kw : (fdA K f).kwdefaults = kV := by
    unfold fdA
    rw [l]
  rw [l] at c
  obtain ⟨a1, c⟩ := and2 c
  obtain ⟨a2, a3⟩ := and2 c
  obtain rfl := isNon_ok a1
  obtain ⟨cc, rfl, b1⟩ := ckClo_ok a2
  obtain ⟨cda, rfl, b2, b3⟩ := ckCode_ok a3
  obtain ⟨c1, oc1, vs, sl1, d1, fi, tf, d2, d3⟩ := ckFlds_ok b3
  obtain ⟨c2, oc2, sl2, e1⟩ := ckCell_ok b1
  exact ⟨oc, od, kV, doc, pm, an, cda, ct, osl, cc, c1, oc1, vs, sl1, fi, tf, c2, oc2, sl2, l, b2, d1, d2, d3, e1, k, k1, of_decide_eq_true k2, kw⟩
/-- a plain def, piece by piece -/
theorem fnl_of (e : fnU K f = some (x, qual, defArgs st, .stmts (defBody st), defScope st, mainGlobals, builtinsNs)) (c : ckFn K f qual = true) : ∃ oc od kV doc pm an cdv ct osl, K.lookup f = some ⟨oc, od, .func (PySem.W.fnOf x qual (defArgs st) (defBody st) (defScope st) .none kV doc pm an cdv ct), osl⟩ ∧ PySem.W.codeIn K cdv qual = true ∧ PySem.W.keepIn K (.ref f) = true := by
  obtain ⟨fd, F⟩ := fun_of e c
  obtain ⟨oc, od, kV, doc, pm, an, cdv, ct, osl, rfl, l, c2⟩ := F.ex
  exact ⟨oc, od, kV, doc, pm, an, cdv, ct, osl, l, c2, F.kp⟩
theorem fnlI_of {i : Int} (e : fnU K f = some (x, qual, defArgs st, .stmts (defBody st), defScope st, mainGlobals, builtinsNs)) (c : ckFnI K f qual i = true) : ∃ T oc od kV doc pm an cdv ct osl cT dT tT n slT, K.lookup f = some ⟨oc, od, .func (PySem.W.fnOf x qual (defArgs st) (defBody st) (defScope st) (.ref T) kV doc pm an cdv ct), osl⟩ ∧ PySem.W.codeIn K cdv qual = true ∧ PySem.W.keepIn K (.ref f) = true ∧
    K.lookup T = some ⟨cT, dT, .seq [Value.int i tT].toArray n, slT⟩ := by
  obtain ⟨fd, F⟩ := funI_of e c
  obtain ⟨oc, od, dV, kV, doc, pm, an, cdv, ct, osl, rfl, l, c2, hD, _⟩ := F.ex
  rcases hD with ⟨a1, a2⟩ | ⟨_, T, o, its, n, rfl, lT, hd, r⟩
  · first | exact absurd a2 (by simp) | exact absurd a1 (by simp)
  · obtain ⟨cT, dT, dt, slT⟩ := o
    dsimp only at hd
    subst hd
    match its, r with
    | [u], r =>
      obtain ⟨t, rfl⟩ : ∃ t, u = Value.int i t := by
        cases r with
        | cons a _ => exact a
      exact ⟨T, oc, od, kV, doc, pm, an, cdv, ct, osl, cT, dT, t, n, slT, l, c2, F.kp, lT⟩
theorem ckCls_ok2 (h : ckCls K D = true) : ∃ a b cd d, K.lookup D = some ⟨a, b, .cls cd, d⟩ := by
  unfold ckCls at h
  split at h
  · rename_i a b cd d e
    exact ⟨a, b, cd, d, e⟩
  · cases h
theorem nsStr_of (h : ckStr K x z = true) : ∃ t, PySem.W.nsIn K mainGlobals x = some (some (.str z t)) := by
  unfold ckStr at h
  split at h
  · rename_i j t e
    obtain rfl := of_decide_eq_true h
    exact ⟨t, e⟩
  · cases h
end
end L2.DS
namespace L2.DS
open PySem PySem.Spec PyProof.Rows
theorem all_mk {l : PySem.W.OpenLaw} {w : World} {K : PySem.W.Frag} {h : Heap} {mg : Str → Option Value} {fa : Addr} {CS : Addr} {CT : Addr} {f_Scale___init__ T_Scale___init__ : Addr} {od_Scale___init__ an_Scale___init__ : Option Addr} {sl_Scale___init__ : Array (Option Value)} {oc_Scale___init__ kV_Scale___init__ dc_Scale___init__ pm_Scale___init__ cd_Scale___init__ ct_Scale___init__ : Value} {cT : Value} {dT : Option Addr} {slT : Array (Option Value)} {tT : Tok} {nT : Nat} {tS : Tok} {f_is_table_name : Addr} {od_is_table_name an_is_table_name : Option Addr} {sl_is_table_name : Array (Option Value)} {oc_is_table_name kV_is_table_name dc_is_table_name pm_is_table_name cd_is_table_name ct_is_table_name : Value} {f_table_places : Addr} {od_table_places an_table_places : Option Addr} {sl_table_places : Array (Option Value)} {oc_table_places kV_table_places dc_table_places pm_table_places cd_table_places ct_table_places : Value} {f_TableScale_make_then : Addr} {od_TableScale_make_then an_TableScale_make_then : Option Addr} {sl_TableScale_make_then : Array (Option Value)} {oc_TableScale_make_then kV_TableScale_make_then dc_TableScale_make_then pm_TableScale_make_then cd_TableScale_make_then ct_TableScale_make_then : Value} {f_TableScale_make_join : Addr} {od_TableScale_make_join an_TableScale_make_join : Option Addr} {sl_TableScale_make_join : Array (Option Value)} {oc_TableScale_make_join kV_TableScale_make_join dc_TableScale_make_join pm_TableScale_make_join cd_TableScale_make_join ct_TableScale_make_join : Value} {f_TableScale___init__ cda_TableScale___init__ cc_TableScale___init__ : Addr} {od_TableScale___init__ an_TableScale___init__ : Option Addr} {sl_TableScale___init__ : Array (Option Value)} {oc_TableScale___init__ kV_TableScale___init__ dc_TableScale___init__ pm_TableScale___init__ ct_TableScale___init__ : Value} {q1_TableScale___init__ q2_TableScale___init__ q3_TableScale___init__ : Value} {e1_TableScale___init__ e2_TableScale___init__ e3_TableScale___init__ : Option Addr} {g1_TableScale___init__ g2_TableScale___init__ g3_TableScale___init__ : Array (Option Value)} {vs_TableScale___init__ : Array Value} {fi_TableScale___init__ : Str} {tf_TableScale___init__ : Tok} {cl_TableScale___init__ : ClassData} {f__law_source : Addr} {od__law_source an__law_source : Option Addr} {sl__law_source : Array (Option Value)} {oc__law_source kV__law_source dc__law_source pm__law_source cd__law_source ct__law_source : Value} {f__law_pick : Addr} {od__law_pick an__law_pick : Option Addr} {sl__law_pick : Array (Option Value)} {oc__law_pick kV__law_pick dc__law_pick pm__law_pick cd__law_pick ct__law_pick : Value} {f__law_table_names : Addr} {od__law_table_names an__law_table_names : Option Addr} {sl__law_table_names : Array (Option Value)} {oc__law_table_names kV__law_table_names dc__law_table_names pm__law_table_names cd__law_table_names ct__law_table_names : Value} {f__law_right_name : Addr} {od__law_right_name an__law_right_name : Option Addr} {sl__law_right_name : Array (Option Value)} {oc__law_right_name kV__law_right_name dc__law_right_name pm__law_right_name cd__law_right_name ct__law_right_name : Value} {f__law_right : Addr} {od__law_right an__law_right : Option Addr} {sl__law_right : Array (Option Value)} {oc__law_right kV__law_right dc__law_right pm__law_right cd__law_right ct__law_right : Value} {f__law_odd : Addr} {od__law_odd an__law_odd : Option Addr} {sl__law_odd : Array (Option Value)} {oc__law_odd kV__law_odd dc__law_odd pm__law_odd cd__law_odd ct__law_odd : Value} {f__law_change : Addr} {od__law_change an__law_change : Option Addr} {sl__law_change : Array (Option Value)} {oc__law_change kV__law_change dc__law_change pm__law_change cd__law_change ct__law_change : Value} {f_law : Addr} {od_law an_law : Option Addr} {sl_law : Array (Option Value)} {oc_law kV_law dc_law pm_law cd_law ct_law : Value} {A_BadScale : Addr} {CDe : Addr} {CMx : Addr} (X : K.In h) (G : h.Ns mainGlobals mg) (hfa : mg "law" = some (.ref fa))
    (z_int : PySem.W.nsIn K mainGlobals "int" = some none)
    (z_abs : PySem.W.nsIn K mainGlobals "abs" = some none)
    (z_range : PySem.W.nsIn K mainGlobals "range" = some none)
    (z_len : PySem.W.nsIn K mainGlobals "len" = some none)
    (z_isinstance : PySem.W.nsIn K mainGlobals "isinstance" = some none)
    (z_bool : PySem.W.nsIn K mainGlobals "bool" = some none)
    (z_str : PySem.W.nsIn K mainGlobals "str" = some none)
    (z_list : PySem.W.nsIn K mainGlobals "list" = some none)
    (z_tuple : PySem.W.nsIn K mainGlobals "tuple" = some none)
    (z_dict : PySem.W.nsIn K mainGlobals "dict" = some none)
    (z_enumerate : PySem.W.nsIn K mainGlobals "enumerate" = some none)
    (z_zip : PySem.W.nsIn K mainGlobals "zip" = some none)
    (z_reversed : PySem.W.nsIn K mainGlobals "reversed" = some none)
    (z_ValueError : PySem.W.nsIn K mainGlobals "ValueError" = some none)
    (z_LookupError : PySem.W.nsIn K mainGlobals "LookupError" = some none)
    (z_KeyError : PySem.W.nsIn K mainGlobals "KeyError" = some none)
    (z_Exception : PySem.W.nsIn K mainGlobals "Exception" = some none)
    (z_super : PySem.W.nsIn K mainGlobals "super" = some none)
    (z_sum : PySem.W.nsIn K mainGlobals "sum" = some none)
    (z_any : PySem.W.nsIn K mainGlobals "any" = some none)
    (z_all : PySem.W.nsIn K mainGlobals "all" = some none)
    (z_sorted : PySem.W.nsIn K mainGlobals "sorted" = some none)
    (z_max : PySem.W.nsIn K mainGlobals "max" = some none)
    (z_min : PySem.W.nsIn K mainGlobals "min" = some none)
    (z_NotImplementedError : PySem.W.nsIn K mainGlobals "NotImplementedError" = some none)
    (z_set : PySem.W.nsIn K mainGlobals "set" = some none)
    (z_repr : PySem.W.nsIn K mainGlobals "repr" = some none)
    (opq : PySem.W.nsIn K cStatics "thirdparty.any" = some none)
    (top0 : (l.prog.main.scope.names.lookup ("super" : Str)).isSome = false)
    (a_CS : PySem.W.nsIn K mainGlobals "Scale" = some (some (.ref CS)))
    (a_CT : PySem.W.nsIn K mainGlobals "TableScale" = some (some (.ref CT)))
    (pg_CT : PySem.W.plainGet K CT Str.empty = true)
    (hd_CT : PySem.W.hasDictIn K CT = true)
    (po_CT : PySem.W.plainOver K CT = true)
    (sa_CT : PySem.W.findIn K (.ref CT) "__setattr__" = some (some (.builtin "object.__setattr__")))
    (na_CT_written_joins : PySem.W.findIn K (.ref CT) "written_joins" = some none)
    (na_CT_written_products : PySem.W.findIn K (.ref CT) "written_products" = some none)
    (na_CT_label : PySem.W.findIn K (.ref CT) "label" = some none)
    (na_CT_size : PySem.W.findIn K (.ref CT) "size" = some none)
    (na_CT_never_at : PySem.W.findIn K (.ref CT) "never_at" = some none)
    (na_CT_still_at : PySem.W.findIn K (.ref CT) "still_at" = some none)
    (na_CT_depth : PySem.W.findIn K (.ref CT) "depth" = some none)
    (na_CT_worth_names : PySem.W.findIn K (.ref CT) "worth_names" = some none)
    (na_CT_worth_places : PySem.W.findIn K (.ref CT) "worth_places" = some none)
    (na_CT_product_table : PySem.W.findIn K (.ref CT) "product_table" = some none)
    (na_CT_join_table : PySem.W.findIn K (.ref CT) "join_table" = some none)
    (a_f_Scale___init__ : PySem.W.findIn K (.ref CS) "__init__" = some (some (.ref f_Scale___init__)))
    (l_Scale___init__ : K.lookup f_Scale___init__ = some ⟨oc_Scale___init__, od_Scale___init__, .func (PySem.W.fnOf "__init__" "Scale.__init__" (defArgs s_Scale___init__) (defBody s_Scale___init__) (defScope s_Scale___init__) (.ref T_Scale___init__) kV_Scale___init__ dc_Scale___init__ pm_Scale___init__ an_Scale___init__ cd_Scale___init__ ct_Scale___init__), sl_Scale___init__⟩)
    (c_Scale___init__ : PySem.W.codeIn K cd_Scale___init__ "Scale.__init__" = true)
    (k_Scale___init__ : PySem.W.keepIn K (.ref f_Scale___init__) = true)
    (lT : K.lookup T_Scale___init__ = some ⟨cT, dT, .seq [Value.int 1 tT].toArray nT, slT⟩)
    (fiS : PySem.W.fnIn K f_Scale___init__ = true)
    (tyS : PySem.W.typeIn K (.ref f_Scale___init__) = some (.type "function"))
    (gS : PySem.W.nsIn K mainGlobals "SIGNS" = some (some (.str signsL tS)))
    (a_f_is_table_name : PySem.W.nsIn K mainGlobals "is_table_name" = some (some (.ref f_is_table_name)))
    (l_is_table_name : K.lookup f_is_table_name = some ⟨oc_is_table_name, od_is_table_name, .func (PySem.W.fnOf "is_table_name" "is_table_name" (defArgs s_is_table_name) (defBody s_is_table_name) (defScope s_is_table_name) .none kV_is_table_name dc_is_table_name pm_is_table_name an_is_table_name cd_is_table_name ct_is_table_name), sl_is_table_name⟩)
    (c_is_table_name : PySem.W.codeIn K cd_is_table_name "is_table_name" = true)
    (k_is_table_name : PySem.W.keepIn K (.ref f_is_table_name) = true)
    (a_f_table_places : PySem.W.nsIn K mainGlobals "table_places" = some (some (.ref f_table_places)))
    (l_table_places : K.lookup f_table_places = some ⟨oc_table_places, od_table_places, .func (PySem.W.fnOf "table_places" "table_places" (defArgs s_table_places) (defBody s_table_places) (defScope s_table_places) .none kV_table_places dc_table_places pm_table_places an_table_places cd_table_places ct_table_places), sl_table_places⟩)
    (c_table_places : PySem.W.codeIn K cd_table_places "table_places" = true)
    (k_table_places : PySem.W.keepIn K (.ref f_table_places) = true)
    (a_CT_f_TableScale_make_then : PySem.W.findIn K (.ref CT) "make_then" = some (some (.ref f_TableScale_make_then)))
    (i_TableScale_make_then : PySem.W.isFn K (.ref f_TableScale_make_then) = true)
    (l_TableScale_make_then : K.lookup f_TableScale_make_then = some ⟨oc_TableScale_make_then, od_TableScale_make_then, .func (PySem.W.fnOf "make_then" "TableScale.make_then" (defArgs s_TableScale_make_then) (defBody s_TableScale_make_then) (defScope s_TableScale_make_then) .none kV_TableScale_make_then dc_TableScale_make_then pm_TableScale_make_then an_TableScale_make_then cd_TableScale_make_then ct_TableScale_make_then), sl_TableScale_make_then⟩)
    (c_TableScale_make_then : PySem.W.codeIn K cd_TableScale_make_then "TableScale.make_then" = true)
    (k_TableScale_make_then : PySem.W.keepIn K (.ref f_TableScale_make_then) = true)
    (a_CT_f_TableScale_make_join : PySem.W.findIn K (.ref CT) "make_join" = some (some (.ref f_TableScale_make_join)))
    (i_TableScale_make_join : PySem.W.isFn K (.ref f_TableScale_make_join) = true)
    (l_TableScale_make_join : K.lookup f_TableScale_make_join = some ⟨oc_TableScale_make_join, od_TableScale_make_join, .func (PySem.W.fnOf "make_join" "TableScale.make_join" (defArgs s_TableScale_make_join) (defBody s_TableScale_make_join) (defScope s_TableScale_make_join) .none kV_TableScale_make_join dc_TableScale_make_join pm_TableScale_make_join an_TableScale_make_join cd_TableScale_make_join ct_TableScale_make_join), sl_TableScale_make_join⟩)
    (c_TableScale_make_join : PySem.W.codeIn K cd_TableScale_make_join "TableScale.make_join" = true)
    (k_TableScale_make_join : PySem.W.keepIn K (.ref f_TableScale_make_join) = true)
    (a_f_TableScale___init__ : PySem.W.findIn K (.ref CT) "__init__" = some (some (.ref f_TableScale___init__)))
    (ty_TableScale___init__ : PySem.W.typeIn K (.ref f_TableScale___init__) = some (.type "function"))
    (l_TableScale___init__ : K.lookup f_TableScale___init__ = some ⟨oc_TableScale___init__, od_TableScale___init__, .func (PySem.W.fnX "__init__" "TableScale.__init__" (defArgs s_TableScale___init__) (defBody s_TableScale___init__) (defScope s_TableScale___init__) [("__class__", cc_TableScale___init__)] .none kV_TableScale___init__ dc_TableScale___init__ pm_TableScale___init__ an_TableScale___init__ (.ref cda_TableScale___init__) ct_TableScale___init__), sl_TableScale___init__⟩)
    (c_TableScale___init__ : PySem.W.codeIn K (.ref cda_TableScale___init__) "TableScale.__init__" = true)
    (lc_TableScale___init__ : K.lookup cda_TableScale___init__ = some ⟨q1_TableScale___init__, e1_TableScale___init__, .fields vs_TableScale___init__, g1_TableScale___init__⟩)
    (hv_TableScale___init__ : vs_TableScale___init__[2]? = some (.str fi_TableScale___init__ tf_TableScale___init__))
    (hf_TableScale___init__ : ((l.prog.main.file : Str) == fi_TableScale___init__) = true)
    (lx_TableScale___init__ : K.lookup cc_TableScale___init__ = some ⟨q2_TableScale___init__, e2_TableScale___init__, .cell (some (.ref CT)), g2_TableScale___init__⟩)
    (lD_TableScale___init__ : K.lookup CT = some ⟨q3_TableScale___init__, e3_TableScale___init__, .cls cl_TableScale___init__, g3_TableScale___init__⟩)
    (k_TableScale___init__ : PySem.W.keepIn K (.ref f_TableScale___init__) = true)
    (fi2_TableScale___init__ : PySem.W.fnIn K f_TableScale___init__ = true)
    (mCT : PySem.W.mroIn K CT (.ref CT) = some true)
    (sCT : PySem.W.ks_superIn K CT CT "__init__" = some (some (.ref f_Scale___init__)))
    (mk_CT : PySem.W.makesIn K CT = true)
    (fnCT : PySem.W.isFn K (.ref f_TableScale___init__) = true)
    (kp_CT : PySem.W.keepIn K (.ref CT) = true)
    (a_f__law_source : PySem.W.nsIn K mainGlobals "_law_source" = some (some (.ref f__law_source)))
    (l__law_source : K.lookup f__law_source = some ⟨oc__law_source, od__law_source, .func (PySem.W.fnOf "_law_source" "_law_source" (defArgs s__law_source) (defBody s__law_source) (defScope s__law_source) .none kV__law_source dc__law_source pm__law_source an__law_source cd__law_source ct__law_source), sl__law_source⟩)
    (c__law_source : PySem.W.codeIn K cd__law_source "_law_source" = true)
    (k__law_source : PySem.W.keepIn K (.ref f__law_source) = true)
    (a_f__law_pick : PySem.W.nsIn K mainGlobals "_law_pick" = some (some (.ref f__law_pick)))
    (l__law_pick : K.lookup f__law_pick = some ⟨oc__law_pick, od__law_pick, .func (PySem.W.fnOf "_law_pick" "_law_pick" (defArgs s__law_pick) (defBody s__law_pick) (defScope s__law_pick) .none kV__law_pick dc__law_pick pm__law_pick an__law_pick cd__law_pick ct__law_pick), sl__law_pick⟩)
    (c__law_pick : PySem.W.codeIn K cd__law_pick "_law_pick" = true)
    (k__law_pick : PySem.W.keepIn K (.ref f__law_pick) = true)
    (a_f__law_table_names : PySem.W.nsIn K mainGlobals "_law_table_names" = some (some (.ref f__law_table_names)))
    (l__law_table_names : K.lookup f__law_table_names = some ⟨oc__law_table_names, od__law_table_names, .func (PySem.W.fnOf "_law_table_names" "_law_table_names" (defArgs s__law_table_names) (defBody s__law_table_names) (defScope s__law_table_names) .none kV__law_table_names dc__law_table_names pm__law_table_names an__law_table_names cd__law_table_names ct__law_table_names), sl__law_table_names⟩)
    (c__law_table_names : PySem.W.codeIn K cd__law_table_names "_law_table_names" = true)
    (k__law_table_names : PySem.W.keepIn K (.ref f__law_table_names) = true)
    (a_f__law_right_name : PySem.W.nsIn K mainGlobals "_law_right_name" = some (some (.ref f__law_right_name)))
    (l__law_right_name : K.lookup f__law_right_name = some ⟨oc__law_right_name, od__law_right_name, .func (PySem.W.fnOf "_law_right_name" "_law_right_name" (defArgs s__law_right_name) (defBody s__law_right_name) (defScope s__law_right_name) .none kV__law_right_name dc__law_right_name pm__law_right_name an__law_right_name cd__law_right_name ct__law_right_name), sl__law_right_name⟩)
    (c__law_right_name : PySem.W.codeIn K cd__law_right_name "_law_right_name" = true)
    (k__law_right_name : PySem.W.keepIn K (.ref f__law_right_name) = true)
    (a_f__law_right : PySem.W.nsIn K mainGlobals "_law_right" = some (some (.ref f__law_right)))
    (l__law_right : K.lookup f__law_right = some ⟨oc__law_right, od__law_right, .func (PySem.W.fnOf "_law_right" "_law_right" (defArgs s__law_right) (defBody s__law_right) (defScope s__law_right) .none kV__law_right dc__law_right pm__law_right an__law_right cd__law_right ct__law_right), sl__law_right⟩)
    (c__law_right : PySem.W.codeIn K cd__law_right "_law_right" = true)
    (k__law_right : PySem.W.keepIn K (.ref f__law_right) = true)
    (a_f__law_odd : PySem.W.nsIn K mainGlobals "_law_odd" = some (some (.ref f__law_odd)))
    (l__law_odd : K.lookup f__law_odd = some ⟨oc__law_odd, od__law_odd, .func (PySem.W.fnOf "_law_odd" "_law_odd" (defArgs s__law_odd) (defBody s__law_odd) (defScope s__law_odd) .none kV__law_odd dc__law_odd pm__law_odd an__law_odd cd__law_odd ct__law_odd), sl__law_odd⟩)
    (c__law_odd : PySem.W.codeIn K cd__law_odd "_law_odd" = true)
    (k__law_odd : PySem.W.keepIn K (.ref f__law_odd) = true)
    (a_f__law_change : PySem.W.nsIn K mainGlobals "_law_change" = some (some (.ref f__law_change)))
    (l__law_change : K.lookup f__law_change = some ⟨oc__law_change, od__law_change, .func (PySem.W.fnOf "_law_change" "_law_change" (defArgs s__law_change) (defBody s__law_change) (defScope s__law_change) .none kV__law_change dc__law_change pm__law_change an__law_change cd__law_change ct__law_change), sl__law_change⟩)
    (c__law_change : PySem.W.codeIn K cd__law_change "_law_change" = true)
    (k__law_change : PySem.W.keepIn K (.ref f__law_change) = true)
    (a_f_law : PySem.W.nsIn K mainGlobals "law" = some (some (.ref f_law)))
    (l_law : K.lookup f_law = some ⟨oc_law, od_law, .func (PySem.W.fnOf "law" "law" (defArgs s_law) (defBody s_law) (defScope s_law) .none kV_law dc_law pm_law an_law cd_law ct_law), sl_law⟩)
    (c_law : PySem.W.codeIn K cd_law "law" = true)
    (k_law : PySem.W.keepIn K (.ref f_law) = true)
    (xsp_ : PySem.W.specialIn K (.builtin "object.__class__") "__get__" = some (some (.builtin "getset_descriptor.__get__")))
    (xtk_ : PySem.W.takesIn K (.builtin "object.__class__") = some true)
    (a_A_BadScale : PySem.W.nsIn K mainGlobals "BadScale" = some (some (.ref A_BadScale)))
    (xh_BadScale : PySem.W.hasDictIn K A_BadScale = true)
    (xe_BadScale : PySem.W.subIn K (.ref A_BadScale) (.type "BaseException") = some true)
    (xk_BadScale : PySem.W.keepIn K (.ref A_BadScale) = true)
    (xg_BadScale : PySem.W.findIn K (.ref A_BadScale) "__getattribute__" = some (some (.builtin "BaseException.__getattribute__")))
    (xgg_BadScale : PySem.W.findIn K (.ref A_BadScale) "__getattr__" = some none)
    (xcl_BadScale : PySem.W.findIn K (.ref A_BadScale) "__class__" = some (some (.builtin "object.__class__")))
    (xmo_BadScale : PySem.W.mroIn K A_BadScale (.type "object") = some true)
    (xt_BadScale : PySem.W.typeIn K (.ref A_BadScale) = some (.type "type"))
    (xte_BadScale : PySem.W.exmOne K (.ref A_BadScale) (.ref A_BadScale) = some true)
    (q_BadScale : PySem.W.excIn K A_BadScale (eTail "ValueError") "ValueError.__new__" = true)
    (a_CDe : PySem.W.nsIn K mainGlobals "DeedscaleError" = some (some (.ref CDe)))
    (kDe : PySem.W.kitOne K (.ref A_BadScale) (.ref CDe) = some true)
    (a_CMx : PySem.W.nsIn K mainGlobals "MixedScales" = some (some (.ref CMx)))
    (kMx : PySem.W.kitOne K (.ref A_BadScale) (.ref CMx) = some false)
    (kVe : PySem.W.kitOne K (.ref A_BadScale) (.type "ValueError") = some true)
    : ∃ fd : FuncData, (∀ (s : Shared) (v : Value), BindsTo s fd ⟨[v], []⟩ [("_law_script", v)]) ∧ ∀ base : Heap, K.In base → base.Ns mainGlobals mg → FnOk l.prog w K mg base CX0 12 fa fd ["_law_script"] (sp_law K) := by
  have e := hfa.symm.trans (PySem.W.mg_of X G a_f_law)
  cases e
  refine ⟨PySem.W.fnOf "law" "law" (defArgs s_law) (defBody s_law) (defScope s_law) .none kV_law dc_law pm_law an_law cd_law ct_law, fun s v => .of_eq rfl, fun base _ _ => ?_⟩
  have Z : Bi mg := ⟨PySem.W.mg_none_of X G z_int, PySem.W.mg_none_of X G z_abs, PySem.W.mg_none_of X G z_range, PySem.W.mg_none_of X G z_len, PySem.W.mg_none_of X G z_isinstance, PySem.W.mg_none_of X G z_bool, PySem.W.mg_none_of X G z_str, PySem.W.mg_none_of X G z_list, PySem.W.mg_none_of X G z_tuple, PySem.W.mg_none_of X G z_dict, PySem.W.mg_none_of X G z_enumerate, PySem.W.mg_none_of X G z_zip, PySem.W.mg_none_of X G z_reversed, PySem.W.mg_none_of X G z_ValueError, PySem.W.mg_none_of X G z_LookupError, PySem.W.mg_none_of X G z_KeyError, PySem.W.mg_none_of X G z_Exception, PySem.W.mg_none_of X G z_super, PySem.W.mg_none_of X G z_sum, PySem.W.mg_none_of X G z_any, PySem.W.mg_none_of X G z_all, PySem.W.mg_none_of X G z_sorted, PySem.W.mg_none_of X G z_max, PySem.W.mg_none_of X G z_min, PySem.W.mg_none_of X G z_NotImplementedError, PySem.W.mg_none_of X G z_set, PySem.W.mg_none_of X G z_repr⟩
  have hC_CT : Cls K CT := ⟨pg_CT, hd_CT, po_CT, sa_CT⟩
  have hN_CT : ∀ f ∈ (["written_joins", "written_products", "label", "size", "never_at", "still_at", "depth", "worth_names", "worth_places", "product_table", "join_table"] : List Str), NoAttr K CT f := by
    intro f hf
    simp only [List.mem_cons, List.not_mem_nil, or_false] at hf
    rcases hf with rfl | rfl | rfl | rfl | rfl | rfl | rfl | rfl | rfl | rfl | rfl
    · exact na_CT_written_joins
    · exact na_CT_written_products
    · exact na_CT_label
    · exact na_CT_size
    · exact na_CT_never_at
    · exact na_CT_still_at
    · exact na_CT_depth
    · exact na_CT_worth_names
    · exact na_CT_worth_places
    · exact na_CT_product_table
    · exact na_CT_join_table
  have n_CT : ∀ f ∈ scF, NoAttr K CT f := fun f hf => hN_CT f (List.mem_cons_of_mem _ (List.mem_cons_of_mem _ hf))
  have o_CT : ClsOk K CT := ⟨hC_CT, n_CT⟩
  have F_Scale___init__ := mk_funD (v := .int 1) l_Scale___init__ c_Scale___init__ k_Scale___init__ lT ⟨_, rfl⟩
  have F_is_table_name := fun_mk (st := s_is_table_name) l_is_table_name c_is_table_name k_is_table_name
  have F_table_places := fun_mk (st := s_table_places) l_table_places c_table_places k_table_places
  have b_is_table_name := F_is_table_name.binds (ps := ["name"]) fun _ _ _ _ _ _ us hl => match us, hl with | [_], _ => rfl
  have c__is_table_name : Callee l.prog w K mg base "is_table_name" CX0 1 ["name"] [] (spP PIsN) := ⟨f_is_table_name, _, [], PySem.W.mg_of X G a_f_is_table_name, k_is_table_name, ok_is_table_name Z (PySem.W.mg_of X G gS) F_is_table_name, b_is_table_name, .nil⟩
  have b_table_places := F_table_places.binds (ps := ["places", "table"]) fun _ _ _ _ _ _ us hl => match us, hl with | [_, _], _ => rfl
  have c__table_places : Callee l.prog w K mg base "table_places" CX0 1 ["places", "table"] [] (spP PTp) := ⟨f_table_places, _, [], PySem.W.mg_of X G a_f_table_places, k_table_places, ok_table_places Z F_table_places, b_table_places, .nil⟩
  have F_TableScale_make_then := fun_mk (st := s_TableScale_make_then) l_TableScale_make_then c_TableScale_make_then k_TableScale_make_then
  have b_TableScale_make_then := F_TableScale_make_then.binds (ps := ["self", "first", "second"]) fun _ _ _ _ _ _ us hl => match us, hl with | [_, _, _], _ => rfl
  have c_CT_make_then : Method l.prog w K mg base CT "make_then" CX0 5 ["self", "first", "second"] [] (spP (PTbM CT "written_products")) := ⟨f_TableScale_make_then, _, [], hC_CT, ⟨a_CT_f_TableScale_make_then, i_TableScale_make_then, k_TableScale_make_then⟩, ok_tb_then hC_CT (hN_CT _ (by simp)) F_TableScale_make_then, b_TableScale_make_then, .nil⟩
  have F_TableScale_make_join := fun_mk (st := s_TableScale_make_join) l_TableScale_make_join c_TableScale_make_join k_TableScale_make_join
  have b_TableScale_make_join := F_TableScale_make_join.binds (ps := ["self", "first", "second"]) fun _ _ _ _ _ _ us hl => match us, hl with | [_, _, _], _ => rfl
  have c_CT_make_join : Method l.prog w K mg base CT "make_join" CX0 5 ["self", "first", "second"] [] (spP (PTbM CT "written_joins")) := ⟨f_TableScale_make_join, _, [], hC_CT, ⟨a_CT_f_TableScale_make_join, i_TableScale_make_join, k_TableScale_make_join⟩, ok_tb_join hC_CT (hN_CT _ (by simp)) F_TableScale_make_join, b_TableScale_make_join, .nil⟩
  have s_CT : SupC l.prog w K mg base f_Scale___init__ CX0 6 ["self", "label", "names", "never_at", "still_at", "depth"] [.int 1] (spI (PScI K CT (PTbM CT "written_products") (PTbM CT "written_joins"))) := by
    obtain ⟨ds, r, b⟩ := bind_Scale F_Scale___init__
    exact ⟨_, ds, ok_Scale_init Z hC_CT n_CT c_CT_make_then c_CT_make_join F_Scale___init__, b, r, fiS, tyS⟩
  have F_TableScale___init__ := mk_funS (P := l.prog) (kws := []) l_TableScale___init__ c_TableScale___init__ lc_TableScale___init__ hv_TableScale___init__ hf_TableScale___init__ lx_TableScale___init__ lD_TableScale___init__ k_TableScale___init__ fi2_TableScale___init__ ty_TableScale___init__ kwd_none
  have ok_CT := ok_TableScale_init Z hC_CT hN_CT opq top0 mCT sCT s_CT c__is_table_name c__table_places F_TableScale___init__ (w := w) (base := base)
  have M_CT : Mk K CT f_TableScale___init__ := ⟨mk_CT, a_f_TableScale___init__, fnCT, kp_CT⟩
  have mkK_CT : MakerK l.prog w K mg base "TableScale" CT (L2.CX l.prog w) 10 ["self", "names", "joins", "products", "never", "still"] 3 ["never", "still"] (fun vs zs => vs ++ zs) (spI (PTbI CT)) := ⟨_, _, _, PySem.W.mg_of X G a_CT, M_CT, ok_CT, bindK_Tb F_TableScale___init__⟩
  have F__law_source := fun_mk (st := s__law_source) l__law_source c__law_source k__law_source
  have F__law_pick := fun_mk (st := s__law_pick) l__law_pick c__law_pick k__law_pick
  have b__law_source := F__law_source.binds (ps := ["_law_script"]) fun _ _ _ _ _ _ us hl => match us, hl with | [_], _ => rfl
  have c___law_source : Callee l.prog w K mg base "_law_source" CX0 1 ["_law_script"] [] (sp_source K) := ⟨f__law_source, _, [], PySem.W.mg_of X G a_f__law_source, k__law_source, ok_source Z F__law_source, b__law_source, .nil⟩
  have b__law_pick := F__law_pick.binds (ps := ["_law_source_here", "_law_many"]) fun _ _ _ _ _ _ us hl => match us, hl with | [_, _], _ => rfl
  have c___law_pick : Callee l.prog w K mg base "_law_pick" CX0 1 ["_law_source_here", "_law_many"] [] sp_pick := ⟨f__law_pick, _, [], PySem.W.mg_of X G a_f__law_pick, k__law_pick, ok_pick Z F__law_pick, b__law_pick, .nil⟩
  have F__law_table_names := fun_mk (st := s__law_table_names) l__law_table_names c__law_table_names k__law_table_names
  have F__law_right_name := fun_mk (st := s__law_right_name) l__law_right_name c__law_right_name k__law_right_name
  have F__law_right := fun_mk (st := s__law_right) l__law_right c__law_right k__law_right
  have F__law_odd := fun_mk (st := s__law_odd) l__law_odd c__law_odd k__law_odd
  have F__law_change := fun_mk (st := s__law_change) l__law_change c__law_change k__law_change
  have F_law := fun_mk (st := s_law) l_law c_law k_law
  have X_BadScale : ExcC K A_BadScale := ⟨xg_BadScale, xgg_BadScale, xe_BadScale, xh_BadScale, xcl_BadScale, xsp_, xtk_, xmo_BadScale⟩
  have e_BadScale : Ex0C K A_BadScale := ⟨q_BadScale, xk_BadScale, xe_BadScale, xt_BadScale⟩
  have ok_tp2 := fnOk_either (fnOk_cx (CX := L2.CX l.prog w) (ok_table_places (w := w) (base := base) Z F_table_places)) (ok_table_placesX Z e_BadScale (PySem.W.mg_of X G a_A_BadScale) F_table_places)
  have c_tp2 : Callee l.prog w K mg base "table_places" (L2.CX l.prog w) 1 ["places", "table"] [] (spE (spP PTp) (sp_tpX A_BadScale)) := ⟨_, _, [], PySem.W.mg_of X G a_f_table_places, k_table_places, ok_tp2, b_table_places, .nil⟩
  have ok2_CT := fnOk_either ok_CT (ok_TableX Z e_BadScale (PySem.W.mg_of X G a_A_BadScale) opq top0 hC_CT hN_CT c__is_table_name c_tp2 F_TableScale___init__)
  have mkK2_CT : MakerK l.prog w K mg base "TableScale" CT (L2.CX l.prog w) 10 ["self", "names", "joins", "products", "never", "still"] 3 ["never", "still"] (fun vs zs => vs ++ zs) (spE (spI (PTbI CT)) (spXC A_BadScale CT PTbX)) := ⟨_, _, _, PySem.W.mg_of X G a_CT, M_CT, ok2_CT, bindK_Tb F_TableScale___init__⟩
  have b__law_table_names := F__law_table_names.binds (ps := ["_law_source_here", "_law_many"]) fun _ _ _ _ _ _ us hl => match us, hl with | [_, _], _ => rfl
  have c___law_table_names : Callee l.prog w K mg base "_law_table_names" CX0 3 ["_law_source_here", "_law_many"] [] (spS PTn5) := ⟨f__law_table_names, _, [], PySem.W.mg_of X G a_f__law_table_names, k__law_table_names, ok_table_names5 Z c___law_pick F__law_table_names, b__law_table_names, .nil⟩
  have b__law_right_name := F__law_right_name.binds (ps := ["_law_name"]) fun _ _ _ _ _ _ us hl => match us, hl with | [_], _ => rfl
  have c___law_right_name : Callee l.prog w K mg base "_law_right_name" CX0 1 ["_law_name"] [] (spP PIsN) := ⟨f__law_right_name, _, [], PySem.W.mg_of X G a_f__law_right_name, k__law_right_name, ok_lrname5 Z F__law_right_name, b__law_right_name, .nil⟩
  have b__law_right := F__law_right.binds (ps := ["_law_names", "_law_tables", "_law_edges"]) fun _ _ _ _ _ _ us hl => match us, hl with | [_, _, _], _ => rfl
  have c___law_right : Callee l.prog w K mg base "_law_right" CX0 2 ["_law_names", "_law_tables", "_law_edges"] [] (spP PRt5) := ⟨f__law_right, _, [], PySem.W.mg_of X G a_f__law_right, k__law_right, ok_lright5 Z c___law_right_name F__law_right, b__law_right, .nil⟩
  have b__law_odd := F__law_odd.binds (ps := ["_law_state"]) fun _ _ _ _ _ _ us hl => match us, hl with | [_], _ => rfl
  have c___law_odd : Callee l.prog w K mg base "_law_odd" CX0 2 ["_law_state"] [] (spS POdd5) := ⟨f__law_odd, _, [], PySem.W.mg_of X G a_f__law_odd, k__law_odd, ok_lodd5 Z c___law_pick F__law_odd, b__law_odd, .nil⟩
  have b__law_change := F__law_change.binds (ps := ["_law_state", "_law_names", "_law_tables", "_law_edges"]) fun _ _ _ _ _ _ us hl => match us, hl with | [_, _, _, _], _ => rfl
  have c___law_change : Callee l.prog w K mg base "_law_change" CX0 3 ["_law_state", "_law_names", "_law_tables", "_law_edges"] [] sp_chg5 := ⟨f__law_change, _, [], PySem.W.mg_of X G a_f__law_change, k__law_change, ok_lchange5 Z c___law_pick c___law_odd F__law_change, b__law_change, .nil⟩
  exact ok_law05 Z (PySem.W.mg_of X G a_A_BadScale) (PySem.W.mg_of X G a_CDe) (PySem.W.mg_of X G a_CMx) xte_BadScale X_BadScale kDe kVe kMx o_CT mkK2_CT c___law_source c___law_pick c___law_table_names c___law_change c___law_right F_law
theorem facts_mk {w : World} {K : Fg} {h : Heap} {mg : Str → Option Value} {fa : Addr} (X : K.In h) (G : h.Ns mainGlobals mg) (hfa : mg "law" = some (.ref fa)) (c : SaysB fsH dfsH tabsH w K) :
    ∃ fd : FuncData, (∀ (s : Shared) (v : Value), BindsTo s fd ⟨[v], []⟩ [("_law_script", v)]) ∧ ∀ base : Heap, K.In base → base.Ns mainGlobals mg → FnOk (PySem.Challenge.rw_deedscale_k05_bad_tables).prog w K mg base CX0 12 fa fd ["_law_script"] (sp_law K) := by
  have h0 : ckH0 K = true := c.fact 0
  obtain ⟨q0, h0⟩ := and2 h0
  obtain ⟨q1, h0⟩ := and2 h0
  obtain ⟨q2, h0⟩ := and2 h0
  obtain ⟨q3, h0⟩ := and2 h0
  obtain ⟨q4, h0⟩ := and2 h0
  obtain ⟨q5, h0⟩ := and2 h0
  obtain ⟨q6, h0⟩ := and2 h0
  obtain ⟨q7, h0⟩ := and2 h0
  obtain ⟨q8, h0⟩ := and2 h0
  obtain ⟨q9, h0⟩ := and2 h0
  obtain ⟨q10, h0⟩ := and2 h0
  have q11 := h0
  have h1 : ckH1 K = true := c.fact 1
  obtain ⟨q12, h1⟩ := and2 h1
  obtain ⟨q13, h1⟩ := and2 h1
  obtain ⟨q14, h1⟩ := and2 h1
  obtain ⟨q15, h1⟩ := and2 h1
  obtain ⟨q16, h1⟩ := and2 h1
  obtain ⟨q17, h1⟩ := and2 h1
  obtain ⟨q18, h1⟩ := and2 h1
  obtain ⟨q19, h1⟩ := and2 h1
  obtain ⟨q20, h1⟩ := and2 h1
  obtain ⟨q21, h1⟩ := and2 h1
  obtain ⟨q22, h1⟩ := and2 h1
  have q23 := h1
  have h2 : ckH2 K = true := c.fact 2
  obtain ⟨q24, h2⟩ := and2 h2
  obtain ⟨q25, h2⟩ := and2 h2
  obtain ⟨q26, h2⟩ := and2 h2
  obtain ⟨q27, h2⟩ := and2 h2
  obtain ⟨q28, h2⟩ := and2 h2
  obtain ⟨q29, h2⟩ := and2 h2
  obtain ⟨q30, h2⟩ := and2 h2
  obtain ⟨q31, h2⟩ := and2 h2
  obtain ⟨q32, h2⟩ := and2 h2
  obtain ⟨q33, h2⟩ := and2 h2
  obtain ⟨q34, h2⟩ := and2 h2
  have q35 := h2
  have h3 : ckH3 K = true := c.fact 3
  obtain ⟨q36, h3⟩ := and2 h3
  obtain ⟨q37, h3⟩ := and2 h3
  obtain ⟨q38, h3⟩ := and2 h3
  obtain ⟨q39, h3⟩ := and2 h3
  obtain ⟨q40, h3⟩ := and2 h3
  obtain ⟨q41, h3⟩ := and2 h3
  obtain ⟨q42, h3⟩ := and2 h3
  obtain ⟨q43, h3⟩ := and2 h3
  obtain ⟨q44, h3⟩ := and2 h3
  obtain ⟨q45, h3⟩ := and2 h3
  obtain ⟨q46, h3⟩ := and2 h3
  have q47 := h3
  have h4 : ckH4 K = true := c.fact 4
  obtain ⟨q48, h4⟩ := and2 h4
  obtain ⟨q49, h4⟩ := and2 h4
  obtain ⟨q50, h4⟩ := and2 h4
  obtain ⟨q51, h4⟩ := and2 h4
  obtain ⟨q52, h4⟩ := and2 h4
  obtain ⟨q53, h4⟩ := and2 h4
  obtain ⟨q54, h4⟩ := and2 h4
  obtain ⟨q55, h4⟩ := and2 h4
  obtain ⟨q56, h4⟩ := and2 h4
  obtain ⟨q57, h4⟩ := and2 h4
  obtain ⟨q58, h4⟩ := and2 h4
  have q59 := h4
  have h5 : ckH5 K = true := c.fact 5
  obtain ⟨q60, h5⟩ := and2 h5
  obtain ⟨q61, h5⟩ := and2 h5
  obtain ⟨q62, h5⟩ := and2 h5
  obtain ⟨q63, h5⟩ := and2 h5
  obtain ⟨q64, h5⟩ := and2 h5
  obtain ⟨q65, h5⟩ := and2 h5
  obtain ⟨q66, h5⟩ := and2 h5
  obtain ⟨q67, h5⟩ := and2 h5
  obtain ⟨q68, h5⟩ := and2 h5
  obtain ⟨q69, h5⟩ := and2 h5
  obtain ⟨q70, h5⟩ := and2 h5
  have q71 := h5
  have h6 : ckH6 K = true := c.fact 6
  obtain ⟨q72, h6⟩ := and2 h6
  obtain ⟨q73, h6⟩ := and2 h6
  obtain ⟨q74, h6⟩ := and2 h6
  obtain ⟨q75, h6⟩ := and2 h6
  obtain ⟨q76, h6⟩ := and2 h6
  obtain ⟨q77, h6⟩ := and2 h6
  obtain ⟨q78, h6⟩ := and2 h6
  obtain ⟨q79, h6⟩ := and2 h6
  obtain ⟨q80, h6⟩ := and2 h6
  obtain ⟨q81, h6⟩ := and2 h6
  obtain ⟨q82, h6⟩ := and2 h6
  have q83 := h6
  have h7 : ckH7 K = true := c.fact 7
  obtain ⟨q84, h7⟩ := and2 h7
  obtain ⟨q85, h7⟩ := and2 h7
  obtain ⟨q86, h7⟩ := and2 h7
  obtain ⟨q87, h7⟩ := and2 h7
  obtain ⟨q88, h7⟩ := and2 h7
  obtain ⟨q89, h7⟩ := and2 h7
  obtain ⟨q90, h7⟩ := and2 h7
  obtain ⟨q91, h7⟩ := and2 h7
  obtain ⟨q92, h7⟩ := and2 h7
  obtain ⟨q93, h7⟩ := and2 h7
  obtain ⟨q94, h7⟩ := and2 h7
  have q95 := h7
  have h8 : ckH8 K = true := c.fact 8
  obtain ⟨q96, h8⟩ := and2 h8
  obtain ⟨q97, h8⟩ := and2 h8
  obtain ⟨q98, h8⟩ := and2 h8
  obtain ⟨q99, h8⟩ := and2 h8
  obtain ⟨q100, h8⟩ := and2 h8
  have q101 := h8
  obtain ⟨T_Scale___init__, oc_Scale___init__, od_Scale___init__, kV_Scale___init__, dc_Scale___init__, pm_Scale___init__, an_Scale___init__, cd_Scale___init__, ct_Scale___init__, sl_Scale___init__, cT, dT, tT, nT, slT, l_Scale___init__, c_Scale___init__, k_Scale___init__, lT⟩ := fnlI_of (st := s_Scale___init__) (c.fn 0) q0
  obtain ⟨oc_is_table_name, od_is_table_name, kV_is_table_name, dc_is_table_name, pm_is_table_name, an_is_table_name, cd_is_table_name, ct_is_table_name, sl_is_table_name, l_is_table_name, c_is_table_name, k_is_table_name⟩ := fnl_of (st := s_is_table_name) (c.fn 1) q1
  obtain ⟨oc_table_places, od_table_places, kV_table_places, dc_table_places, pm_table_places, an_table_places, cd_table_places, ct_table_places, sl_table_places, l_table_places, c_table_places, k_table_places⟩ := fnl_of (st := s_table_places) (c.fn 2) q2
  obtain ⟨oc_TableScale_make_then, od_TableScale_make_then, kV_TableScale_make_then, dc_TableScale_make_then, pm_TableScale_make_then, an_TableScale_make_then, cd_TableScale_make_then, ct_TableScale_make_then, sl_TableScale_make_then, l_TableScale_make_then, c_TableScale_make_then, k_TableScale_make_then⟩ := fnl_of (st := s_TableScale_make_then) (c.fn 3) q3
  obtain ⟨oc_TableScale_make_join, od_TableScale_make_join, kV_TableScale_make_join, dc_TableScale_make_join, pm_TableScale_make_join, an_TableScale_make_join, cd_TableScale_make_join, ct_TableScale_make_join, sl_TableScale_make_join, l_TableScale_make_join, c_TableScale_make_join, k_TableScale_make_join⟩ := fnl_of (st := s_TableScale_make_join) (c.fn 4) q4
  obtain ⟨oc_TableScale___init__, od_TableScale___init__, kV_TableScale___init__, dc_TableScale___init__, pm_TableScale___init__, an_TableScale___init__, cda_TableScale___init__, ct_TableScale___init__, sl_TableScale___init__, cc_TableScale___init__, q1_TableScale___init__, e1_TableScale___init__, vs_TableScale___init__, g1_TableScale___init__, fi_TableScale___init__, tf_TableScale___init__, q2_TableScale___init__, e2_TableScale___init__, g2_TableScale___init__, l_TableScale___init__, c_TableScale___init__, lc_TableScale___init__, hv_TableScale___init__, hf_TableScale___init__, lx_TableScale___init__, k_TableScale___init__, fi2_TableScale___init__, ty_TableScale___init__, kw0_TableScale___init__⟩ := sup_of (st := s_TableScale___init__) (c.fn 5) q5
  obtain ⟨oc__law_source, od__law_source, kV__law_source, dc__law_source, pm__law_source, an__law_source, cd__law_source, ct__law_source, sl__law_source, l__law_source, c__law_source, k__law_source⟩ := fnl_of (st := s__law_source) (c.fn 6) q6
  obtain ⟨oc__law_pick, od__law_pick, kV__law_pick, dc__law_pick, pm__law_pick, an__law_pick, cd__law_pick, ct__law_pick, sl__law_pick, l__law_pick, c__law_pick, k__law_pick⟩ := fnl_of (st := s__law_pick) (c.fn 7) q7
  obtain ⟨oc__law_table_names, od__law_table_names, kV__law_table_names, dc__law_table_names, pm__law_table_names, an__law_table_names, cd__law_table_names, ct__law_table_names, sl__law_table_names, l__law_table_names, c__law_table_names, k__law_table_names⟩ := fnl_of (st := s__law_table_names) (c.fn 8) q8
  obtain ⟨oc__law_right_name, od__law_right_name, kV__law_right_name, dc__law_right_name, pm__law_right_name, an__law_right_name, cd__law_right_name, ct__law_right_name, sl__law_right_name, l__law_right_name, c__law_right_name, k__law_right_name⟩ := fnl_of (st := s__law_right_name) (c.fn 9) q9
  obtain ⟨oc__law_right, od__law_right, kV__law_right, dc__law_right, pm__law_right, an__law_right, cd__law_right, ct__law_right, sl__law_right, l__law_right, c__law_right, k__law_right⟩ := fnl_of (st := s__law_right) (c.fn 10) q10
  obtain ⟨oc__law_odd, od__law_odd, kV__law_odd, dc__law_odd, pm__law_odd, an__law_odd, cd__law_odd, ct__law_odd, sl__law_odd, l__law_odd, c__law_odd, k__law_odd⟩ := fnl_of (st := s__law_odd) (c.fn 11) q11
  obtain ⟨oc__law_change, od__law_change, kV__law_change, dc__law_change, pm__law_change, an__law_change, cd__law_change, ct__law_change, sl__law_change, l__law_change, c__law_change, k__law_change⟩ := fnl_of (st := s__law_change) (c.fn 12) q12
  obtain ⟨oc_law, od_law, kV_law, dc_law, pm_law, an_law, cd_law, ct_law, sl_law, l_law, c_law, k_law⟩ := fnl_of (st := s_law) (c.fn 13) q13
  have z_int := of_decide_eq_true q14
  have z_abs := of_decide_eq_true q15
  have z_range := of_decide_eq_true q16
  have z_len := of_decide_eq_true q17
  have z_isinstance := of_decide_eq_true q18
  have z_bool := of_decide_eq_true q19
  have z_str := of_decide_eq_true q20
  have z_list := of_decide_eq_true q21
  have z_tuple := of_decide_eq_true q22
  have z_dict := of_decide_eq_true q23
  have z_enumerate := of_decide_eq_true q24
  have z_zip := of_decide_eq_true q25
  have z_reversed := of_decide_eq_true q26
  have z_ValueError := of_decide_eq_true q27
  have z_LookupError := of_decide_eq_true q28
  have z_KeyError := of_decide_eq_true q29
  have z_Exception := of_decide_eq_true q30
  have z_super := of_decide_eq_true q31
  have z_sum := of_decide_eq_true q32
  have z_any := of_decide_eq_true q33
  have z_all := of_decide_eq_true q34
  have z_sorted := of_decide_eq_true q35
  have z_max := of_decide_eq_true q36
  have z_min := of_decide_eq_true q37
  have z_NotImplementedError := of_decide_eq_true q38
  have z_set := of_decide_eq_true q39
  have z_repr := of_decide_eq_true q40
  have opq := of_decide_eq_true q41
  have top0 : (PySem.Challenge.pw_deedscale_k05_bad_tables.main.scope.names.lookup ("super" : Str)).isSome = false := rfl
  have a_CS := of_decide_eq_true q42
  have a_CT := of_decide_eq_true q43
  have pg_CT := q44
  have hd_CT := q45
  have po_CT := q46
  have sa_CT := of_decide_eq_true q47
  have na_CT_written_joins := of_decide_eq_true q48
  have na_CT_written_products := of_decide_eq_true q49
  have na_CT_label := of_decide_eq_true q50
  have na_CT_size := of_decide_eq_true q51
  have na_CT_never_at := of_decide_eq_true q52
  have na_CT_still_at := of_decide_eq_true q53
  have na_CT_depth := of_decide_eq_true q54
  have na_CT_worth_names := of_decide_eq_true q55
  have na_CT_worth_places := of_decide_eq_true q56
  have na_CT_product_table := of_decide_eq_true q57
  have na_CT_join_table := of_decide_eq_true q58
  have a_f_Scale___init__ := of_decide_eq_true q59
  have fiS := q60
  have tyS := of_decide_eq_true q61
  obtain ⟨tS, gS⟩ := nsStr_of q62
  have a_f_is_table_name := of_decide_eq_true q63
  have a_f_table_places := of_decide_eq_true q64
  have a_CT_f_TableScale_make_then := of_decide_eq_true q65
  have i_TableScale_make_then := q66
  have a_CT_f_TableScale_make_join := of_decide_eq_true q67
  have i_TableScale_make_join := q68
  have a_f_TableScale___init__ := of_decide_eq_true q69
  obtain ⟨q3_TableScale___init__, e3_TableScale___init__, cl_TableScale___init__, g3_TableScale___init__, lD_TableScale___init__⟩ := ckCls_ok2 q70
  have mCT := of_decide_eq_true q71
  have sCT := of_decide_eq_true q72
  have mk_CT := q73
  have fnCT := q74
  have kp_CT := q75
  have a_f__law_source := of_decide_eq_true q76
  have a_f__law_pick := of_decide_eq_true q77
  have a_f__law_table_names := of_decide_eq_true q78
  have a_f__law_right_name := of_decide_eq_true q79
  have a_f__law_right := of_decide_eq_true q80
  have a_f__law_odd := of_decide_eq_true q81
  have a_f__law_change := of_decide_eq_true q82
  have a_f_law := of_decide_eq_true q83
  have xsp_ := of_decide_eq_true q84
  have xtk_ := of_decide_eq_true q85
  have a_A_BadScale := of_decide_eq_true q86
  have xh_BadScale := q87
  have xe_BadScale := of_decide_eq_true q88
  have xk_BadScale := q89
  have xg_BadScale := of_decide_eq_true q90
  have xgg_BadScale := of_decide_eq_true q91
  have xcl_BadScale := of_decide_eq_true q92
  have xmo_BadScale := of_decide_eq_true q93
  have xt_BadScale := of_decide_eq_true q94
  have xte_BadScale := of_decide_eq_true q95
  have q_BadScale := q96
  have a_CDe := of_decide_eq_true q97
  have kDe := of_decide_eq_true q98
  have a_CMx := of_decide_eq_true q99
  have kMx := of_decide_eq_true q100
  have kVe := of_decide_eq_true q101
  exact all_mk (l := PySem.Challenge.rw_deedscale_k05_bad_tables) X G hfa z_int z_abs z_range z_len z_isinstance z_bool z_str z_list z_tuple z_dict z_enumerate z_zip z_reversed z_ValueError z_LookupError z_KeyError z_Exception z_super z_sum z_any z_all z_sorted z_max z_min z_NotImplementedError z_set z_repr opq top0 a_CS a_CT pg_CT hd_CT po_CT sa_CT na_CT_written_joins na_CT_written_products na_CT_label na_CT_size na_CT_never_at na_CT_still_at na_CT_depth na_CT_worth_names na_CT_worth_places na_CT_product_table na_CT_join_table a_f_Scale___init__ l_Scale___init__ c_Scale___init__ k_Scale___init__ lT fiS tyS gS a_f_is_table_name l_is_table_name c_is_table_name k_is_table_name a_f_table_places l_table_places c_table_places k_table_places a_CT_f_TableScale_make_then i_TableScale_make_then l_TableScale_make_then c_TableScale_make_then k_TableScale_make_then a_CT_f_TableScale_make_join i_TableScale_make_join l_TableScale_make_join c_TableScale_make_join k_TableScale_make_join a_f_TableScale___init__ ty_TableScale___init__ l_TableScale___init__ c_TableScale___init__ lc_TableScale___init__ hv_TableScale___init__ hf_TableScale___init__ lx_TableScale___init__ lD_TableScale___init__ k_TableScale___init__ fi2_TableScale___init__ mCT sCT mk_CT fnCT kp_CT a_f__law_source l__law_source c__law_source k__law_source a_f__law_pick l__law_pick c__law_pick k__law_pick a_f__law_table_names l__law_table_names c__law_table_names k__law_table_names a_f__law_right_name l__law_right_name c__law_right_name k__law_right_name a_f__law_right l__law_right c__law_right k__law_right a_f__law_odd l__law_odd c__law_odd k__law_odd a_f__law_change l__law_change c__law_change k__law_change a_f_law l_law c_law k_law xsp_ xtk_ a_A_BadScale xh_BadScale xe_BadScale xk_BadScale xg_BadScale xgg_BadScale xcl_BadScale xmo_BadScale xt_BadScale xte_BadScale q_BadScale a_CDe kDe a_CMx kMx kVe
end L2.DS
open PySem PySem.W PySem.Calls PyProof.Rows
set_option maxRecDepth 100000 in
set_option maxHeartbeats 0 in
theorem PySem.Challenge.cw_deedscale_k05_bad_tables_holds : PySem.Challenge.rw_deedscale_k05_bad_tables.Holds := by
  w_on; o_law
  refine HandSHeadRun.head_any (r := L2.DS.RH) (q := L2.DS.qH) (H := L2.DS.hookB 8000 L2.DS.fsH L2.DS.dfsH L2.DS.tabsH) (ob := L2.DS.obH) (M := 9000) (loose := L2.DS.namesH) (d := HandSHeadRun.topDef L2.DS.RH.prog 19) (kwd := []) L2.DS.obH_eq
    (by kernel_rfl) (fun s => by kernel_rfl) L2.DS.runH (by kernel_rfl) (by kernel_rfl) (by kernel_rfl) (by rfl) (by first | assumption | decide +kernel) (by decide +kernel) ⟨rfl, rfl, rfl, rfl, rfl, by decide +kernel⟩ ?hw ?hc
  case hw => w_witness2
  case hc =>
    refine L2.walk_ofE (l := PySem.Challenge.rw_deedscale_k05_bad_tables) (n := 63) (k := 12) (x := "_law_script") (CX := L2.CX0) rfl (by decide) (by kernel_rfl) ⟨rfl, by decide, by decide⟩ ?F (fun _ _ _ _ z => z)
    intro w mg fa h Y G hmg0
    obtain ⟨K, KX, c⟩ := Y
    have hmg : mg ("law" : PySem.Str) = some (.ref fa) := by
      have e : (HandSHeadRun.topDef L2.DS.RH.prog 19).name = ("law" : PySem.Str) := by kernel_rfl
      rw [← e]
      exact hmg0
    obtain ⟨fd, hb, hF⟩ := L2.DS.facts_mk KX G hmg c
    exact ⟨K, fd, L2.DS.sp_law K, KX, hb, fun H a ns hl _ hS => ⟨a, ns, rfl, hS, hl, fun _ => rfl⟩, hF⟩
#print axioms PySem.Challenge.cw_deedscale_k05_bad_tables_holds
