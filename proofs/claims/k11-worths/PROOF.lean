import PyProof.Rows.All
import Wide.All
import OpenK.AllK
import Wide.FinOn
import KE.KStateDown
import HandS.Words
import KE.KExcInit
import HandS.Defaults
import HandS.Head0
import HandS.Head1
import HandS.Head2
import HandS.HeadHook1
import HandS.HeadHook2
import HandS.HeadHook3
import PySem.Challenge.RW_deedscale_k11_worth_operators
import KE.KExcSuper
import HandS.ForMost
import HandS.ForExc
import HandS.ExcInit
import HandS.ClsMeth
import HandS.More
import HandS.Wide
import HandS.Flow
import HandS.IsInst
import HandS.Dict
import HandS.Star
import HandS.DictComp
import HandS.FStr
import HandS.Walk
import HandS.MakeKwOnly
import HandS.WordsExc
import HandS.Conv
import KE.KIndexOf
import PyProof.SeqIndex
import HandS.ExcIs
import HandS.ExcOwn
import HandS.Text
import HandS.ExcValue
import PyProof.StrOps2
import HandS.Deep
import PyProof.StrBlock2
import PyProof.StrBlockL
import HandS.Iter
import PyProof.Rows.StrMul
import HandS.CallLocal
import HandS.TupAny
import HandS.SlotsOwn
import HandS.Property
import HandS.Codes
import KE.KFmtOwn
import KE.KOpsOwn
import PyProof.InstEq
import HandS.ReplaceLit
import HandS.ReplaceDef
import HandS.ReplaceList
import PyProof.Rows.StrSplitJoin
import HandS.TryOnly
import KE.KCallOwn
import HandS.TupLe
import HandS.RaiseMore
import HandS.HeadEnd
set_option Elab.async false
set_option linter.all false
set_option maxRecDepth 100000
set_option maxHeartbeats 4000000
/-! The head by one run of the kernel, with a look of one's own: facts as Bools of what the top has left, functions and tables by their texts. -/
namespace L2.DS
open PySem PySem.Spec PyProof.Rows
abbrev Fg := PySem.W.Frag
/-- a function as its text has it -/
abbrev FnU : Type := Option (Str × Str × Arguments × FuncBody × Scope × Addr × Addr)
def fnU (K : Fg) (f : Addr) : FnU := match K.lookup f with
  | some ⟨_, _, .func fd, _⟩ => some (fd.name, fd.qualname, fd.params, fd.body, fd.scope, fd.globals, fd.builtins)
  | _ => none
def fdA (K : Fg) (f : Addr) : FuncData := match K.lookup f with
  | some ⟨_, _, .func fd, _⟩ => fd
  | _ => default
structure Df where
  at_ : Fg → Addr
  name : Str
  qual : Str
  st : Stmt
def Df.val (d : Df) : FnU := some (d.name, d.qual, defArgs d.st, .stmts (defBody d.st), defScope d.st, mainGlobals, builtinsNs)
/-- all that is reached of some addresses: each once, told by a mask -/
def reachG (g : Addr → Option Obj) : Nat → List Addr → Nat → Fg
  | 0, _, _ => []
  | n + 1, as, M => match as with
    | [] => []
    | a :: q => match Nat.beq (Nat.mod (Nat.shiftRight M a) 2) 1 with
      | true => reachG g n q M
      | false => match g a with
        | none => reachG g n q M
        | some o => HandSHeadRun.frNat (Nat.lor M (Nat.shiftLeft 1 a)) fun M' => (a, o) :: reachG g n (He.refsD o ++ q) M'
theorem reachG_in {g : Addr → Option Obj} : ∀ {n : Nat} {as : List Addr} {M : Nat} {a : Addr} {o : Obj}, (a, o) ∈ reachG g n as M → g a = some o
  | 0, _, _, _, _, h => by cases h
  | n + 1, [], _, _, _, h => by cases h
  | n + 1, b :: q, M, a, o, h => by
    unfold reachG at h
    dsimp only at h
    split at h
    · exact reachG_in h
    · cases hb : g b with
      | none =>
        rw [hb] at h
        exact reachG_in h
      | some ob =>
        rw [hb] at h
        dsimp only at h
        rw [HandSHeadRun.frNat_eq] at h
        rcases List.mem_cons.mp h with e | e
        · cases e
          exact hb
        · exact reachG_in e
theorem look_mem {K : Fg} {a : Addr} {o : Obj} : K.lookup a = some o → (a, o) ∈ K := fun h => by
  induction K with
  | nil => cases h
  | cons p r ih =>
    obtain ⟨b, u⟩ := p
    rw [List.lookup_cons] at h
    split at h
    · rename_i e
      cases h
      rw [beq_iff_eq.mp e]
      exact List.mem_cons_self
    · exact List.mem_cons_of_mem _ (ih h)
def fragB (n : Nat) (g : Addr → Option Obj) : Fg := reachG g n [mainGlobals, cStatics] 0
theorem fragB_in {n : Nat} {h : Heap} : (fragB n h.get?).In h := fun _ _ e => reachG_in (look_mem e)
/-! ### the look -/
abbrev AlB : Type := (Bool × List FnU) × List (Option (List (Option (Str × Int))))
def obsB (fs : List (Fg → Bool)) (dfs : List Df) (ts : List He.Tab) (K : Fg) : AlB := ((fs.all fun f => f K, dfs.map fun d => fnU K (d.at_ K)), ts.map fun t => He.dicW K (t.1 K))
def valB (dfs : List Df) (ts : List He.Tab) (w : World) : AlB := ((true, dfs.map Df.val), ts.map fun t => some (He.keysIn w.params t.2))
def SaysB (fs : List (Fg → Bool)) (dfs : List Df) (ts : List He.Tab) (w : World) (K : Fg) : Prop := obsB fs dfs ts K = valB dfs ts w
def obsBG (n : Nat) (fs : List (Fg → Bool)) (dfs : List Df) (ts : List He.Tab) (g : Addr → Option Obj) : AlB := obsB fs dfs ts (fragB n g)
def hookB (n : Nat) (fs : List (Fg → Bool)) (dfs : List Df) (ts : List He.Tab) : PySem.W.Hook where
  α := AlB
  obs := fun s => obsBG n fs dfs ts s.heap.get?
  val := fun w => valB dfs ts w
  says := fun w h => ∃ K : Fg, K.In h ∧ SaysB fs dfs ts w K
  of := fun _ _ e => ⟨_, fragB_in, e⟩
  keeps := fun _ _ _ ⟨K, hK, c⟩ k => ⟨K, PySem.W.Frag.In.keeps hK k, c⟩
theorem obsBG_eq {n : Nat} {fs : List (Fg → Bool)} {dfs : List Df} {ts : List He.Tab} {g : Addr → Option Obj} {s : Shared} (h : ∀ a, g a = s.heap.get? a) : obsBG n fs dfs ts g = (hookB n fs dfs ts).obs s := by
  have e : g = s.heap.get? := funext h
  rw [e] <;> rfl
section
variable {fs : List (Fg → Bool)} {dfs : List Df} {ts : List He.Tab} {w : World} {K : Fg}
theorem SaysB.all (c : SaysB fs dfs ts w K) : (fs.all fun f => f K) = true := congrArg (fun z : AlB => z.1.1) c
theorem SaysB.fact (c : SaysB fs dfs ts w K) (i : Nat) {f : Fg → Bool} (h : fs[i]? = some f := by rfl) : f K = true := List.all_eq_true.mp c.all f (List.mem_of_getElem? h)
theorem SaysB.fn (c : SaysB fs dfs ts w K) (i : Nat) {d : Df} (h : dfs[i]? = some d := by rfl) : fnU K (d.at_ K) = d.val := by
  have e : dfs.map (fun d => fnU K (d.at_ K)) = dfs.map Df.val := congrArg (fun z : AlB => z.1.2) c
  have e2 : (dfs.map fun d => fnU K (d.at_ K))[i]? = (dfs.map Df.val)[i]? := by rw [e]
  rw [List.getElem?_map, List.getElem?_map, h] at e2
  exact Option.some.inj e2
end
/-! ### checks -/
def isNon : Value → Bool
  | .none => true
  | _ => false
theorem isNon_ok {v : Value} (h : isNon v = true) : v = .none := by
  cases v <;> first | rfl | cases h
/-- a plain def: no closure, no defaults -/
def ckFn (K : Fg) (f : Addr) (qual : Str) : Bool := PySem.W.keepIn K (.ref f) && (match K.lookup f with
  | some ⟨_, _, .func fd, _⟩ => fd.closure.isEmpty && (isNon fd.defaults && PySem.W.codeIn K fd.code qual)
  | _ => false)
/-- a def with whole numbers as defaults -/
def intV (i : Int) : Value → Bool
  | .int j _ => decide (i = j)
  | _ => false
def ckDflL (i : Int) : List Value → Bool
  | [u] => intV i u
  | _ => false
def ckDflT (i : Int) : Option Obj → Bool
  | some ⟨_, _, .seq its _, _⟩ => ckDflL i its.toList
  | _ => false
def ckDfl (K : Fg) (i : Int) : Value → Bool
  | .ref T => ckDflT i (K.lookup T)
  | _ => false
def ckFnI (K : Fg) (f : Addr) (qual : Str) (i : Int) : Bool := PySem.W.keepIn K (.ref f) && (match K.lookup f with
  | some ⟨_, _, .func fd, _⟩ => fd.closure.isEmpty && (PySem.W.codeIn K fd.code qual && ckDfl K i fd.defaults)
  | _ => false)
/-- a def with a closure over its class -/
def ckFile (file : Str) (vs : Array Value) : Bool := match (vs[2]? : Option Value) with
  | some (.str fi _) => file == fi
  | _ => false
def ckCell (D : Addr) : Option Obj → Bool
  | some ⟨_, _, .cell (some (.ref D')), _⟩ => decide (D' = D)
  | _ => false
def ckClo (K : Fg) (D : Addr) : List (Str × Addr) → Bool
  | [(x, cc)] => decide (x = ("__class__" : Str)) && ckCell D (K.lookup cc)
  | _ => false
def ckFlds (file : Str) : Option Obj → Bool
  | some ⟨_, _, .fields vs, _⟩ => ckFile file vs
  | _ => false
def ckCode (file : Str) (K : Fg) (qual : Str) : Value → Bool
  | .ref cda => PySem.W.codeIn K (.ref cda) qual && ckFlds file (K.lookup cda)
  | _ => false
def ckSup (file : Str) (K : Fg) (f D : Addr) (qual : Str) : Bool := PySem.W.keepIn K (.ref f) && (PySem.W.fnIn K f && (decide (PySem.W.typeIn K (.ref f) = some (.type "function")) && (match K.lookup f with
  | some ⟨_, _, .func fd, _⟩ => isNon fd.defaults && (ckClo K D fd.closure && ckCode file K qual fd.code)
  | _ => false)))
def ckCls (K : Fg) (D : Addr) : Bool := match K.lookup D with
  | some ⟨_, _, .cls _, _⟩ => true
  | _ => false
/-- its keyword-only default, a text; none -/
def ckKw (K : Fg) (f : Addr) (x z : Str) : Bool := match (fdA K f).kwdefaults with
  | .ref D => (match PySem.W.nsIn K D x with
    | some (some (.str y _)) => decide (y = z)
    | _ => false)
  | _ => false
def ckKw0 (K : Fg) (f : Addr) : Bool := isNon (fdA K f).kwdefaults
/-- a module's number, text -/
def ckInt (K : Fg) (x : Str) (i : Int) : Bool := match PySem.W.nsIn K mainGlobals x with
  | some (some (.int j _)) => decide (j = i)
  | _ => false
def ckStr (K : Fg) (x z : Str) : Bool := match PySem.W.nsIn K mainGlobals x with
  | some (some (.str y _)) => decide (y = z)
  | _ => false
/-- the first thing that a record holds: a property's, a classmethod's def -/
def recA (K : Fg) (p : Addr) (x : String) : Addr := match PySem.W.recIn K p x with
  | some (.ref f :: _) => f
  | _ => 0
def ckRec (K : Fg) (p : Addr) (x : String) : Bool := match PySem.W.recIn K p x with
  | some (.ref _ :: _) => true
  | _ => false
def ckGet (o : Option PySem.W.CFound) (a b c d : Value) : Bool := match o with
  | some (.get a' b' c' d') => decide (a' = a) && (decide (b' = b) && (decide (c' = c) && decide (d' = d)))
  | _ => false
theorem ckGet_ok {o : Option PySem.W.CFound} {a b c d : Value} (h : ckGet o a b c d = true) : o = some (.get a b c d) := by
  unfold ckGet at h
  split at h
  · simp only [Bool.and_eq_true, decide_eq_true_eq] at h
    obtain ⟨rfl, rfl, rfl, rfl⟩ := h
    rfl
  · cases h
/-! ### what they say -/
section
variable {K : Fg} {f D : Addr} {x qual file z : Str} {st : Stmt} {i : Int}
theorem fnU_ok (e : fnU K f = some (x, qual, defArgs st, .stmts (defBody st), defScope st, mainGlobals, builtinsNs)) : ∃ oc od osl cl dV kV doc pm an cdv ct, K.lookup f = some ⟨oc, od, .func ⟨x, qual, defArgs st, .stmts (defBody st), defScope st, mainGlobals, cl, dV, kV, doc, pm, an, cdv, ct, builtinsNs⟩, osl⟩ := by
  unfold fnU at e
  split at e
  · rename_i oc od fd osl h
    obtain ⟨n1, n2, n3, n4, n5, n6, n7, n8, n9, n10, n11, n12, n13, n14, n15⟩ := fd
    have eu : (some (n1, n2, n3, n4, n5, n6, n15) : FnU) = some (x, qual, defArgs st, .stmts (defBody st), defScope st, mainGlobals, builtinsNs) := e
    simp only [Prod.mk.injEq, Option.some.injEq] at eu
    obtain ⟨u1, u2, u3, u4, u5, u6, u7⟩ := eu
    subst u1 u2 u3 u4 u5 u6 u7
    exact ⟨oc, od, osl, n7, n8, n9, n10, n11, n12, n13, n14, h⟩
  · cases e
theorem rec_of {p : Addr} {y : String} (h : ckRec K p y = true) : ∃ r, PySem.W.recIn K p y = some (.ref (recA K p y) :: r) := by
  unfold ckRec at h
  split at h
  · rename_i g r e
    refine ⟨r, ?_⟩
    unfold recA
    rw [e]
  · cases h
theorem and2 {a b : Bool} (h : (a && b) = true) : a = true ∧ b = true := Bool.and_eq_true_iff.mp h
theorem fun_of (e : fnU K f = some (x, qual, defArgs st, .stmts (defBody st), defScope st, mainGlobals, builtinsNs)) (c : ckFn K f qual = true) : ∃ fd, Fun K x qual st f fd := by
  obtain ⟨oc, od, osl, cl, dV, kV, doc, pm, an, cdv, ct, l⟩ := fnU_ok e
  obtain ⟨k, c⟩ := and2 c
  rw [l] at c
  obtain ⟨c1, c⟩ := and2 (show (cl.isEmpty && (isNon dV && PySem.W.codeIn K cdv qual)) = true from c)
  obtain ⟨c2, c3⟩ := and2 c
  obtain rfl := List.isEmpty_iff.mp c1
  obtain rfl := isNon_ok c2
  exact ⟨_, ⟨oc, od, kV, doc, pm, an, cdv, ct, osl, rfl, l, c3⟩, k⟩
theorem funI_of (e : fnU K f = some (x, qual, defArgs st, .stmts (defBody st), defScope st, mainGlobals, builtinsNs)) (c : ckFnI K f qual i = true) : ∃ fd, FunD K x qual (defArgs st) (defBody st) (defScope st) [.int i] [] f fd := by
  obtain ⟨oc, od, osl, cl, dV, kV, doc, pm, an, cdv, ct, l⟩ := fnU_ok e
  obtain ⟨k, c⟩ := and2 c
  rw [l] at c
  obtain ⟨c1, c⟩ := and2 c
  obtain ⟨c2, c3⟩ := and2 c
  obtain rfl := List.isEmpty_iff.mp c1
  refine ⟨_, ⟨oc, od, dV, kV, doc, pm, an, cdv, ct, osl, rfl, l, c2, ?_, .inl rfl⟩, k⟩
  cases dV with
  | ref T =>
    have c4 : ckDflT i (K.lookup T) = true := c3
    cases lT : K.lookup T with
    | none =>
      rw [lT] at c4
      cases c4
    | some o =>
      obtain ⟨o1, o2, o3, o4⟩ := o
      rw [lT] at c4
      cases o3 with
      | seq its n =>
        have c5 : ckDflL i its.toList = true := c4
        refine .inr ⟨by simp, T, _, its.toList, n, rfl, lT, by simp, ?_⟩
        match hl : its.toList, c5 with
        | [u], c6 =>
          refine .cons ?_ .nil
          have c7 : intV i u = true := c6
          cases u with
          | int j t => exact ⟨t, by rw [of_decide_eq_true c7]⟩
          | _ => cases c7
      | _ => cases c4
  | _ => cases c3
end
end L2.DS
namespace L2.DS
open PySem PySem.Spec PyProof.Rows
def topH (i : Nat) : Stmt := PySem.Challenge.pw_deedscale_k11_worth_operators.main.body.getD i (.Pass ⟨0, 0, 0, 0⟩)
def dfsH : List Df := ([⟨fun K => He.ma K (He.ga K "UnknownWorth") "__init__", "__init__", "UnknownWorth.__init__", inClass (topH 7) 0⟩, ⟨fun K => He.ma K (He.ga K "Scale") "__init__", "__init__", "Scale.__init__", inClass (topH 15) 0⟩, ⟨fun K => He.ga K "cut_down", "cut_down", "cut_down", topH 32⟩, ⟨fun K => He.ga K "number_name", "number_name", "number_name", topH 33⟩, ⟨fun K => He.ga K "is_table_name", "is_table_name", "is_table_name", topH 16⟩, ⟨fun K => He.ga K "table_places", "table_places", "table_places", topH 17⟩, ⟨fun K => He.ga K "depth_above", "depth_above", "depth_above", topH 21⟩, ⟨fun K => He.ma K (He.ga K "TableScale") "then_at", "then_at", "Scale.then_at", inClass (topH 15) 3⟩, ⟨fun K => He.ma K (He.ga K "TableScale") "join_at", "join_at", "Scale.join_at", inClass (topH 15) 4⟩, ⟨fun K => He.ma K (He.ga K "TableScale") "within_at", "within_at", "Scale.within_at", inClass (topH 15) 5⟩, ⟨fun K => He.ma K (He.ga K "TableScale") "name_at", "name_at", "Scale.name_at", inClass (topH 15) 6⟩, ⟨fun K => He.ma K (He.ga K "TableScale") "at_name", "at_name", "Scale.at_name", inClass (topH 15) 7⟩, ⟨fun K => He.ma K (He.ga K "TableScale") "make_then", "make_then", "TableScale.make_then", inClass (topH 18) 1⟩, ⟨fun K => He.ma K (He.ga K "TableScale") "make_join", "make_join", "TableScale.make_join", inClass (topH 18) 2⟩, ⟨fun K => He.ma K (He.ga K "CountScale") "behind", "behind", "CountScale.behind", inClass (topH 28) 1⟩, ⟨fun K => He.ma K (He.ga K "CountScale") "either", "either", "CountScale.either", inClass (topH 28) 2⟩, ⟨fun K => He.ma K (He.ga K "CountScale") "make_then", "make_then", "WithNever.make_then", inClass (topH 27) 1⟩, ⟨fun K => He.ma K (He.ga K "CountScale") "make_join", "make_join", "WithNever.make_join", inClass (topH 27) 2⟩, ⟨fun K => He.ma K (He.ga K "TurnedScale") "make_then", "make_then", "TurnedScale.make_then", inClass (topH 24) 1⟩, ⟨fun K => He.ma K (He.ga K "TurnedScale") "make_join", "make_join", "TurnedScale.make_join", inClass (topH 24) 2⟩, ⟨fun K => He.ma K (He.ga K "WithNever") "__init__", "__init__", "WithNever.__init__", inClass (topH 27) 0⟩, ⟨fun K => He.ma K (He.ga K "TableScale") "__init__", "__init__", "TableScale.__init__", inClass (topH 18) 0⟩, ⟨fun K => He.ma K (He.ga K "CountScale") "__init__", "__init__", "CountScale.__init__", inClass (topH 28) 0⟩, ⟨fun K => He.ma K (He.ga K "TurnedScale") "__init__", "__init__", "TurnedScale.__init__", inClass (topH 24) 0⟩, ⟨fun K => He.ga K "_law_source", "_law_source", "_law_source", topH 44⟩, ⟨fun K => He.ga K "_law_pick", "_law_pick", "_law_pick", topH 45⟩, ⟨fun K => He.ga K "_law_join", "_law_join", "_law_join", topH 46⟩, ⟨fun K => He.ga K "_law_then", "_law_then", "_law_then", topH 47⟩, ⟨fun K => He.ga K "_law_tables", "_law_tables", "_law_tables", topH 48⟩, ⟨fun K => He.ga K "_law_table_scale", "_law_table_scale", "_law_table_scale", topH 49⟩] : List Df) ++ ([⟨fun K => He.ma K (He.ga K "Worth") "__init__", "__init__", "Worth.__init__", inClass (topH 11) 0⟩, ⟨fun K => He.ma K (He.ga K "Worth") "__eq__", "__eq__", "Worth.__eq__", inClass (topH 11) 5⟩, ⟨fun K => He.ga K "together", "together", "together", topH 9⟩, ⟨fun K => He.ma K (He.ga K "Worth") "__mul__", "__mul__", "Worth.__mul__", inClass (topH 11) 6⟩, ⟨fun K => He.ma K (He.ga K "Worth") "__or__", "__or__", "Worth.__or__", inClass (topH 11) 7⟩, ⟨fun K => He.ma K (He.ga K "Worth") "__le__", "__le__", "Worth.__le__", inClass (topH 11) 8⟩, ⟨fun K => He.ma K (He.ga K "Worth") "__lt__", "__lt__", "Worth.__lt__", inClass (topH 11) 9⟩, ⟨fun K => He.ma K (He.ga K "Worth") "__str__", "__str__", "Worth.__str__", inClass (topH 11) 4⟩, ⟨fun K => recA K (He.ma K (He.ga K "Worth") "still") "classmethod", "still", "Worth.still", inClass (topH 11) 3⟩, ⟨fun K => recA K (He.ma K (He.ga K "Worth") "never") "classmethod", "never", "Worth.never", inClass (topH 11) 2⟩, ⟨fun K => recA K (He.ma K (He.ga K "Worth") "named") "classmethod", "named", "Worth.named", inClass (topH 11) 1⟩, ⟨fun K => He.ga K "nested_words", "nested_words", "nested_words", topH 38⟩, ⟨fun K => He.ga K "square_rows", "square_rows", "square_rows", topH 41⟩, ⟨fun K => He.ga K "table_of_fields", "table_of_fields", "table_of_fields", topH 40⟩, ⟨fun K => He.ga K "scale_of_list", "scale_of_list", "scale_of_list", topH 39⟩, ⟨fun K => He.ga K "read_scale", "read_scale", "read_scale", topH 37⟩, ⟨fun K => He.ga K "_law_spoiled", "_law_spoiled", "_law_spoiled", topH 50⟩, ⟨fun K => He.ga K "_law_deed", "_law_deed", "_law_deed", topH 51⟩, ⟨fun K => He.ga K "_law_is", "_law_is", "_law_is", topH 52⟩, ⟨fun K => He.ga K "_law_truth", "_law_truth", "_law_truth", topH 53⟩, ⟨fun K => He.ga K "_law_pair", "_law_pair", "_law_pair", topH 54⟩, ⟨fun K => He.ga K "_law_unknown", "_law_unknown", "_law_unknown", topH 55⟩, ⟨fun K => He.ga K "law", "law", "law", topH 56⟩] : List Df)
def ckH0 (K : Fg) : Bool := ckSup PySem.Challenge.pw_deedscale_k11_worth_operators.main.file K (He.ma K (He.ga K "UnknownWorth") "__init__") (He.ga K "UnknownWorth") "UnknownWorth.__init__" && (ckKw0 K (He.ma K (He.ga K "UnknownWorth") "__init__") && (ckFnI K (He.ma K (He.ga K "Scale") "__init__") "Scale.__init__" 1 && (ckFn K (He.ga K "cut_down") "cut_down" && (ckFn K (He.ga K "number_name") "number_name" && (ckFn K (He.ga K "is_table_name") "is_table_name" && (ckFn K (He.ga K "table_places") "table_places" && (ckFn K (He.ga K "depth_above") "depth_above" && (ckFn K (He.ma K (He.ga K "TableScale") "then_at") "Scale.then_at" && (ckFn K (He.ma K (He.ga K "TableScale") "join_at") "Scale.join_at" && (ckFn K (He.ma K (He.ga K "TableScale") "within_at") "Scale.within_at" && (ckFn K (He.ma K (He.ga K "TableScale") "name_at") "Scale.name_at")))))))))))
def ckH1 (K : Fg) : Bool := ckFn K (He.ma K (He.ga K "TableScale") "at_name") "Scale.at_name" && (ckFn K (He.ma K (He.ga K "TableScale") "make_then") "TableScale.make_then" && (ckFn K (He.ma K (He.ga K "TableScale") "make_join") "TableScale.make_join" && (ckFn K (He.ma K (He.ga K "CountScale") "behind") "CountScale.behind" && (ckFn K (He.ma K (He.ga K "CountScale") "either") "CountScale.either" && (ckFn K (He.ma K (He.ga K "CountScale") "make_then") "WithNever.make_then" && (ckFn K (He.ma K (He.ga K "CountScale") "make_join") "WithNever.make_join" && (ckFn K (He.ma K (He.ga K "TurnedScale") "make_then") "TurnedScale.make_then" && (ckFn K (He.ma K (He.ga K "TurnedScale") "make_join") "TurnedScale.make_join" && (ckSup PySem.Challenge.pw_deedscale_k11_worth_operators.main.file K (He.ma K (He.ga K "WithNever") "__init__") (He.ga K "WithNever") "WithNever.__init__" && (ckSup PySem.Challenge.pw_deedscale_k11_worth_operators.main.file K (He.ma K (He.ga K "TableScale") "__init__") (He.ga K "TableScale") "TableScale.__init__" && (ckSup PySem.Challenge.pw_deedscale_k11_worth_operators.main.file K (He.ma K (He.ga K "CountScale") "__init__") (He.ga K "CountScale") "CountScale.__init__")))))))))))
def ckH2 (K : Fg) : Bool := ckKw K (He.ma K (He.ga K "CountScale") "__init__") "order" "up" && (ckSup PySem.Challenge.pw_deedscale_k11_worth_operators.main.file K (He.ma K (He.ga K "TurnedScale") "__init__") (He.ga K "TurnedScale") "TurnedScale.__init__" && (ckFn K (He.ga K "_law_source") "_law_source" && (ckFn K (He.ga K "_law_pick") "_law_pick" && (ckFn K (He.ga K "_law_join") "_law_join" && (ckFn K (He.ga K "_law_then") "_law_then" && (ckFn K (He.ga K "_law_tables") "_law_tables" && (ckFn K (He.ga K "_law_table_scale") "_law_table_scale" && (ckFn K (He.ma K (He.ga K "Worth") "__init__") "Worth.__init__" && (ckFn K (He.ma K (He.ga K "Worth") "__eq__") "Worth.__eq__" && (ckFn K (He.ga K "together") "together" && (ckFn K (He.ma K (He.ga K "Worth") "__mul__") "Worth.__mul__")))))))))))
def ckH3 (K : Fg) : Bool := ckFn K (He.ma K (He.ga K "Worth") "__or__") "Worth.__or__" && (ckFn K (He.ma K (He.ga K "Worth") "__le__") "Worth.__le__" && (ckFn K (He.ma K (He.ga K "Worth") "__lt__") "Worth.__lt__" && (ckFn K (He.ma K (He.ga K "Worth") "__str__") "Worth.__str__" && (ckFn K (recA K (He.ma K (He.ga K "Worth") "still") "classmethod") "Worth.still" && (ckFn K (recA K (He.ma K (He.ga K "Worth") "never") "classmethod") "Worth.never" && (ckFn K (recA K (He.ma K (He.ga K "Worth") "named") "classmethod") "Worth.named" && (ckFn K (He.ga K "nested_words") "nested_words" && (ckFn K (He.ga K "square_rows") "square_rows" && (ckFn K (He.ga K "table_of_fields") "table_of_fields" && (ckFn K (He.ga K "scale_of_list") "scale_of_list" && (ckFn K (He.ga K "read_scale") "read_scale")))))))))))
def ckH4 (K : Fg) : Bool := ckFn K (He.ga K "_law_spoiled") "_law_spoiled" && (ckFn K (He.ga K "_law_deed") "_law_deed" && (ckFn K (He.ga K "_law_is") "_law_is" && (ckFn K (He.ga K "_law_truth") "_law_truth" && (ckFn K (He.ga K "_law_pair") "_law_pair" && (ckFn K (He.ga K "_law_unknown") "_law_unknown" && (ckFn K (He.ga K "law") "law" && (decide (PySem.W.nsIn K mainGlobals "int" = some none) && (decide (PySem.W.nsIn K mainGlobals "abs" = some none) && (decide (PySem.W.nsIn K mainGlobals "range" = some none) && (decide (PySem.W.nsIn K mainGlobals "len" = some none) && (decide (PySem.W.nsIn K mainGlobals "isinstance" = some none))))))))))))
def ckH5 (K : Fg) : Bool := decide (PySem.W.nsIn K mainGlobals "bool" = some none) && (decide (PySem.W.nsIn K mainGlobals "str" = some none) && (decide (PySem.W.nsIn K mainGlobals "list" = some none) && (decide (PySem.W.nsIn K mainGlobals "tuple" = some none) && (decide (PySem.W.nsIn K mainGlobals "dict" = some none) && (decide (PySem.W.nsIn K mainGlobals "enumerate" = some none) && (decide (PySem.W.nsIn K mainGlobals "zip" = some none) && (decide (PySem.W.nsIn K mainGlobals "reversed" = some none) && (decide (PySem.W.nsIn K mainGlobals "ValueError" = some none) && (decide (PySem.W.nsIn K mainGlobals "LookupError" = some none) && (decide (PySem.W.nsIn K mainGlobals "KeyError" = some none) && (decide (PySem.W.nsIn K mainGlobals "Exception" = some none))))))))))))
def ckH6 (K : Fg) : Bool := decide (PySem.W.nsIn K mainGlobals "super" = some none) && (decide (PySem.W.nsIn K mainGlobals "sum" = some none) && (decide (PySem.W.nsIn K mainGlobals "any" = some none) && (decide (PySem.W.nsIn K mainGlobals "all" = some none) && (decide (PySem.W.nsIn K mainGlobals "sorted" = some none) && (decide (PySem.W.nsIn K mainGlobals "max" = some none) && (decide (PySem.W.nsIn K mainGlobals "min" = some none) && (decide (PySem.W.nsIn K mainGlobals "NotImplementedError" = some none) && (decide (PySem.W.nsIn K mainGlobals "set" = some none) && (decide (PySem.W.nsIn K mainGlobals "repr" = some none) && (decide (PySem.W.nsIn K cStatics "thirdparty.any" = some none) && (decide (PySem.W.nsIn K mainGlobals "UnknownWorth" = some (some (.ref (He.ga K "UnknownWorth")))))))))))))))
def ckH7 (K : Fg) : Bool := decide (PySem.W.nsIn K mainGlobals "NameMissing" = some (some (.ref (He.ga K "NameMissing")))) && (decide (PySem.W.nsIn K mainGlobals "Scale" = some (some (.ref (He.ga K "Scale")))) && (decide (PySem.W.nsIn K mainGlobals "WithNever" = some (some (.ref (He.ga K "WithNever")))) && (decide (PySem.W.nsIn K mainGlobals "TableScale" = some (some (.ref (He.ga K "TableScale")))) && (decide (PySem.W.nsIn K mainGlobals "CountScale" = some (some (.ref (He.ga K "CountScale")))) && (decide (PySem.W.nsIn K mainGlobals "TurnedScale" = some (some (.ref (He.ga K "TurnedScale")))) && ((PySem.W.plainGet K (He.ga K "TableScale") Str.empty) && ((PySem.W.hasDictIn K (He.ga K "TableScale")) && ((PySem.W.plainOver K (He.ga K "TableScale")) && (decide (PySem.W.findIn K (.ref (He.ga K "TableScale")) "__setattr__" = some (some (.builtin "object.__setattr__"))) && (decide (PySem.W.findIn K (.ref (He.ga K "TableScale")) "written_joins" = some none) && (decide (PySem.W.findIn K (.ref (He.ga K "TableScale")) "written_products" = some none))))))))))))
def ckH8 (K : Fg) : Bool := decide (PySem.W.findIn K (.ref (He.ga K "TableScale")) "label" = some none) && (decide (PySem.W.findIn K (.ref (He.ga K "TableScale")) "size" = some none) && (decide (PySem.W.findIn K (.ref (He.ga K "TableScale")) "never_at" = some none) && (decide (PySem.W.findIn K (.ref (He.ga K "TableScale")) "still_at" = some none) && (decide (PySem.W.findIn K (.ref (He.ga K "TableScale")) "depth" = some none) && (decide (PySem.W.findIn K (.ref (He.ga K "TableScale")) "worth_names" = some none) && (decide (PySem.W.findIn K (.ref (He.ga K "TableScale")) "worth_places" = some none) && (decide (PySem.W.findIn K (.ref (He.ga K "TableScale")) "product_table" = some none) && (decide (PySem.W.findIn K (.ref (He.ga K "TableScale")) "join_table" = some none) && ((PySem.W.plainGet K (He.ga K "CountScale") Str.empty) && ((PySem.W.hasDictIn K (He.ga K "CountScale")) && ((PySem.W.plainOver K (He.ga K "CountScale")))))))))))))
def ckH9 (K : Fg) : Bool := decide (PySem.W.findIn K (.ref (He.ga K "CountScale")) "__setattr__" = some (some (.builtin "object.__setattr__"))) && (decide (PySem.W.findIn K (.ref (He.ga K "CountScale")) "most" = some none) && (decide (PySem.W.findIn K (.ref (He.ga K "CountScale")) "rising" = some none) && (decide (PySem.W.findIn K (.ref (He.ga K "CountScale")) "contents" = some none) && (decide (PySem.W.findIn K (.ref (He.ga K "CountScale")) "label" = some none) && (decide (PySem.W.findIn K (.ref (He.ga K "CountScale")) "size" = some none) && (decide (PySem.W.findIn K (.ref (He.ga K "CountScale")) "never_at" = some none) && (decide (PySem.W.findIn K (.ref (He.ga K "CountScale")) "still_at" = some none) && (decide (PySem.W.findIn K (.ref (He.ga K "CountScale")) "depth" = some none) && (decide (PySem.W.findIn K (.ref (He.ga K "CountScale")) "worth_names" = some none) && (decide (PySem.W.findIn K (.ref (He.ga K "CountScale")) "worth_places" = some none) && (decide (PySem.W.findIn K (.ref (He.ga K "CountScale")) "product_table" = some none))))))))))))
def ckH10 (K : Fg) : Bool := decide (PySem.W.findIn K (.ref (He.ga K "CountScale")) "join_table" = some none) && ((PySem.W.plainGet K (He.ga K "TurnedScale") Str.empty) && ((PySem.W.hasDictIn K (He.ga K "TurnedScale")) && ((PySem.W.plainOver K (He.ga K "TurnedScale")) && (decide (PySem.W.findIn K (.ref (He.ga K "TurnedScale")) "__setattr__" = some (some (.builtin "object.__setattr__"))) && (decide (PySem.W.findIn K (.ref (He.ga K "TurnedScale")) "inner" = some none) && (decide (PySem.W.findIn K (.ref (He.ga K "TurnedScale")) "label" = some none) && (decide (PySem.W.findIn K (.ref (He.ga K "TurnedScale")) "size" = some none) && (decide (PySem.W.findIn K (.ref (He.ga K "TurnedScale")) "never_at" = some none) && (decide (PySem.W.findIn K (.ref (He.ga K "TurnedScale")) "still_at" = some none) && (decide (PySem.W.findIn K (.ref (He.ga K "TurnedScale")) "depth" = some none) && (decide (PySem.W.findIn K (.ref (He.ga K "TurnedScale")) "worth_names" = some none))))))))))))
def ckH11 (K : Fg) : Bool := decide (PySem.W.findIn K (.ref (He.ga K "TurnedScale")) "worth_places" = some none) && (decide (PySem.W.findIn K (.ref (He.ga K "TurnedScale")) "product_table" = some none) && (decide (PySem.W.findIn K (.ref (He.ga K "TurnedScale")) "join_table" = some none) && ((PySem.W.excInitIn K (He.ga K "UnknownWorth") [.type "LookupError", .type "Exception", .type "BaseException", .type "object"] "LookupError.__new__") && ((PySem.W.excOver K (He.ga K "UnknownWorth") [.type "LookupError", .type "Exception", .type "BaseException", .type "object"]) && ((PySem.W.hasDictIn K (He.ga K "UnknownWorth")) && (decide (PySem.W.findIn K (.ref (He.ga K "UnknownWorth")) "__setattr__" = some (some (.builtin "object.__setattr__"))) && (decide (PySem.W.subIn K (.ref (He.ga K "UnknownWorth")) (.type "BaseException") = some true) && (decide (PySem.W.subIn K (.ref (He.ga K "UnknownWorth")) (.type "LookupError") = some true) && (decide (PySem.W.typeIn K (.ref (He.ga K "UnknownWorth")) = some (.type "type")) && ((PySem.W.keepIn K (.ref (He.ga K "UnknownWorth"))) && (decide (PySem.W.findIn K (.ref (He.ga K "UnknownWorth")) "name" = some none))))))))))))
def ckH12 (K : Fg) : Bool := decide (PySem.W.mroIn K (He.ga K "UnknownWorth") (.ref (He.ga K "UnknownWorth")) = some true) && (decide (PySem.W.ks_superIn K (He.ga K "UnknownWorth") (He.ga K "UnknownWorth") "__init__" = some (some (.builtin "LookupError.__init__"))) && (decide (PySem.W.findIn K (.ref (He.ga K "UnknownWorth")) "__getattribute__" = some (some (.builtin "BaseException.__getattribute__"))) && (decide (PySem.W.findIn K (.ref (He.ga K "UnknownWorth")) "__getattr__" = some none) && (decide (PySem.W.findIn K (.ref (He.ga K "UnknownWorth")) "__class__" = some (some (.builtin "object.__class__"))) && (decide (PySem.W.specialIn K (.builtin "object.__class__") "__get__" = some (some (.builtin "getset_descriptor.__get__"))) && (decide (PySem.W.takesIn K (.builtin "object.__class__") = some true) && (decide (PySem.W.mroIn K (He.ga K "UnknownWorth") (.type "object") = some true) && (decide (PySem.W.exmOne K (.ref (He.ga K "UnknownWorth")) (.ref (He.ga K "UnknownWorth")) = some true) && (decide (PySem.W.kitOne K (.ref (He.ga K "UnknownWorth")) (.ref (He.ga K "NameMissing")) = some true) && (decide (PySem.W.kitOne K (.ref (He.ga K "UnknownWorth")) (.type "LookupError") = some true) && (decide (PySem.W.kitOne K (.ref (He.ga K "UnknownWorth")) (.type "ValueError") = some false))))))))))))
def ckH13 (K : Fg) : Bool := decide (PySem.W.findIn K (.ref (He.ga K "UnknownWorth")) "__init__" = some (some (.ref (He.ma K (He.ga K "UnknownWorth") "__init__")))) && (decide (PySem.W.findIn K (.ref (He.ga K "Scale")) "__init__" = some (some (.ref (He.ma K (He.ga K "Scale") "__init__")))) && ((PySem.W.fnIn K (He.ma K (He.ga K "Scale") "__init__")) && (decide (PySem.W.typeIn K (.ref (He.ma K (He.ga K "Scale") "__init__")) = some (.type "function")) && (ckInt K "MOST_WORTHS" 64 && (decide (PySem.W.nsIn K mainGlobals "cut_down" = some (some (.ref (He.ga K "cut_down")))) && (decide (PySem.W.nsIn K mainGlobals "number_name" = some (some (.ref (He.ga K "number_name")))) && (ckStr K "SIGNS" "abcdefghijklmnopqrstuvwxyz0123456789" && (decide (PySem.W.nsIn K mainGlobals "is_table_name" = some (some (.ref (He.ga K "is_table_name")))) && (decide (PySem.W.nsIn K mainGlobals "table_places" = some (some (.ref (He.ga K "table_places")))) && (ckInt K "DEEPEST_combined" 10 && (decide (PySem.W.nsIn K mainGlobals "depth_above" = some (some (.ref (He.ga K "depth_above")))))))))))))))
def ckH14 (K : Fg) : Bool := decide (PySem.W.findIn K (.ref (He.ga K "TableScale")) "then_at" = some (some (.ref (He.ma K (He.ga K "TableScale") "then_at")))) && ((PySem.W.isFn K (.ref (He.ma K (He.ga K "TableScale") "then_at"))) && (decide (PySem.W.findIn K (.ref (He.ga K "CountScale")) "then_at" = some (some (.ref (He.ma K (He.ga K "TableScale") "then_at")))) && (decide (PySem.W.findIn K (.ref (He.ga K "TurnedScale")) "then_at" = some (some (.ref (He.ma K (He.ga K "TableScale") "then_at")))) && (decide (PySem.W.findIn K (.ref (He.ga K "TableScale")) "join_at" = some (some (.ref (He.ma K (He.ga K "TableScale") "join_at")))) && ((PySem.W.isFn K (.ref (He.ma K (He.ga K "TableScale") "join_at"))) && (decide (PySem.W.findIn K (.ref (He.ga K "CountScale")) "join_at" = some (some (.ref (He.ma K (He.ga K "TableScale") "join_at")))) && (decide (PySem.W.findIn K (.ref (He.ga K "TurnedScale")) "join_at" = some (some (.ref (He.ma K (He.ga K "TableScale") "join_at")))) && (decide (PySem.W.findIn K (.ref (He.ga K "TableScale")) "within_at" = some (some (.ref (He.ma K (He.ga K "TableScale") "within_at")))) && ((PySem.W.isFn K (.ref (He.ma K (He.ga K "TableScale") "within_at"))) && (decide (PySem.W.findIn K (.ref (He.ga K "CountScale")) "within_at" = some (some (.ref (He.ma K (He.ga K "TableScale") "within_at")))) && (decide (PySem.W.findIn K (.ref (He.ga K "TurnedScale")) "within_at" = some (some (.ref (He.ma K (He.ga K "TableScale") "within_at")))))))))))))))
def ckH15 (K : Fg) : Bool := decide (PySem.W.findIn K (.ref (He.ga K "TableScale")) "name_at" = some (some (.ref (He.ma K (He.ga K "TableScale") "name_at")))) && ((PySem.W.isFn K (.ref (He.ma K (He.ga K "TableScale") "name_at"))) && (decide (PySem.W.findIn K (.ref (He.ga K "CountScale")) "name_at" = some (some (.ref (He.ma K (He.ga K "TableScale") "name_at")))) && (decide (PySem.W.findIn K (.ref (He.ga K "TurnedScale")) "name_at" = some (some (.ref (He.ma K (He.ga K "TableScale") "name_at")))) && (decide (PySem.W.findIn K (.ref (He.ga K "TableScale")) "at_name" = some (some (.ref (He.ma K (He.ga K "TableScale") "at_name")))) && ((PySem.W.isFn K (.ref (He.ma K (He.ga K "TableScale") "at_name"))) && (decide (PySem.W.findIn K (.ref (He.ga K "CountScale")) "at_name" = some (some (.ref (He.ma K (He.ga K "TableScale") "at_name")))) && (decide (PySem.W.findIn K (.ref (He.ga K "TurnedScale")) "at_name" = some (some (.ref (He.ma K (He.ga K "TableScale") "at_name")))) && (decide (PySem.W.findIn K (.ref (He.ga K "TableScale")) "make_then" = some (some (.ref (He.ma K (He.ga K "TableScale") "make_then")))) && ((PySem.W.isFn K (.ref (He.ma K (He.ga K "TableScale") "make_then"))) && (decide (PySem.W.findIn K (.ref (He.ga K "TableScale")) "make_join" = some (some (.ref (He.ma K (He.ga K "TableScale") "make_join")))) && ((PySem.W.isFn K (.ref (He.ma K (He.ga K "TableScale") "make_join"))))))))))))))
def ckH16 (K : Fg) : Bool := decide (PySem.W.findIn K (.ref (He.ga K "CountScale")) "behind" = some (some (.ref (He.ma K (He.ga K "CountScale") "behind")))) && ((PySem.W.isFn K (.ref (He.ma K (He.ga K "CountScale") "behind"))) && (decide (PySem.W.findIn K (.ref (He.ga K "CountScale")) "either" = some (some (.ref (He.ma K (He.ga K "CountScale") "either")))) && ((PySem.W.isFn K (.ref (He.ma K (He.ga K "CountScale") "either"))) && (decide (PySem.W.findIn K (.ref (He.ga K "CountScale")) "make_then" = some (some (.ref (He.ma K (He.ga K "CountScale") "make_then")))) && ((PySem.W.isFn K (.ref (He.ma K (He.ga K "CountScale") "make_then"))) && (decide (PySem.W.findIn K (.ref (He.ga K "CountScale")) "make_join" = some (some (.ref (He.ma K (He.ga K "CountScale") "make_join")))) && ((PySem.W.isFn K (.ref (He.ma K (He.ga K "CountScale") "make_join"))) && (decide (PySem.W.findIn K (.ref (He.ga K "TurnedScale")) "make_then" = some (some (.ref (He.ma K (He.ga K "TurnedScale") "make_then")))) && ((PySem.W.isFn K (.ref (He.ma K (He.ga K "TurnedScale") "make_then"))) && (decide (PySem.W.findIn K (.ref (He.ga K "TurnedScale")) "make_join" = some (some (.ref (He.ma K (He.ga K "TurnedScale") "make_join")))) && ((PySem.W.isFn K (.ref (He.ma K (He.ga K "TurnedScale") "make_join"))))))))))))))
def ckH17 (K : Fg) : Bool := decide (PySem.W.findIn K (.ref (He.ga K "WithNever")) "__init__" = some (some (.ref (He.ma K (He.ga K "WithNever") "__init__")))) && (ckCls K (He.ga K "WithNever") && (decide (PySem.W.mroIn K (He.ga K "CountScale") (.ref (He.ga K "WithNever")) = some true) && (decide (PySem.W.ks_superIn K (He.ga K "CountScale") (He.ga K "WithNever") "__init__" = some (some (.ref (He.ma K (He.ga K "Scale") "__init__")))) && (decide (PySem.W.findIn K (.ref (He.ga K "TableScale")) "__init__" = some (some (.ref (He.ma K (He.ga K "TableScale") "__init__")))) && (ckCls K (He.ga K "TableScale") && (decide (PySem.W.mroIn K (He.ga K "TableScale") (.ref (He.ga K "TableScale")) = some true) && (decide (PySem.W.ks_superIn K (He.ga K "TableScale") (He.ga K "TableScale") "__init__" = some (some (.ref (He.ma K (He.ga K "Scale") "__init__")))) && ((PySem.W.makesIn K (He.ga K "TableScale")) && ((PySem.W.isFn K (.ref (He.ma K (He.ga K "TableScale") "__init__"))) && ((PySem.W.keepIn K (.ref (He.ga K "TableScale"))) && (decide (PySem.W.findIn K (.ref (He.ga K "CountScale")) "__init__" = some (some (.ref (He.ma K (He.ga K "CountScale") "__init__")))))))))))))))
def ckH18 (K : Fg) : Bool := ckCls K (He.ga K "CountScale") && (decide (PySem.W.mroIn K (He.ga K "CountScale") (.ref (He.ga K "CountScale")) = some true) && (decide (PySem.W.ks_superIn K (He.ga K "CountScale") (He.ga K "CountScale") "__init__" = some (some (.ref (He.ma K (He.ga K "WithNever") "__init__")))) && ((PySem.W.makesIn K (He.ga K "CountScale")) && ((PySem.W.isFn K (.ref (He.ma K (He.ga K "CountScale") "__init__"))) && ((PySem.W.keepIn K (.ref (He.ga K "CountScale"))) && (decide (PySem.W.findIn K (.ref (He.ga K "TurnedScale")) "__init__" = some (some (.ref (He.ma K (He.ga K "TurnedScale") "__init__")))) && (ckCls K (He.ga K "TurnedScale") && (decide (PySem.W.mroIn K (He.ga K "TurnedScale") (.ref (He.ga K "TurnedScale")) = some true) && (decide (PySem.W.ks_superIn K (He.ga K "TurnedScale") (He.ga K "TurnedScale") "__init__" = some (some (.ref (He.ma K (He.ga K "Scale") "__init__")))) && ((PySem.W.makesIn K (He.ga K "TurnedScale")) && ((PySem.W.isFn K (.ref (He.ma K (He.ga K "TurnedScale") "__init__"))))))))))))))
def ckH19 (K : Fg) : Bool := (PySem.W.keepIn K (.ref (He.ga K "TurnedScale"))) && (decide (PySem.W.nsIn K mainGlobals "_law_source" = some (some (.ref (He.ga K "_law_source")))) && (decide (PySem.W.nsIn K mainGlobals "_law_pick" = some (some (.ref (He.ga K "_law_pick")))) && (decide (PySem.W.nsIn K mainGlobals "_law_join" = some (some (.ref (He.ga K "_law_join")))) && (decide (PySem.W.nsIn K mainGlobals "_law_then" = some (some (.ref (He.ga K "_law_then")))) && (decide (PySem.W.nsIn K mainGlobals "_law_tables" = some (some (.ref (He.ga K "_law_tables")))) && (decide (PySem.W.nsIn K mainGlobals "_law_table_scale" = some (some (.ref (He.ga K "_law_table_scale")))) && (decide (PySem.W.nsIn K mainGlobals "Worth" = some (some (.ref (He.ga K "Worth")))) && ((PySem.W.plainGet K (He.ga K "Worth") Str.empty) && ((PySem.W.hasDictIn K (He.ga K "Worth")) && ((PySem.W.plainOver K (He.ga K "Worth")) && (decide (PySem.W.findIn K (.ref (He.ga K "Worth")) "__setattr__" = some (some (.builtin "object.__setattr__"))))))))))))))
def ckH20 (K : Fg) : Bool := decide (PySem.W.findIn K (.ref (He.ga K "Worth")) "scale" = some none) && (decide (PySem.W.findIn K (.ref (He.ga K "Worth")) "place" = some none) && (decide (PySem.W.findIn K (.ref (He.ga K "Worth")) "name" = some none) && (decide (PySem.W.specialIn K (.builtin "object.__class__") "__get__" = some (some (.builtin "getset_descriptor.__get__"))) && (decide (PySem.W.takesIn K (.builtin "object.__class__") = some true) && (decide (PySem.W.findIn K (.ref (He.ga K "Worth")) "__class__" = some (some (.builtin "object.__class__"))) && (decide (PySem.W.mroIn K (He.ga K "Worth") (.type "object") = some true) && (decide (PySem.W.kitOne K (.ref (He.ga K "Worth")) (.ref (He.ga K "Worth")) = some true) && ((PySem.W.selfFirst K (He.ga K "Worth")) && (decide (PySem.W.findIn K (.ref (He.ga K "Worth")) "__init__" = some (some (.ref (He.ma K (He.ga K "Worth") "__init__")))) && ((PySem.W.isFn K (.ref (He.ma K (He.ga K "Worth") "__init__"))) && ((PySem.W.makesIn K (He.ga K "Worth")))))))))))))
def ckH21 (K : Fg) : Bool := (PySem.W.keepIn K (.ref (He.ga K "Worth"))) && (decide (PySem.W.findIn K (.ref (He.ga K "Worth")) "__eq__" = some (some (.ref (He.ma K (He.ga K "Worth") "__eq__")))) && ((PySem.W.isFn K (.ref (He.ma K (He.ga K "Worth") "__eq__"))) && (decide (PySem.W.nsIn K mainGlobals "MixedScales" = some (some (.ref (He.ga K "MixedScales")))) && ((PySem.W.hasDictIn K (He.ga K "MixedScales")) && (decide (PySem.W.subIn K (.ref (He.ga K "MixedScales")) (.type "BaseException") = some true) && ((PySem.W.keepIn K (.ref (He.ga K "MixedScales"))) && (decide (PySem.W.findIn K (.ref (He.ga K "MixedScales")) "__getattribute__" = some (some (.builtin "BaseException.__getattribute__"))) && (decide (PySem.W.findIn K (.ref (He.ga K "MixedScales")) "__getattr__" = some none) && (decide (PySem.W.findIn K (.ref (He.ga K "MixedScales")) "__class__" = some (some (.builtin "object.__class__"))) && (decide (PySem.W.mroIn K (He.ga K "MixedScales") (.type "object") = some true) && (decide (PySem.W.typeIn K (.ref (He.ga K "MixedScales")) = some (.type "type")))))))))))))
def ckH22 (K : Fg) : Bool := decide (PySem.W.exmOne K (.ref (He.ga K "MixedScales")) (.ref (He.ga K "MixedScales")) = some true) && ((PySem.W.excIn K (He.ga K "MixedScales") [.type "ValueError", .type "Exception", .type "BaseException", .type "object"] "ValueError.__new__") && (decide (PySem.W.nsIn K mainGlobals "together" = some (some (.ref (He.ga K "together")))) && (decide (PySem.W.findIn K (.ref (He.ga K "Worth")) "__mul__" = some (some (.ref (He.ma K (He.ga K "Worth") "__mul__")))) && ((PySem.W.isFn K (.ref (He.ma K (He.ga K "Worth") "__mul__"))) && (decide (PySem.W.findIn K (.ref (He.ga K "Worth")) "__or__" = some (some (.ref (He.ma K (He.ga K "Worth") "__or__")))) && ((PySem.W.isFn K (.ref (He.ma K (He.ga K "Worth") "__or__"))) && (decide (PySem.W.findIn K (.ref (He.ga K "Worth")) "__le__" = some (some (.ref (He.ma K (He.ga K "Worth") "__le__")))) && ((PySem.W.isFn K (.ref (He.ma K (He.ga K "Worth") "__le__"))) && (decide (PySem.W.findIn K (.ref (He.ga K "Worth")) "__lt__" = some (some (.ref (He.ma K (He.ga K "Worth") "__lt__")))) && ((PySem.W.isFn K (.ref (He.ma K (He.ga K "Worth") "__lt__"))) && (decide (PySem.W.kitOne K (.type "str") (.ref (He.ga K "Worth")) = some false))))))))))))
def ckH23 (K : Fg) : Bool := decide (PySem.W.kitOne K (.type "int") (.ref (He.ga K "Worth")) = some false) && (decide (PySem.W.subIn K (.type "str") (.ref (He.ga K "Worth")) = some false) && (decide (PySem.W.subIn K (.type "int") (.ref (He.ga K "Worth")) = some false) && (decide (PySem.W.findIn K (.ref (He.ga K "Worth")) "__eq__" = some (some (.ref (He.ma K (He.ga K "Worth") "__eq__")))) && (decide (PySem.W.findIn K (.ref (He.ga K "Worth")) "__str__" = some (some (.ref (He.ma K (He.ga K "Worth") "__str__")))) && ((PySem.W.isFn K (.ref (He.ma K (He.ga K "Worth") "__str__"))) && ((PySem.W.readsIn K (He.ga K "Worth") (.type "type")) && (decide (PySem.W.specialIn K (.ref (He.ga K "Worth")) "__getattribute__" = some (some (.builtin "type.__getattribute__"))) && (ckGet (PySem.W.findCls K (.ref (He.ga K "Worth")) (.type "type") "still") (.builtin "classmethod.__get__") (.ref (He.ma K (He.ga K "Worth") "still")) .none (.ref (He.ga K "Worth")) && (ckRec K (He.ma K (He.ga K "Worth") "still") "classmethod" && ((PySem.W.fnIn K (recA K (He.ma K (He.ga K "Worth") "still") "classmethod")) && (ckGet (PySem.W.findCls K (.ref (He.ga K "Worth")) (.type "type") "never") (.builtin "classmethod.__get__") (.ref (He.ma K (He.ga K "Worth") "never")) .none (.ref (He.ga K "Worth")))))))))))))
def ckH24 (K : Fg) : Bool := ckRec K (He.ma K (He.ga K "Worth") "never") "classmethod" && ((PySem.W.fnIn K (recA K (He.ma K (He.ga K "Worth") "never") "classmethod")) && (ckGet (PySem.W.findCls K (.ref (He.ga K "Worth")) (.type "type") "named") (.builtin "classmethod.__get__") (.ref (He.ma K (He.ga K "Worth") "named")) .none (.ref (He.ga K "Worth")) && (ckRec K (He.ma K (He.ga K "Worth") "named") "classmethod" && ((PySem.W.fnIn K (recA K (He.ma K (He.ga K "Worth") "named") "classmethod")) && (decide (PySem.W.nsIn K mainGlobals "nested_words" = some (some (.ref (He.ga K "nested_words")))) && (decide (PySem.W.nsIn K mainGlobals "square_rows" = some (some (.ref (He.ga K "square_rows")))) && (decide (PySem.W.nsIn K mainGlobals "table_of_fields" = some (some (.ref (He.ga K "table_of_fields")))) && (decide (PySem.W.nsIn K mainGlobals "scale_of_list" = some (some (.ref (He.ga K "scale_of_list")))) && (decide (PySem.W.nsIn K mainGlobals "read_scale" = some (some (.ref (He.ga K "read_scale")))) && (decide (PySem.W.nsIn K mainGlobals "BadScale" = some (some (.ref (He.ga K "BadScale")))) && ((PySem.W.hasDictIn K (He.ga K "BadScale")))))))))))))
def ckH25 (K : Fg) : Bool := decide (PySem.W.subIn K (.ref (He.ga K "BadScale")) (.type "BaseException") = some true) && ((PySem.W.keepIn K (.ref (He.ga K "BadScale"))) && (decide (PySem.W.findIn K (.ref (He.ga K "BadScale")) "__getattribute__" = some (some (.builtin "BaseException.__getattribute__"))) && (decide (PySem.W.findIn K (.ref (He.ga K "BadScale")) "__getattr__" = some none) && (decide (PySem.W.findIn K (.ref (He.ga K "BadScale")) "__class__" = some (some (.builtin "object.__class__"))) && (decide (PySem.W.mroIn K (He.ga K "BadScale") (.type "object") = some true) && (decide (PySem.W.typeIn K (.ref (He.ga K "BadScale")) = some (.type "type")) && (decide (PySem.W.exmOne K (.ref (He.ga K "BadScale")) (.ref (He.ga K "BadScale")) = some true) && ((PySem.W.excIn K (He.ga K "BadScale") [.type "ValueError", .type "Exception", .type "BaseException", .type "object"] "ValueError.__new__") && (ckInt K "DEEPEST_labels" 12 && (decide (PySem.W.nsIn K mainGlobals "_law_spoiled" = some (some (.ref (He.ga K "_law_spoiled")))) && (decide (PySem.W.nsIn K mainGlobals "_law_deed" = some (some (.ref (He.ga K "_law_deed")))))))))))))))
def ckH26 (K : Fg) : Bool := decide (PySem.W.nsIn K mainGlobals "_law_is" = some (some (.ref (He.ga K "_law_is")))) && (decide (PySem.W.nsIn K mainGlobals "_law_truth" = some (some (.ref (He.ga K "_law_truth")))) && (decide (PySem.W.nsIn K mainGlobals "_law_pair" = some (some (.ref (He.ga K "_law_pair")))) && (decide (PySem.W.nsIn K mainGlobals "_law_unknown" = some (some (.ref (He.ga K "_law_unknown")))) && (decide (PySem.W.nsIn K mainGlobals "law" = some (some (.ref (He.ga K "law")))) && (decide (PySem.W.nsIn K mainGlobals "DeedscaleError" = some (some (.ref (He.ga K "DeedscaleError")))) && (decide (PySem.W.kitOne K (.ref (He.ga K "MixedScales")) (.ref (He.ga K "DeedscaleError")) = some true) && (decide (PySem.W.kitOne K (.ref (He.ga K "MixedScales")) (.type "ValueError") = some true) && (decide (PySem.W.kitOne K (.ref (He.ga K "MixedScales")) (.ref (He.ga K "BadScale")) = some false)))))))))
def fsH : List (Fg → Bool) := ([ckH0, ckH1, ckH2, ckH3, ckH4, ckH5, ckH6, ckH7, ckH8, ckH9, ckH10, ckH11, ckH12, ckH13, ckH14, ckH15, ckH16, ckH17, ckH18, ckH19, ckH20, ckH21, ckH22, ckH23, ckH24, ckH25, ckH26] : List (Fg → Bool))
abbrev RH : PySem.W.OpenRow := PySem.W.OpenLaw.row PySem.Challenge.rw_deedscale_k11_worth_operators
abbrev qH : Program := PySem.W.view RH.prog [56]
def namesH : List Str := (["_wall", "__name__", "DeedscaleError", "BadScale", "MixedScales", "NegativeCount", "NameMissing", "UnknownWorth", "together", "power_at", "Worth", "MOST_WORTHS", "SIGNS", "Scale", "is_table_name", "table_places", "TableScale", "DEEPEST_combined", "depth_above", "PairScale", "half_places", "TurnedScale", "HeapScale", "WithNever", "CountScale", "SpanScale", "SetScale", "WatchScale", "cut_down", "number_name"] : List Str) ++ (["digits_of", "DEEPEST_labels", "read_scale", "nested_words", "scale_of_list", "table_of_fields", "square_rows", "number_of_word", "_law_source", "_law_pick", "_law_join", "_law_then", "_law_tables", "_law_table_scale", "_law_spoiled", "_law_deed", "_law_is", "_law_truth", "_law_pair", "_law_unknown"] : List Str)
def obH (s : PySem.W.SharedT) : AlB := obsBG 8000 fsH dfsH [] (HandSHeadRun.getT s)
theorem obH_eq (s : PySem.W.SharedT) : obH s = (hookB 8000 fsH dfsH []).obs s.abs := obsBG_eq (HandSHeadRun.getT_eq s)
theorem runH (w : World) : HandSHeadRun.RunEq RH qH (hookB 8000 fsH dfsH []) obH 9000 namesH w := by
  intro os
  kernel_rfl
end L2.DS
/-! Defs whose body says super().__init__(..): their frame bears a cell of the class. -/
namespace L2.DS
open PySem PySem.Spec PyProof.Rows
/-! ### the frame -/
abbrev envS (qual : Str) (scope : Scope) (L f : Addr) (cd : Value) (cc : Addr) : Env :=
  PySem.W.envX qual scope L f cd (cellsFrom (L + 1) scope.names [("__class__", cc)])
theorem cells_acc : ∀ (names : List (Str × NameKind)) (n : Nat) (acc : List (Str × Addr)), cellsFrom n names acc = cellsFrom n names [] ++ acc
  | [], _, _ => rfl
  | (x, kd) :: r, n, acc => by
    unfold cellsFrom
    split
    · rw [cells_acc r (n + 1) ((x, n) :: acc), cells_acc r (n + 1) [(x, n)], List.append_assoc]
      rfl
    · exact cells_acc r n acc
/-- the scope of such a def: N its names, the parameters ps first -/
structure ScS (N ps : List Str) (sc : Scope) : Prop where
  kind : sc.kind = .function
  co : sc.isCoroutine = false
  gen : sc.isGenerator = false
  nd : N.Nodup
  pre : N.take ps.length = ps
  par : ∀ x ∈ ps, sc.names.lookup x = some .local ∨ sc.names.lookup x = some .cell
  fre : ∀ y ∈ sc.names, y.2 = .free → y.1 = ("__class__" : Str)
  cls : sc.names.lookup ("__class__" : Str) = some .free
  ncl : ∀ y ∈ sc.names, y.2 = .cell → y.1 ≠ ("__class__" : Str)
  sup : sc.names.lookup ("super" : Str) = some .globalImplicit
/-- which names a list of cells made at the entry has -/
theorem own_name : ∀ (names : List (Str × NameKind)) (n : Nat) (acc : List (Str × Addr)) (x : Str) (c : Addr), (x, c) ∈ cellsFrom n names acc → (x, c) ∈ acc ∨ (x, NameKind.cell) ∈ names
  | [], _, _, _, _, h => .inl h
  | (y, kd) :: r, n, acc, x, c, h => by
    unfold cellsFrom at h
    split at h
    · rename_i hk
      rcases own_name r (n + 1) _ x c h with q | q
      · rcases List.mem_cons.mp q with e | q
        · cases e
          refine .inr (List.mem_cons.mpr (.inl ?_))
          rw [show kd = NameKind.cell from beq_iff_eq.mp hk]
        · exact .inl q
      · exact .inr (List.mem_cons_of_mem _ q)
    · rcases own_name r n acc x c h with q | q
      · exact .inl q
      · exact .inr (List.mem_cons_of_mem _ q)
section
variable {M : Model} {A : Around} {E : Value → Shared → Prop} {s₀ s : Shared} {m cm : Str → Option Value} {env : Env} {own : List (Str × Addr)}
theorem put_local {n : Str} {v : Value} {Q : Unit → Shared → Prop} (x : InCallC s₀ env.locals m own cm s) (hk : env.scope.kind = .function) (hl : env.kindOf n = some .local)
    (h : ∀ s', InCallC s₀ env.locals (fun y => if y = n then some v else m y) own cm s' → Q () s') : wpAny M A (storeName env n v) Q E s := by
  refine wpAny_storeName_local hl x.toInCall.ns (fun g ng sg => h _ ⟨⟨?c1, ng, fun b o e => ?c2, x.toInCall.fresh⟩, fun k c hc => ?c3, x.apart, x.above⟩) (by rw [hk]; rfl)
  case c1 =>
    obtain ⟨h1, tk, rfl⟩ := x.toInCall.same
    exact ⟨g, _, rfl⟩
  case c2 =>
    have lt := Nat.lt_of_lt_of_le (Heap.lt_size e) x.toInCall.fresh
    exact sg.extBut b o (Nat.ne_of_lt lt) (x.toInCall.keep b o e)
  case c3 =>
    have gt := x.above k c (PySem.mem_of_lookup hc)
    exact (x.cell k c hc).sameBut sg (Nat.ne_of_gt gt)
theorem put_cell {n : Str} {c : Addr} {v : Value} {Q : Unit → Shared → Prop} (x : InCallC s₀ env.locals m own cm s) (hk : env.scope.kind = .function) (hl : env.kindOf n = some .cell)
    (hc : env.cells.lookup n = some c) (ho : own.lookup n = some c) (h : ∀ s', InCallC s₀ env.locals m own (fun y => if y = n then some v else cm y) s' → Q () s') :
    wpAny M A (storeName env n v) Q E s := by
  have gt := x.above n c (PySem.mem_of_lookup ho)
  refine wpAny_storeName_cell hk hl hc (x.cell n c ho) fun g cg sg => h _ ⟨⟨?c1, x.toInCall.ns.sameBut sg (Nat.ne_of_lt gt), fun b o e => ?c2, x.toInCall.fresh⟩, fun k c' hk' => ?c3, x.apart, x.above⟩
  case c1 =>
    obtain ⟨h1, tk, rfl⟩ := x.toInCall.same
    exact ⟨g, _, rfl⟩
  case c2 =>
    have lt := Nat.lt_of_lt_of_le (Heap.lt_size e) x.toInCall.fresh
    exact sg.extBut b o (Nat.ne_of_lt (Nat.lt_trans lt gt)) (x.toInCall.keep b o e)
  case c3 =>
    by_cases hkn : k = n
    · subst hkn
      rw [ho] at hk'
      cases hk'
      simpa using cg
    · rw [if_neg hkn]
      refine (x.cell k c' hk').sameBut sg fun e => hkn ?_
      have h1 := PySem.mem_of_lookup ho
      rw [← e] at h1
      exact name_of_addr x.apart (PySem.mem_of_lookup hk') h1
theorem put_all (f : Str × Value → PUnit → Sem (ForInStep PUnit)) (hf : ∀ n v u, f (n, v) u = (do storeName env n v; pure (.yield ⟨⟩))) (hk : env.scope.kind = .function)
    (sub : ∀ n c, own.lookup n = some c → env.cells.lookup n = some c) :
    ∀ (bs : List (Str × Value)) (m cm : Str → Option Value) (s : Shared) (Q : PUnit → Shared → Prop), InCallC s₀ env.locals m own cm s →
      (∀ x ∈ bs, env.kindOf x.1 = some .local ∨ (env.kindOf x.1 = some .cell ∧ (own.lookup x.1).isSome = true)) →
      (∀ s', InCallC s₀ env.locals (bindL env.kindOf bs m) own (bindC env.kindOf bs cm) s' → Q ⟨⟩ s') → wpAny M A (forIn bs ⟨⟩ f) Q E s
  | [], m, cm, s, Q, x, _, h => by
    rw [List.forIn_nil]
    exact wpAny_pure (h s x)
  | (n, v) :: r, m, cm, s, Q, x, kd, h => by
    rw [List.forIn_cons, hf]
    have kr := fun y (hy : y ∈ r) => kd y (List.mem_cons_of_mem _ hy)
    unfold bindL bindC at h
    rcases kd (n, v) List.mem_cons_self with hl | ⟨hl, hc⟩
    · rw [if_pos hl, if_pos hl] at h
      exact wpAny_bind (wpAny_bind (put_local x hk hl fun s' x' => wpAny_pure (put_all f hf hk sub r _ _ s' Q x' kr h)))
    · obtain ⟨c, hc⟩ := Option.isSome_iff_exists.mp hc
      have hnl : ¬ env.kindOf n = some .local := fun z => by
        rw [hl] at z
        cases z
      rw [if_neg hnl, if_neg hnl] at h
      exact wpAny_bind (wpAny_bind (put_cell x hk hl (sub n c hc) hc fun s' x' => wpAny_pure (put_all f hf hk sub r _ _ s' Q x' kr h)))
end
section
variable {M : Model} {A : Around} {E : Value → Shared → Prop} {s : Shared}
theorem new_envS {scope : Scope} {binds : List (Str × Value)} {qual : Str} {f cc : Addr} {cd : Value} {Q : Env → Shared → Prop} (hk : scope.kind = .function)
    (kd : ∀ x ∈ binds, scope.names.lookup x.1 = some .local ∨ (scope.names.lookup x.1 = some .cell ∧ ((cellsFrom (s.heap.objs.size + 1) scope.names []).lookup x.1).isSome = true))
    (hQ : ∀ s', InCallC s s.heap.objs.size (bindL (envS qual scope s.heap.objs.size f cd cc).kindOf binds fun _ => none) (cellsFrom (s.heap.objs.size + 1) scope.names [])
      (bindC (envS qual scope s.heap.objs.size f cd cc).kindOf binds fun _ => none) s' → Q (envS qual scope s.heap.objs.size f cd cc) s') :
    wpAny M A (newFunctionEnv scope mainGlobals [("__class__", cc)] binds (qual ++ ".<locals>.") (some f) cd none builtinsNs) Q E s := by
  simp only [newFunctionEnv, Option.isSome_none, Bool.false_eq_true, if_false]
  refine wpAny_bind (wpAny_alloc ?_)
  refine wpAny_bind (wpAny_layCells _ (fun nm kd cells => by cases e : kd == NameKind.cell <;> simp [e]) _ _ _ _ ?_)
  have ok := cellsFrom_ok scope.names (s.heap.push { cls := .type "frame", data := .dict #[] }) (s.heap.objs.size + 1) [] ⟨fun _ _ z => (nomatch z), List.Pairwise.nil⟩ (by rw [Heap.size_push]; exact Nat.le_refl _)
  rw [Heap.size_push] at ok
  rw [show (Shared.heap { s with heap := s.heap.push { cls := .type "frame", data := .dict #[] } }).objs.size = s.heap.objs.size + 1 from Heap.size_push ..]
  refine wpAny_bind (put_all (s₀ := s) (env := envS qual scope s.heap.objs.size f cd cc) (own := cellsFrom (s.heap.objs.size + 1) scope.names []) _ (fun _ _ _ => rfl) hk (fun n c e => ?_) binds (fun _ => none) (fun _ => none) _ _
    ⟨⟨⟨_, _, rfl⟩, (Heap.Ns.new s.heap (.type "frame")).keeps (pushCells_keeps _ _), fun b o e => pushCells_keeps _ _ b o (Heap.get?_push_of_some _ e), Nat.le_refl _⟩, fun n c z => (ok.empty n c (PySem.mem_of_lookup z)).1, ok.apart, fun n c z => (ok.empty n c z).2⟩ kd fun s' x => wpAny_pure (hQ s' x))
  show (cellsFrom (s.heap.objs.size + 1) scope.names [("__class__", cc)]).lookup n = some c
  rw [cells_acc, List.lookup_append, e]
  rfl
end
/-! ### the context -/
def cxS (CX : CXT) (P : Program) (w : World) (K : PySem.W.Frag) (mg : Str → Option Value) (base : Heap) (N : List Str) (qual : Str) (scope : Scope) (f : Addr) (cd : Value) (cc : Addr) (A : Around) (outer : List Env) (s : Shared) (H : Hp) (E : XK) : Cx where
  prog := P
  w := w
  K := K
  mg := mg
  base := base
  A := A.deeper (envS qual scope s.heap.objs.size f cd cc)
  N := N
  s_0 := s
  H_0 := H
  env := envS qual scope s.heap.objs.size f cd cc
  outer := outer
  stack := envS qual scope s.heap.objs.size f cd cc :: outer
  ex := []
  calm := true
  fn := fun x => !(x == ("__class__" : Str))
  pn := []
  xe := fun e s' => wpAny (model P w) (A.deeper (envS qual scope s.heap.objs.size f cd cc)) (leaving (envS qual scope s.heap.objs.size f cd cc) e) (fun _ s2 => CX outer H s E e s2) (fun e' s2 => CX outer H s E e' s2) s'
theorem cell_in {sc : Scope} {n : Nat} {x : Str} (h : sc.names.lookup x = some .cell) : ∃ c, (cellsFrom n sc.names []).lookup x = some c :=
  Option.isSome_iff_exists.mp (PySem.W.cellsFrom_some sc.names n [] (.inl h))
section
variable {CX : CXT} {P : Program} {w : World} {K : PySem.W.Frag} {mg : Str → Option Value} {base : Heap} {N ps : List Str} {qual : Str} {scope : Scope} {f cc D : Addr} {cd : Value} {A : Around} {outer : List Env} {s s1 : Shared} {H : Hp} {E : XK} {us : List Value} {vs : List V}
theorem look_ownS {L : Nat} {x : Str} {c : Addr} (h : (cellsFrom (L + 1) scope.names [("__class__", cc)]).lookup x = some c) (S : ScS N ps scope) :
    ((cellsFrom (L + 1) scope.names []).lookup x = some c ∧ x ≠ ("__class__" : Str)) ∨ (x = ("__class__" : Str) ∧ c = cc) := by
  rw [cells_acc, List.lookup_append] at h
  cases e : (cellsFrom (L + 1) scope.names []).lookup x with
  | some c1 =>
    rw [e] at h
    have h : c1 = c := Option.some.inj h
    subst h
    refine .inl ⟨rfl, ?_⟩
    rcases own_name _ _ _ _ _ (PySem.mem_of_lookup e) with q | q
    · cases q
    · exact S.ncl _ q rfl
  | none =>
    rw [e] at h
    have h : List.lookup x [(("__class__" : Str), cc)] = some c := h
    by_cases hx : x = ("__class__" : Str)
    · subst hx
      refine .inr ⟨rfl, ?_⟩
      have q : List.lookup ("__class__" : Str) [(("__class__" : Str), cc)] = some cc := by simp [List.lookup]
      rw [q] at h
      exact (Option.some.inj h).symm
    · have hb : (x == ("__class__" : Str)) = false := by simpa using hx
      have q : List.lookup x [(("__class__" : Str), cc)] = none := by simp [List.lookup, hb]
      rw [q] at h
      cases h
theorem look_clsS {L : Nat} (S : ScS N ps scope) : (cellsFrom (L + 1) scope.names [("__class__", cc)]).lookup ("__class__" : Str) = some cc := by
  rw [cells_acc, List.lookup_append]
  cases e : (cellsFrom (L + 1) scope.names []).lookup ("__class__" : Str) with
  | none => simp [List.lookup]
  | some c1 =>
    rcases own_name _ _ _ _ _ (PySem.mem_of_lookup e) with q | q
    · cases q
    · exact absurd rfl (S.ncl _ q rfl)
theorem inv_startS (S : ScS N ps scope) (hd : A.handled = none) (e0 : Env0 P w K mg base A outer s H) (hl : vs.length = ps.length) (r : Vals vs us)
    {ccl : Value} {ccd : Option Addr} {csl : Array (Option Value)} (hcc : K.lookup cc = some ⟨ccl, ccd, .cell (some (.ref D)), csl⟩)
    (x : InCallC s s.heap.objs.size (bindL (envS qual scope s.heap.objs.size f cd cc).kindOf (ps.zip us) fun _ => none) (cellsFrom (s.heap.objs.size + 1) scope.names []) (bindC (envS qual scope s.heap.objs.size f cd cc).kindOf (ps.zip us) fun _ => none) s1) :
    Inv (cxS CX P w K mg base N qual scope f cd cc A outer s H E) [] (start N vs) H s1 := by
  have hpl : ps.length ≤ N.length := by
    have z := congrArg List.length S.pre
    rw [List.length_take] at z
    omega
  obtain ⟨h1, tk, rfl, hk⟩ := x.done
  have bcc : base.get? cc = some ⟨ccl, ccd, .cell (some (.ref D)), csl⟩ := e0.mod.kin _ _ hcc
  have scc := (e0.bs _ _ bcc).1
  have Hcc : H cc = none := (e0.bs _ _ bcc).2
  have ltc : cc < s.heap.objs.size := Heap.lt_size scc
  have noA : ∀ b : Addr, b ∉ (cxS CX P w K mg base N qual scope f cd cc A outer s H E).ex := fun b z => absurd (show b ∈ ([] : List Addr) from z) (by simp)
  have abv : ∀ y c, (cellsFrom (s.heap.objs.size + 1) scope.names []).lookup y = some c → s.heap.objs.size < c := fun y c e => x.above y c (PySem.mem_of_lookup e)
  have own2 : ∀ y c, (cxS CX P w K mg base N qual scope f cd cc A outer s H E).env.cells.lookup y = some c → ((cellsFrom (s.heap.objs.size + 1) scope.names []).lookup y = some c ∧ y ≠ ("__class__" : Str)) ∨ (y = ("__class__" : Str) ∧ c = cc) := fun y c e => look_ownS e S
  refine ⟨⟨e0.mod, S.kind, rfl, rfl, Nat.le_refl _, fun y z c a b => ?_, fun y hy => ?_, fun y c hf h => ?_, fun _ => hd, Around.frames_deeper e0.frames, .inr ⟨rfl, rfl⟩, fun b z => absurd z (noA b), e0.bs, e0.bsz, fun b _ _ => noA b, fun b z => absurd z (noA b), e0.funs, e0.frf⟩,
    rfl, e0.bare, Un.kept hk, ⟨_, x.toInCall.ns, fun i y v a b c => ?_⟩, fun y c e => ?_, e0.hok.fresh (Nat.le_refl _), fun y c e => ?_, fun p hp => absurd (show p ∈ ([] : List (Addr × Obj)) from hp) (by simp), e0.hok.kept hk, ?_⟩
  · rcases own2 y c a with ⟨a, _⟩ | ⟨a, a2⟩ <;> rcases own2 z c b with ⟨b, _⟩ | ⟨b, b2⟩
    · exact name_of_addr x.apart (PySem.mem_of_lookup a) (PySem.mem_of_lookup b)
    · have ab := abv y c a
      rw [b2] at ab
      exact absurd (Nat.lt_trans ltc ab) (Nat.lt_irrefl _)
    · have ab := abv z c b
      rw [a2] at ab
      exact absurd (Nat.lt_trans ltc ab) (Nat.lt_irrefl _)
    · rw [a, b]
  · have hy : scope.names.lookup y = some .cell ∨ scope.names.lookup y = some .free := hy
    show ∃ c, (cellsFrom (s.heap.objs.size + 1) scope.names [("__class__", cc)]).lookup y = some c
    rcases hy with hy | hy
    · obtain ⟨c, e⟩ := cell_in (n := s.heap.objs.size + 1) hy
      refine ⟨c, ?_⟩
      rw [cells_acc, List.lookup_append, e]
      rfl
    · have ey := S.fre _ (PySem.mem_of_lookup hy) rfl
      exact ⟨cc, by rw [show y = ("__class__" : Str) from ey]; exact look_clsS S⟩
  · rcases own2 y c h with ⟨a, _⟩ | ⟨a, _⟩
    · exact Nat.le_of_lt (abv y c a)
    · have hf : (!(y == ("__class__" : Str))) = true := hf
      rw [a] at hf
      simp at hf
  · have a : N[i]? = some y := a
    by_cases hi : i < ps.length
    · have hp : ps[i]? = some y := by
        rw [← S.pre, List.getElem?_take_of_lt hi]
        exact a
      have hv : vs[i]? = some v := by
        unfold start at b
        rw [List.getElem?_append_left (by rw [List.length_map]; omega), List.getElem?_map] at b
        cases e : vs[i]? with
        | none =>
          rw [e] at b
          cases b
        | some q =>
          rw [e] at b
          cases b
          rfl
      obtain ⟨u, hu, rv⟩ := r.get hv
      have ndP : ps.Nodup := by
        have q := S.nd.sublist (List.take_sublist ps.length N)
        rw [S.pre] at q
        exact q
      refine ⟨u, rv, ?_⟩
      rcases S.par y (List.mem_of_getElem? hp) with q | q
      · exact .inl ⟨q, bindL_get ndP hp hu q⟩
      · obtain ⟨c, hc⟩ := cell_in (n := s.heap.objs.size + 1) q
        refine .inr ⟨.inl q, c, ?_, ?_⟩
        · show (cellsFrom (s.heap.objs.size + 1) scope.names [("__class__", cc)]).lookup y = some c
          rw [cells_acc, List.lookup_append, hc]
          rfl
        · have z := x.cell y c hc
          rw [bindC_get ndP hp hu (show (envS qual scope s.heap.objs.size f cd cc).kindOf y ≠ some .local from fun k => by
            have k : scope.names.lookup y = some .local := k
            rw [q] at k
            cases k)] at z
          exact z
    · unfold start at b
      rw [List.getElem?_append_right (by rw [List.length_map]; omega), List.getElem?_replicate] at b
      split at b <;> cases b
  · rcases own2 y c e with ⟨a, _⟩ | ⟨_, a⟩
    · exact ⟨_, x.cell y c a⟩
    · rw [a]
      exact ⟨_, _, hk _ _ scc, rfl⟩
  · rcases own2 y c e with ⟨a, _⟩ | ⟨_, a⟩
    · exact e0.hok.fresh (Nat.le_of_lt (abv y c a))
    · rw [a]
      exact Hcc
  · unfold start
    show _ = N.length
    rw [List.length_append, List.length_map, List.length_replicate]
    omega
end
/-! ### a body in its own activation -/
structure PSA (X : Cx) (body sts : List Stmt) (t : TS) : Prop where
  run : ∀ (pins : List (Addr × Obj)) (s : Shared) (σ : L2.St) (H : Hp) (D : Ends), Inv X pins σ H s → t D σ H → PySem.wpAt (model X.prog X.w) X.A (.func body X.env) (execs sts X.env) (SP X pins D) X.xe s
/-- what super() asks of the running def, of a class D: its cell, its code, its first parameter ar -/
structure SupAt (X : Cx) (D : Addr) (ar : Str) : Prop where
  kc : X.env.kindOf ("__class__" : Str) = some .free
  ks : X.env.kindOf ("super" : Str) = some .globalImplicit
  fn : ∃ f of fd a, X.env.func = some f ∧ X.K.lookup f = some of ∧ of.data = .func fd ∧ (fd.params.posonlyargs ++ fd.params.args).head? = some a ∧ a.arg = ar
  code : ∃ cda oc vs file tf, X.env.code = .ref cda ∧ X.K.lookup cda = some oc ∧ oc.data = .fields vs ∧ vs[2]? = some (.str file tf) ∧ ((X.prog.main.file : Str) == file) = true
  top : (X.prog.main.scope.names.lookup ("super" : Str)).isSome = false
  cell : ∃ cc oc, X.env.cells.lookup ("__class__" : Str) = some cc ∧ X.K.lookup cc = some oc ∧ oc.data = .cell (some (.ref D))
  cls : ∃ oD cd, X.K.lookup D = some oD ∧ oD.data = .cls cd
  mg : X.mg "super" = none
  opq : PySem.W.nsIn X.K cStatics "thirdparty.any" = some none
section
variable {X : Cx} {body sts : List Stmt} {st : Stmt} {t u : TS} {D : Addr} {ar : Str}
theorem psa_end (h : PSs X sts t) : PSA X body sts t := ⟨fun pins s σ H D I q => wpAt_of_wpAny (h.run pins s σ H D I q)⟩
theorem psa_cons (h : PS X st t) (hr : PSA X body sts u) : PSA X body (st :: sts) (tSeq t u) := by
  refine ⟨fun pins s σ H D I q => ks_wpAt_execs_cons (wpAt_of_wpAny (thn (h.run pins s σ H _ I q) fun f s' hs => ?_))⟩
  cases f with
  | next =>
    obtain ⟨σ', H', I', q'⟩ := hs
    exact hr.run pins s' σ' H' D I' q'
  | ret v => exact hs
  | brk => exact hs
  | cont => exact hs
/-! ### super() itself: a new object of class super -/
/-- the name of the first parameter: a local or a cell -/
def Own1 (sc : Scope) (x : Str) : Prop := sc.names.lookup x = some .local ∨ sc.names.lookup x = some .cell
theorem super_new {pins : List (Addr × Obj)} {s : Shared} {σ : L2.St} {H : Hp} {Q : Value → Shared → Prop} {p0 p1 : Pos} {attr : Str} {whole : Sem Value} {x C : Addr} {ox : Obj} {odx : Option Obj} (S : SupAt X D ar) (I : Inv X pins σ H s)
    (hat : (attr == ("__class__" : Str)) = false) (hN : X.N[0]? = some ar) (hv : Own1 X.env.scope ar) (hσ : σ[0]? = some (some (.ref x))) (J : PySem.W.InstAt s.heap x ox C odx) (hsub : PySem.W.mroIn X.K C (.ref D) = some true)
    (h : ∀ so h', s.heap.objs.size = so → h'.get? so = some (PySem.W.ks_superObj D x C) → (∀ y o, s.heap.get? y = some o → h'.get? y = some o) → Q (.ref so) { s with heap := h' }) :
    PySem.wpAt (model X.prog X.w) X.A (.func body X.env) (attributeBase (.Call (.Name "super" p0) [] [] p1) attr X.env whole) Q X.xe s := by
  obtain ⟨f, of, fd, a, f1, f2, f3, f4, f5⟩ := S.fn
  obtain ⟨cda, oc, vs, file, tf, c1, c2, c3, c4, c5⟩ := S.code
  obtain ⟨cc, occ, e1, e2, e3⟩ := S.cell
  obtain ⟨oD, cdD, d1, d2⟩ := S.cls
  obtain ⟨mb, b1, b2⟩ := I.mod.blt
  have KX := I.kIn
  refine ks_wpAt_super_base S.ks S.kc hat f1 (KX _ _ f2) f3 f4 c1 (KX _ _ c2) c3 c4 c5 S.top ?_
  refine PySem.W.ks_loadName_global I.ok.kind S.ks (Calls.loadGlobal_builtin (mg := X.mg) (mb := mb) (by rw [I.ok.glob]; exact I.mod.glob.keeps I.bk) S.mg (by rw [I.ok.blt]; exact b1.keeps I.bk) ((b2 _ (by decide)).trans (by decide +kernel)) ⟨rfl, ?_⟩)
  refine wpAny_loadName_free I.ok.kind S.kc e1 ⟨occ, KX _ _ e2, e3⟩ ?_
  obtain ⟨m, hn, hl⟩ := I.loc
  have hvis : Vis X.env.scope ar := hv.elim .inl fun z => .inr (.inl z)
  obtain ⟨u, ru, l⟩ := hl 0 ar (.ref x) hN hσ hvis
  obtain rfl : u = Value.ref x := ru
  have fin : wpAny (model X.prog X.w) X.A (isType (.ref D)) (fun b s₄ => b = true ∧ wpAny (model X.prog X.w) X.A (call (.type "super") [.ref D, .ref x]) Q X.xe s₄) X.xe s := by
    refine ks_wpAny_isType_cls (KX _ _ d1) d2 ⟨rfl, ?_⟩
    obtain ⟨hh, g, d, t, os⟩ := s
    refine ks_wpAny_call_super (KX _ _ d1) d2 J.at_ J.cls (fun c e => ?_) (PySem.W.looks_mroIn KX hsub) (fun h' e k => h _ h' rfl e k)
    have z := J.no
    unfold PySem.W.notCls at z
    rw [e] at z
    exact Bool.noConfusion z
  rw [f5]
  rcases l with ⟨hk, hm⟩ | ⟨hk, c, hc, hcell⟩
  · exact wpAny_loadName_local I.ok.kind hk hn hm fin
  · have hk : X.env.kindOf ar = some .cell := by
      rcases hv with z | z
      · rcases hk with k | k
        · exact k
        · exact absurd ((show X.env.scope.names.lookup ar = some .free from k).symm.trans z) (by simp)
      · exact z
    exact wpAny_loadName_cell I.ok.kind hk hc hcell fin
/-! ### super().__init__(e, ..), the def found being one of the text -/
def tSup (K : PySem.W.Frag) (D f2 : Addr) (sp : Sp) (dvs : List V) (E : XK) (ta : TA) : TS := fun Dn σ H => ∃ x C dx fs, σ[0]? = some (some (.ref x)) ∧ H x = some (.ins C dx fs) ∧
  PySem.W.mroIn K C (.ref D) = some true ∧ PySem.W.ks_superIn K C D "__init__" = some (some (.ref f2)) ∧ ta σ H fun vs H1 => sp (.ref x :: (vs ++ dvs)) H1 (fun _ H2 => Dn.nx σ H2) E
theorem psa_sup {CX : CXT} {k : Nat} {f2 : Addr} {fd : FuncData} {ps : List Str} {sp : Sp} {dvs : List V} {ds : List Value} {E : XK} {e : Expr} {es : List Expr} {ta : TA} {p0 p1 ap pos pos' : Pos} {pl : Sem Bool} (S : SupAt X D ar)
    (hN : X.N[0]? = some ar) (hv : Own1 X.env.scope ar) (F : FnOk X.prog X.w X.K X.mg X.base CX k f2 fd ps sp) (hr : Room k X.A) (hb : Binds X.K fd ps ds) (hd : Vals dvs ds) (hx : Passes CX X E)
    (hf : PySem.W.fnIn X.K f2 = true) (ht : PySem.W.typeIn X.K (.ref f2) = some (.type "function")) (ha : PA X (e :: es) ta) (hr2 : PSA X body sts u)
    (he : eval (.Call (.Attribute (.Call (.Name "super" p0) [] [] p1) "__init__" ap) (e :: es) [] pos) X.env = (do
      let ov ← attributeBase (.Call (.Name "super" p0) [] [] p1) "__init__" X.env (eval (.Call (.Name "super" p0) [] [] p1) X.env)
      standAt ap.atName
      let (f, first) ← holding [ov] (getMethod ov "__init__" pl)
      callWith pos f first (backTo pos (starEach (e :: es) X.env)) []) := by rfl)
    (hst : starEach (e :: es) X.env = (false, eval e X.env) :: starEach es X.env := by rfl) (hpl : (backTo pos (starEach es X.env)).any (·.1) = false := by rfl)
    (hs : swapsWith (.Call (.Attribute (.Call (.Name "super" p0) [] [] p1) "__init__" ap) (e :: es) [] pos) none pos'.line X.env = pure false := by rfl) :
    PSA X body (.Expr (.Call (.Attribute (.Call (.Name "super" p0) [] [] p1) "__init__" ap) (e :: es) [] pos) pos' :: sts) (tSeq (tSup X.K D f2 sp dvs E ta) u) := by
  refine ⟨fun pins s σ H Dn I q => ks_wpAt_execs_cons (ks_wpAt_Expr_any (ks_wpAt_MethodCall ?_ he) I.quiet hs)⟩
  obtain ⟨x, C, dx, fs, hσ, hx1, hm, hsi, q⟩ := q
  obtain ⟨mA, O, _⟩ := ins_get I.hok hx1
  obtain ⟨odx, J, _⟩ := O.look
  refine super_new S I (by decide) hN hv hσ J hm fun so h' eso k1 k2 => ?_
  have I1 : Inv X pins σ H { s with heap := h' } := I.kept (t' := s.toks) k2
  obtain ⟨mA1, O1, _⟩ := ins_get I1.hok hx1
  obtain ⟨ody, J1, _⟩ := O1.look
  have KX := I1.kIn
  cases hc : PySem.W.clsIn X.K C with
  | none =>
    unfold PySem.W.ks_superIn at hsi
    rw [hc] at hsi
    cases hsi
  | some cd =>
    unfold PySem.W.ks_superIn at hsi
    rw [hc] at hsi
    obtain ⟨of, hof, hofc⟩ : ∃ of, h'.get? f2 = some of ∧ of.cls = .type "function" := by
      have z : (X.K.lookup f2).map (·.cls) = some (.type "function") := ht
      cases y : X.K.lookup f2 with
      | none =>
        rw [y] at z
        cases z
      | some of =>
        rw [y] at z
        exact ⟨of, KX _ _ y, Option.some.inj z⟩
    refine ks_wpAny_getMethod_super k1 (PySem.W.looks_opaque KX S.opq) (l₀ := cd.mro) (fun A' Q' E' s' kk qq => wpAny_bind ((PySem.W.looks_clsIn KX hc) A' _ E' s' kk (wpAny_pure qq))) rfl KX hsi hof hofc (PySem.W.ks_ne KX J1 hc) (by decide) ?_
    have I2 := ClX.met_new (g := f2) (C := x) I1
    refine ClX.callwith_cm I2 (ClX.base_none I1 (Nat.le_refl _)) hf (thn (ha.run pos _ _ σ H _ I2 q) fun us s3 ⟨vs, H2, I3, rv, q2⟩ => ⟨⟨ClX.pin_at I3, I3.kIn⟩, ?_⟩) hst hpl
    have r2 : Vals (V.ref x :: (vs ++ dvs)) (Value.ref x :: (us ++ ds)) := .cons rfl (rv.append hd)
    have hl : (Value.ref x :: us ++ ds).length = ps.length := by
      have z := r2.length
      rw [F.len _ _ _ _ q2] at z
      exact z.symm
    refine wpAny_call (PySem.W.method_call (ClX.pin_at I3) (codeAny_mono (F.run X.A X.stack _ _ ⟨Value.ref x :: us, []⟩ (Value.ref x :: (us ++ ds)) _ _ E hr I3.env0 (hb _ (Value.ref x :: us) I3.kIn hl) r2 q2) fun r s' hq => ?_))
    cases r with
    | error er => exact hx _ σ _ _ er s' (ClX.unpin I3) hq
    | ok fl =>
      cases fl with
      | ret v =>
        obtain ⟨v', H', I4, _, q3⟩ := (ClX.unpin I3).after hq
        exact hr2.run _ s' σ H' Dn I4 q3
      | next => exact False.elim hq
      | brk => exact False.elim hq
      | cont => exact False.elim hq
end
end L2.DS
/-! Own exceptions whose __init__ says super().__init__('text'); self.f = f. -/
namespace L2.DS
open PySem PySem.Spec PyProof.Rows
abbrev xBody (nm txt : Str) (j : Nat) (a b c d e f g h i k : Pos) : List Stmt :=
  [.Expr (.Call (.Attribute (.Call (.Name "super" a) [] [] b) "__init__" c) [.Constant (.str txt) j d] [] e) f, .Assign [.Attribute (.Name "self" g) nm h] (.Name nm i) k]
/-- super().__init__('text') is evaluated as a method's call -/
def xPlain (txt : Str) (j : Nat) (a b c d e : Pos) (env : Env) : Prop := eval (.Call (.Attribute (.Call (.Name "super" a) [] [] b) "__init__" c) [.Constant (.str txt) j d] [] e) env = (do
  let ov ← attributeBase (.Call (.Name "super" a) [] [] b) "__init__" env (eval (.Call (.Name "super" a) [] [] b) env)
  standAt c.atName
  let (f, first) ← holding [ov] (getMethod ov "__init__" (do return (← importBound (.Call (.Name "super" a) [] [] b) env).getD true))
  callWith e f first (backTo e (starEach [.Constant (.str txt) j d] env)) [])
abbrev eTail (B : String) : List Value := [.type B, .type "Exception", .type "BaseException", .type "object"]
/-- the built-in bases -/
structure EB (B newId initId : String) : Prop where
  F : ExcBaseFacts B newId initId (eTail B)
  S : StoreFacts B (eTail B) "object.__setattr__" "object"
  X : PySem.W.KxsFacts B initId
theorem ebL : EB "LookupError" "LookupError.__new__" "LookupError.__init__" := ⟨F.excBase_LookupError, F.store_LookupError, PySem.W.kxs_LookupError⟩
/-- an own class of error, as the top has made it -/
structure ExC (K : PySem.W.Frag) (C : Addr) (B newId : String) : Prop where
  ini : PySem.W.excInitIn K C (eTail B) newId = true
  ovr : PySem.W.excOver K C (eTail B) = true
  hdc : PySem.W.hasDictIn K C = true
  sa : PySem.W.findIn K (.ref C) "__setattr__" = some (some (.builtin "object.__setattr__"))
  exC : PySem.W.subIn K (.ref C) (.type "BaseException") = some true
  subB : PySem.W.subIn K (.ref C) (.type B) = some true
  tyC : PySem.W.typeIn K (.ref C) = some (.type "type")
  kC : PySem.W.keepIn K (.ref C) = true
/-- .. with such an __init__ at fI, of the field nm -/
structure ExI (prog : Program) (K : PySem.W.Frag) (mg : Str → Option Value) (C fI : Addr) (nm : Str) (B newId initId : String) : Prop where
  cls : ExC K C B newId
  iC : PySem.W.findIn K (.ref C) "__init__" = some (some (.ref fI))
  tI : PySem.W.typeIn K (.ref fI) = some (.type "function")
  noN : PySem.W.findIn K (.ref C) nm = some none
  supI : PySem.W.ks_superIn K C C "__init__" = some (some (.builtin initId))
  mroC : PySem.W.mroIn K C (.ref C) = some true
  mgS : mg "super" = none
  opq : PySem.W.nsIn K cStatics "thirdparty.any" = some none
  top : (prog.main.scope.names.lookup ("super" : Str)).isSome = false
  fn : ∃ (st : Stmt) (qual : Str) (oc : Value) (od : Option Addr) (doc pm : Value) (an : Option Addr) (cda : Addr) (ct : Value) (osl : Array (Option Value)) (cc : Addr) (ol : Obj) (vs : Array Value) (file : Str) (tf : Tok) (oc2 : Obj),
    K.lookup fI = some ⟨oc, od, .func (PySem.W.fnX "__init__" qual (defArgs st) (defBody st) (defScope st) [("__class__", cc)] .none .none doc pm an (.ref cda) ct), osl⟩ ∧ PySem.W.codeIn K (.ref cda) qual = true ∧
    K.lookup cda = some ol ∧ ol.data = .fields vs ∧ vs[2]? = some (.str file tf) ∧ ((prog.main.file : Str) == file) = true ∧ K.lookup cc = some oc2 ∧ oc2.data = .cell (some (.ref C)) ∧
    (∃ txt j a b c d e f g h i k, defBody st = xBody nm txt j a b c d e f g h i k ∧ (∀ env, xPlain txt j a b c d e env) ∧ (∀ env l, swapsWith (.Call (.Attribute (.Call (.Name "super" a) [] [] b) "__init__" c) [.Constant (.str txt) j d] [] e) none l env = pure false) ∧
      ∀ env l, swapsWith (.Name nm i) (some (.Attribute (.Name "self" g) nm h)) l env = pure false) ∧
    ((defScope st).kind = .function ∧ (defScope st).isCoroutine = false ∧ (defScope st).isGenerator = false ∧ (∀ x ∈ (defScope st).names, x.2 ≠ NameKind.cell)) ∧
    ((defScope st).names.lookup ("self" : Str) = some .local ∧ (defScope st).names.lookup nm = some .local ∧ (defScope st).names.lookup ("__class__" : Str) = some .free ∧ (defScope st).names.lookup ("super" : Str) = some .globalImplicit) ∧
    (∃ a, ((defArgs st).posonlyargs ++ (defArgs st).args).head? = some a ∧ a.arg = ("self" : Str)) ∧ nm ≠ ("self" : Str) ∧ (nm == ("__debug__" : Str)) = false ∧
    (∀ (fd : FuncData) (s : Shared) (x v : Value), fd.params = defArgs st → fd.scope = defScope st → fd.defaults = .none → fd.kwdefaults = .none → BindsTo s fd ⟨[x, v], []⟩ [("self", x), (nm, v)])
/-- what __init__ leaves of a fresh error at x -/
structure ExEnd (h h' : Heap) (x C dx t1 : Addr) (nm : Str) (v : Value) : Prop where
  keep : ∀ b o, b ≠ x → h.get? b = some o → h'.get? b = some o
  obj : h'.get? x = some { cls := .ref C, dict := some dx, data := .fields #[.ref t1, .none, .none, .none, .bool false, .none] }
  dbig : h.objs.size ≤ dx
  dne : dx ≠ x
  ns : h'.Ns1 dx (fun y => if y = nm then some v else none)
section
variable {prog : Program} {w : World} {A : Around} {E : Value → Shared → Prop} {R : Result → Shared → Prop} {K : PySem.W.Frag} {mg : Str → Option Value} {C fI : Addr} {nm : Str} {B newId initId : String}
/-- self.f = v on an error without a dict -/
theorem ex_set {hp : Heap} {g : Array GenState} {d : Drawn} {t : Nat} {os : OsState} {name : Str} {tk : Tok} {v : Value} {x : Addr} {fv : Array Value} (b : EB B newId initId) (T : ExC K C B newId) (X : K.In hp) (hx : hp.get? x = some { cls := .ref C, data := .fields fv })
    (ha : PySem.W.findIn K (.ref C) name = some none)
    (hq : ∀ h' tk' dx, (∀ b o, b ≠ x → hp.get? b = some o → h'.get? b = some o) → hp.objs.size ≤ dx → dx ≠ x → h'.get? x = some { cls := .ref C, dict := some dx, data := .fields fv } →
      h'.Ns1 dx (fun y => if y = name then some v else none) → R (.ok (.ret .none)) ⟨h', g, d, tk', os⟩) :
    codeAny (model prog w) A (.call (.builtin "object.__setattr__") ⟨[.ref x, .str name tk, v], []⟩) R ⟨hp, g, d, t, os⟩ := by
  refine PySem.W.osa_openX (od := none) (r := none) b.S X ⟨hx, rfl, rfl, trivial⟩ T.ovr (by unfold PySem.W.takerIn; rw [ha]; rfl) fun bb => ?_
  obtain ⟨cd, hcd, hh⟩ := PySem.W.any_some T.hdc
  have hcls : PySem.W.Looks (model prog w) hp (classData C) cd := PySem.W.looks_clsIn X hcd
  have nx : x ≠ hp.objs.size := Nat.ne_of_lt (Heap.lt_size hx)
  obtain ⟨nm, bs, mro, ns, qn, hd, sn, sb, ab, col, del⟩ := cd
  dsimp only at hh
  subst hh
  dsimp only
  unfold Builtin.ObjectAttr.storeInOwnDict Builtin.ObjectAttr.ownDictForStores
  repeat (first | (with_reducible refine PySem.HandSPX.store_in_new ?_ ?_) | (with_reducible refine wpAny_loadPart_at hx ?_) | (with_reducible refine hcls.at ?_) | wp_step)
  · refine ⟨_, #[], _, (Heap.get?_update_ne _ _ _ _ nx.symm).trans (Heap.get?_push_at rfl rfl), rfl, fun e he => absurd he (by simp), fun _ => rfl⟩
  · intro h1 tk1 hn1 sb1
    have hx1 : (hp.push { cls := .type "dict", data := .dict #[] }).get? x = some { cls := .ref C, data := .fields fv } := Heap.get?_push_of_some _ hx
    refine hq h1 tk1 hp.objs.size (fun b o hb ho => (sb1.2 b (Nat.ne_of_lt (Heap.lt_size ho))).trans ?_) (Nat.le_refl _) nx.symm ((sb1.2 x nx).trans (Heap.get?_update_self _ hx1 rfl)) hn1
    exact (Heap.get?_update_ne _ _ _ _ hb).trans (Heap.get?_push_of_some _ ho)
theorem find_none {K : PySem.W.Frag} {h : Heap} {x : Addr} (X : K.In h) (hx : h.get? x = none) : K.lookup x = none := by
  cases e : K.lookup x with
  | none => rfl
  | some o =>
    have z := X _ _ e
    rw [hx] at z
    cases z
/-- the __init__ on a fresh error at x -/
theorem exi_init {s : Shared} {x t0 : Addr} {v : Value} {mb : Str → Option Value} (b : EB B newId initId) (T : ExI prog K mg C fI nm B newId initId) (X : K.In s.heap) (hlim : s.heap.NoLimit) (G : s.heap.Ns mainGlobals mg)
    (Bl : s.heap.Ns builtinsNs mb) (hB : ∀ y : Str, y ≠ "__name__" → mb y = bootBuiltins y) (hx : s.heap.get? x = some (PySem.HandSPX.excO C t0)) (hnx : K.lookup x = none) (hroom : A.depth < recursionLimit)
    (hq : ∀ h' tk dx t1, ExEnd s.heap h' x C dx t1 nm v → R (.ok (.ret .none)) { s with heap := h', toks := tk }) :
    codeAny (model prog w) A (.call (.ref fI) ⟨[.ref x, v], []⟩) R s := by
  obtain ⟨st, qual, oc, od, doc, pm, an, cda, ct, osl, cc, ol, vs, file, tf, oc2, l1, l2, l3, l4, l5, l6, l7, l8, ⟨txt, j, p1, p2, p3, p4, p5, p6, p7, p8, p9, p10, hbody, hpl, hsw1, hsw2⟩, ⟨k1, k2, k3, k4⟩, ⟨n1, n2, n3, n4⟩, ⟨ar, a1, a2⟩, ne1, ne2, hbind⟩ := T.fn
  obtain ⟨nmC, N', qn, bs, bm, hdct, sn, sub, ab, col, dd, q0, q1, q2, q3, q5, hC, hT⟩ := PySem.W.excInit_of X T.cls.ini
  refine ks_codeAny_call_defAt (body := defBody st) (binds := [("self", .ref x), (nm, v)]) hroom (X _ _ l1) rfl hlim (PySem.W.codeRec_of X l2) rfl (hbind _ _ _ _ rfl rfl rfl rfl) k4 (fun y hy => ?_) (fun h1 hns hk1 => ?_) k2 k3 k1
  · rcases List.mem_cons.mp hy with e | hy
    · rw [e]
      exact n1
    · rw [List.mem_singleton.mp hy]
      exact n2
  rw [hbody]
  have X1 : K.In h1 := X.keeps hk1
  have hself : List.lookup ("self" : Str) [(nm, v), (("self" : Str), Value.ref x)] = some (.ref x) := by
    have z : (("self" : Str) == nm) = false := by simpa using Ne.symm ne1
    simp [List.lookup, z]
  have hname : List.lookup nm [(nm, v), (("self" : Str), Value.ref x)] = some v := by simp [List.lookup]
  have hx1 := hk1 _ _ hx
  have IA : PySem.W.InstAt h1 x (PySem.HandSPX.excO C t0) C none := ⟨hx1, rfl, rfl, trivial⟩
  refine ks_wpAt_execs_cons (ks_wpAt_Expr_any (ks_wpAt_MethodCall ?_ (hpl _)) (by simp [interactive, callEnv, newEnv, k1]) (hsw1 _ _))
  refine ks_wpAt_super_base (f := fI) n4 n3 (by decide) rfl (X1 _ _ l1) rfl a1 rfl (X1 _ _ l3) l4 l5 l6 T.top ?_
  refine PySem.W.ks_loadName_global k1 n4 (Calls.loadGlobal_builtin (mg := mg) (mb := mb) (G.keeps hk1) T.mgS (Bl.keeps hk1) ((hB _ (by decide)).trans (by decide +kernel)) ⟨rfl, ?_⟩)
  refine wpAny_loadName_free (c := cc) k1 n3 (by simp [callEnv, newEnv, List.lookup]) ⟨oc2, X1 _ _ l7, l8⟩ ?_
  rw [a2]
  refine wpAny_loadName_local k1 n1 hns hself ?_
  refine ks_wpAny_isType_cls (hk1 _ _ hC) rfl ⟨rfl, ?_⟩
  refine ks_wpAny_call_super (hk1 _ _ hC) rfl hx1 rfl (fun c z => by cases z) (PySem.W.looks_mroIn X1 T.mroC) fun h2 e2 kk2 => ?_
  have X2 : K.In h2 := X1.keeps kk2
  have hx2 := kk2 _ _ hx1
  have hxC : x ≠ C := fun z => by
    rw [z] at hx
    rw [hC] at hx
    cases hx
  have hIB : PySem.W.Looks (model prog w) h2 (isInstance (.ref x) (.type B)) true :=
    (show PySem.W.InstAt h2 x (PySem.HandSPX.excO C t0) C none from ⟨hx2, rfl, rfl, trivial⟩).type.andThen (PySem.W.looks_subIn X2 T.cls.subB)
  cases hcl : PySem.W.clsIn K C with
  | none =>
    have z := T.supI
    unfold PySem.W.ks_superIn at z
    rw [hcl] at z
    cases z
  | some cd =>
    have hal : PySem.W.alongIn K "__init__" ((cd.mro.dropWhile (· != .ref C)).drop 1) = some (some (.builtin initId)) := by
      have z := T.supI
      unfold PySem.W.ks_superIn at z
      rw [hcl] at z
      exact z
    refine PySem.W.kxs_getMethod b.X e2 (PySem.W.looks_opaque X2 T.opq) (l₀ := cd.mro) (fun A' Q' E' s' kk qq => wpAny_bind ((PySem.W.looks_clsIn X2 hcl) A' _ E' s' kk (wpAny_pure qq))) rfl X2 hal hIB hxC (by decide) ?_
    -- the method-wrapper at h2.objs.size is called with the text
    have hmw : (h2.push (PySem.W.kxs_mw initId x)).get? h2.objs.size = some (PySem.W.kxs_mw initId x) := Heap.get?_push_size h2 rfl
    have k3' : ∀ b' o, h2.get? b' = some o → (h2.push (PySem.W.kxs_mw initId x)).get? b' = some o := fun b' o e => Heap.get?_push_of_some _ e
    have hx3 := k3' _ _ hx2
    refine PySem.W.kxs_callWith (i := initId) (x := x) rfl (Calls.evalArgs_plain (Calls.spliced_cons (Calls.Constant_str (k := j) (pos := p4) (Calls.spliced_nil ⟨hmw, ?_⟩))))
    refine wpAny_call (codeAny_of_tree ?_)
    show wpAny _ _ (callAny (.ref h2.objs.size) _) _ _ _
    simp only [callAny]
    refine wpAny_bind (wpAny_load hmw ?_)
    simp only [PySem.W.kxs_mw, show (Value.type "method-wrapper" == Value.type "method" || Value.type "method-wrapper" == Value.type "builtin_function_or_method" || Value.type "method-wrapper" == Value.type "method-wrapper") = true by decide, if_true]
    refine PySem.W.KFB.if_so (by decide) ?_
    refine wpAny_bind (PySem.W.check_bound_init b.F.toExcCallFacts (k3' _ _ (kk2 _ _ (hk1 _ _ hC))) hx3 rfl ?_)
    refine wpAny_bind (wpAny_pure (wpAny_pure ?_))
    refine ⟨plainId_quiet b.F.init.plain _, codeAny_builtin b.F.initEntry ?_⟩
    refine PySem.W.exc_init_tree (cls := .ref C) (t0 := t0) (dv := none) (c2 := .none) (c3 := .none) (b4 := .bool false) hx3 (by show 1 ≤ sizeLine; rw [sizeLine_eq]; decide) fun h4 kk4 hx4 ht4 => ?_
    show PySem.wpAt _ _ _ (execs _ _) _ _ _
    refine wpAt_of_wpAny ?_
    have X4 : K.In h4 := fun a o e => kk4 a o (fun z => by rw [z, hnx] at e; cases e) (k3' _ _ (X2 a o e))
    have nxL : s.heap.objs.size ≠ x := Nat.ne_of_gt (Heap.lt_size hx)
    obtain ⟨oL, es, ep, hL1, hL2⟩ := hns
    have hns4 : h4.Ns s.heap.objs.size (fun y => List.lookup y [(nm, v), (("self" : Str), Value.ref x)]) := ⟨oL, es, ep, kk4 _ _ nxL (k3' _ _ (kk2 _ _ hL1)), hL2⟩
    refine wpAny_execs_cons (plainObj_wpAny_Assign_Attribute ?_ (hsw2 _ _))
    refine wpAny_Name (wpAny_loadName_local k1 n2 hns4 hname ?_) ne2
    refine wpAny_Name (wpAny_loadName_local k1 n1 hns4 hself ?_) (by decide)
    refine PySem.W.set_plain X4 (od := none) ⟨hx4, rfl, rfl, trivial⟩ T.cls.sa ?_
    refine ex_set b T.cls X4 hx4 T.noN fun h5 tk5 dx k5 big ne hx5 hn5 => ?_
    refine wpAny_execs_nil (hq h5 _ dx _ ⟨fun y o hy e => k5 y o hy (kk4 y o hy (k3' _ _ (kk2 _ _ (hk1 _ _ e)))), hx5, ?_, ne, hn5⟩)
    have big2 : h2.objs.size < h4.objs.size := Heap.lt_size (kk4 _ _ (fun z => ?_) hmw)
    · have z1 : s.heap.objs.size < h1.objs.size := Heap.lt_size hL1
      have z2 : s.heap.objs.size < h2.objs.size := Heap.lt_size (kk2 _ _ hL1)
      exact Nat.le_of_lt (Nat.lt_of_lt_of_le (Nat.lt_trans z2 big2) big)
    · have y := Heap.lt_size hx2
      rw [z] at y
      exact absurd y (Nat.lt_irrefl _)
end
/-! ### C(e) -/
theorem relO_one {v : V} {v' : Value} (r : RelV v v') (nm f : Str) : RelO (List.lookup f [(nm, v)]) (if f = nm then some v' else none) := by
  by_cases hw : f = nm
  · subst hw
    rw [if_pos rfl, show List.lookup f [(f, v)] = some v by simp [List.lookup]]
    exact r
  · rw [if_neg hw, show List.lookup f [(nm, v)] = none by simp [List.lookup, show (f == nm) = false by simpa using hw]]
    trivial
/-- a made error -/
structure ExMade (h h' : Heap) (e C d : Addr) (nm : Str) (v : Value) : Prop where
  keep : ∀ b o, h.get? b = some o → h'.get? b = some o
  new : h.objs.size ≤ e
  obj : ∃ t1, h'.get? e = some { cls := .ref C, dict := some d, data := .fields #[.ref t1, .none, .none, .none, .bool false, .none] }
  dbig : h.objs.size ≤ d
  dne : d ≠ e
  ns : h'.Ns1 d (fun y => if y = nm then some v else none)
section
variable {prog : Program} {w : World} {A : Around} {R : Result → Shared → Prop} {K : PySem.W.Frag} {mg : Str → Option Value} {C fI : Addr} {nm : Str} {B newId initId : String}
theorem exi_made {s : Shared} {v : Value} {mb : Str → Option Value} (b : EB B newId initId) (T : ExI prog K mg C fI nm B newId initId) (X : K.In s.heap) (hlim : s.heap.NoLimit) (G : s.heap.Ns mainGlobals mg)
    (Bl : s.heap.Ns builtinsNs mb) (hB : ∀ y : Str, y ≠ "__name__" → mb y = bootBuiltins y) (hroom : A.depth + 1 < recursionLimit)
    (hq : ∀ h' tk e d, ExMade s.heap h' e C d nm v → R (.ok (.ret (.ref e))) { s with heap := h', toks := tk }) : codeAny (model prog w) A (.call (.ref C) ⟨[v], []⟩) R s := by
  obtain ⟨nmC, N', qn, bs, bm, hdct, sn, sub, ab, col, dd, q0, q1, q2, q3, q5, hC, hT⟩ := PySem.W.excInit_of X T.cls.ini
  obtain ⟨hp, g, dr, tk, os⟩ := s
  have k : ∀ b' o, hp.get? b' = some o → ((hp.push (PySem.W.kdv_tup [v])).push (PySem.HandSPX.excO C hp.objs.size)).get? b' = some o := fun b' o e => Heap.get?_push_of_some _ (Heap.get?_push_of_some _ e)
  have hget : ((hp.push (PySem.W.kdv_tup [v])).push (PySem.HandSPX.excO C hp.objs.size)).get? (hp.objs.size + 1) = some (PySem.HandSPX.excO C hp.objs.size) := by heap_get
  have hnx : K.lookup (hp.objs.size + 1) = none := find_none X (Heap.get?_none_of_le (Nat.le_succ _))
  refine PySem.HandSPX.call_own b.F hT hC (PySem.W.looks_findIn X T.iC) (fun self => PySem.W.bind_fn X self T.tI) (by show 1 ≤ sizeLine; rw [sizeLine_eq]; decide) ?_
  refine exi_init (s := ⟨(hp.push (PySem.W.kdv_tup [v])).push (PySem.HandSPX.excO C hp.objs.size), g, dr, tk, os⟩) b T (X.keeps k) (hlim.keeps k) (G.keeps k) (Bl.keeps k) hB hget hnx ?_ fun h' tk' dx t1 M => ?_
  · show A.depth + 1 < recursionLimit
    exact hroom
  · have z : hp.objs.size + 1 + 1 ≤ dx := by
      have q := M.dbig
      rw [Heap.size_push, Heap.size_push] at q
      exact q
    refine ⟨rfl, hq h' tk' (hp.objs.size + 1) dx ⟨fun b' o e => M.keep b' o (Nat.ne_of_lt (Nat.lt_succ_of_lt (Heap.lt_size e))) (k b' o e), Nat.le_succ _, ⟨t1, M.obj⟩, Nat.le_trans (Nat.le_trans (Nat.le_succ _) (Nat.le_succ _)) z, M.dne, M.ns⟩⟩
end
section
variable {X : Cx} {C fI : Addr} {nm : Str} {B newId initId : String}
/-- C(e), C an own error with a field -/
def tMkX (C : Addr) (nm : Str) (ta : TA) : L2.St → Hp → XK → Prop := fun σ H Q => ta σ H fun vs H1 => ∃ v, vs = [v] ∧ ∀ d, H1 d = none → Q (.ref C) (some d) (upd H1 d (.xd [(nm, v)]))
theorem pmk_exi {x : Str} {a : Expr} {ta : TA} {p pos : Pos} {k : Nat} (b : EB B newId initId) (T : ExI X.prog X.K X.mg C fI nm B newId initId) (hm : X.mg x = some (.ref C)) (hr : Room k X.A) (ha : PA X [a] ta) (hg : Gl X x := by rfl)
    (hdb : (x == ("__debug__" : Str)) = false := by decide) (he : starEach (a :: []) X.env = (false, eval a X.env) :: starEach [] X.env := by rfl) (hpl : (backTo pos (starEach [] X.env)).any (·.1) = false := by rfl) :
    PMk X (.Call (.Name x p) [a] [] pos) (tMkX C nm ta) := by
  intro pins s σ H Q I h
  refine wpAny_Call_Name_kw (ld_glob I hg hm ?_ hdb)
  refine PySem.W.callWith_K (h₀ := X.base) I.ok.mod.kin T.cls.kC (thn (ha.run pos pins s σ H _ I h) fun us s1 hh => ?_) he hpl
  obtain ⟨vs, H1, I1, r1, v, ev, q1⟩ := hh
  subst ev
  refine ⟨I1.kIn, ?_⟩
  cases r1 with
  | cons rv rn =>
    rename_i v' us'
    cases rn
    show wpAny _ _ (call (.ref C) [v']) _ _ _
    obtain ⟨mb, b1, b2⟩ := I1.mod.blt
    have bk := I1.bk
    have hlim := I1.nolimit
    have hk := I1.kIn
    have gg := I1.mod.glob.keeps bk
    have bb := b1.keeps bk
    obtain ⟨hp, g, dr, tk, os⟩ := s1
    refine wpAny_call (exi_made b T hk hlim gg bb b2 (by have := hr.dp; omega) fun h' tk' e d M => ?_)
    show MkP X pins σ Q (.ref e) ⟨h', g, dr, tk', os⟩
    obtain ⟨t1, hoe⟩ := M.obj
    have hns := M.ns
    obtain ⟨G', g1, g2⟩ := restrict h' fun y => decide (y ≠ e)
    have gk : ∀ y, y ≠ e → G'.get? y = h'.get? y := fun y hb => g1 y (decide_eq_true hb)
    have ge : G'.get? e = none := g2 e (by simp)
    have old : ∀ y o, hp.get? y = some o → G'.get? y = some o := fun y o q => (gk y (Nat.ne_of_lt (Nat.lt_of_lt_of_le (Heap.lt_size q) M.new))).trans (M.keep y o q)
    have ob : ObjOk X.prog X.w (upd H1 d (.xd [(nm, v)])) G' d (.xd [(nm, v)]) := ⟨_, hns.at (fun o q => (gk d M.dne).trans q), fun f => relO_one rv nm f⟩
    have J : Inv X pins σ (upd H1 d (.xd [(nm, v)])) ⟨G', g, dr, tk', os⟩ := I1.laid (t' := tk') old M.dbig ob
    refine ⟨e, _, _, ⟨G', g, dr, tk', os⟩, _, .ref C, some d, rfl, J, fun y o q => ?_, ge, hoe, ⟨rfl, rfl⟩, rfl, rfl, ?_, rfl, I1.bare, raises_own T.cls.exC T.cls.tyC, q1 d (I1.hok.fresh M.dbig)⟩
    · by_cases hb : y = e
      · have q' : G'.get? y = some o := q
        rw [hb, ge] at q'
        cases q'
      · exact (gk y hb).symm.trans q
    · rw [upd_ne (Ne.symm M.dne)]
      exact I1.hok.fresh M.new
/-- raise C(e) -/
def tRaiseX (C : Addr) (nm : Str) (W : WX) (ta : TA) : TS := fun _ σ H => tMkX C nm ta σ H fun cls d H' => W cls d σ H'
theorem ps_raiseX {x : Str} {a : Expr} {ta : TA} {W : WX} {p pos pos2 : Pos} {k : Nat} (hc : X.calm = true) (b : EB B newId initId) (T : ExI X.prog X.K X.mg C fI nm B newId initId) (hm : X.mg x = some (.ref C)) (hr : Room k X.A) (tk : Takes X W) (ha : PA X [a] ta) (hg : Gl X x := by rfl)
    (hdb : (x == ("__debug__" : Str)) = false := by decide) (he : starEach (a :: []) X.env = (false, eval a X.env) :: starEach [] X.env := by rfl) (hpl : (backTo pos (starEach [] X.env)).any (·.1) = false := by rfl) :
    PS X (.Raise (some (.Call (.Name x p) [a] [] pos)) none pos2) (tRaiseX C nm W ta) := ps_raise hc tk (pmk_exi b T hm hr ha hg hdb he hpl)
end
/-! ### n.f, n the error that an except suite holds -/
/-- what reading a field of such an error asks of its class -/
structure ExG (K : PySem.W.Frag) (C : Addr) (nm : Str) : Prop where
  ga : PySem.W.findIn K (.ref C) "__getattribute__" = some (some (.builtin "BaseException.__getattribute__"))
  gg : PySem.W.findIn K (.ref C) "__getattr__" = some none
  exC : PySem.W.subIn K (.ref C) (.type "BaseException") = some true
  hdC : PySem.W.hasDictIn K C = true
  noN : PySem.W.findIn K (.ref C) nm = some none
section
variable {X : Cx} {C : Addr} {nm : Str}
def tFldX (C : Addr) (nm : Str) (a : Addr) (cls : Value) (d : Option Addr) (te : TE) : TE := fun σ H Q => te σ H fun x H1 => x = .ref a ∧ cls = .ref C ∧ ∃ (dd : Addr) (v : V), d = some dd ∧ H1 dd = some (.xd [(nm, v)]) ∧ Q v H1
theorem pe_fldX {a : Addr} {oe : Obj} {cls : Value} {d : Option Addr} {pn : List (Addr × Obj)} {e : Expr} {te : TE} {pos : Pos} (T : ExG X.K C nm) (hz : Zc cls d oe) (hf : ∃ vs, oe.data = .fields vs) (he : PE (X.suite a ((a, oe) :: pn)) e te)
    (hb : attributeBase e nm X.env (eval e X.env) = eval e X.env := by rfl) : PE (X.suite a ((a, oe) :: pn)) (.Attribute e nm pos) (tFldX C nm a cls d te) := by
  refine ⟨fun pins s σ H Q I h => ?_⟩
  refine attr_of hb (thn (he.run pins s σ H _ I h) fun u s1 hh => ?_)
  obtain ⟨x, H1, I1, rx, ex, ec, dd, v, ed, ea, q⟩ := hh
  subst ex
  obtain rfl : u = Value.ref a := rx
  subst ec
  subst ed
  obtain ⟨ha, _⟩ := I1.pin (a, oe) (List.mem_append_left _ List.mem_cons_self)
  obtain ⟨vs, hd⟩ := hf
  have hx : ObjOk X.prog X.w H1 s1.heap dd (.xd [(nm, v)]) := I1.hok dd _ ea
  obtain ⟨mA, hns, hr⟩ := hx
  obtain ⟨od, ho, hl⟩ := lookIn_ns hns
  have l : List.lookup nm [(nm, v)] = some v := by simp [List.lookup]
  obtain ⟨u, hu, ru⟩ := RelO.some_of (v := v) (o := mA nm) (by rw [← l]; exact hr nm)
  have J : PySem.W.InstAt s1.heap a oe C (some od) := ⟨ha, hz.1, by unfold PySem.W.notCls; rw [hd] <;> rfl, by rw [hz.2]; exact ho⟩
  exact HandSPX.exc_get I1.kIn J T.ga T.gg T.exC (PySem.W.findObj_own T.hdC T.noN rfl (by rw [hl, hu])) (handed_of ru) ⟨v, H1, I1.tok _, ru, q⟩
end
end L2.DS
/-! The rule for a def that says super().__init__. -/
namespace L2.DS
open PySem PySem.Spec PyProof.Rows
structure FunS (prog : Program) (K : PySem.W.Frag) (x qual : Str) (st : Stmt) (f : Addr) (fd : FuncData) (D : Addr) : Prop where
  ex : ∃ (oc : Value) (od : Option Addr) (dV kV doc pm : Value) (an : Option Addr) (cda : Addr) (ct : Value) (osl : Array (Option Value)) (cc : Addr) (ol : Obj) (vs : Array Value) (file : Str) (tf : Tok) (ccl : Value) (ccd : Option Addr) (csl : Array (Option Value)),
    fd = PySem.W.fnX x qual (defArgs st) (defBody st) (defScope st) [("__class__", cc)] dV kV doc pm an (.ref cda) ct ∧ K.lookup f = some ⟨oc, od, .func fd, osl⟩ ∧ PySem.W.codeIn K (.ref cda) qual = true ∧
    K.lookup cda = some ol ∧ ol.data = .fields vs ∧ vs[2]? = some (.str file tf) ∧ ((prog.main.file : Str) == file) = true ∧ K.lookup cc = some ⟨ccl, ccd, .cell (some (.ref D)), csl⟩
  cls : ∃ oD cd, K.lookup D = some oD ∧ oD.data = .cls cd
  kp : PySem.W.keepIn K (.ref f) = true
  fi : PySem.W.fnIn K f = true
  ty : PySem.W.typeIn K (.ref f) = some (.type "function")
section
variable {P : Program} {w : World} {K : PySem.W.Frag} {mg : Str → Option Value} {base : Heap}
theorem FunS.okX {x qual : Str} {st : Stmt} {f D : Addr} {fd : FuncData} {N ps : List Str} {k : Nat} {sp : Sp} {ar : Str} {a : Arg} (F : FunS P K x qual st f fd D) (S : ScS N ps (defScope st)) (hmg : mg "super" = none)
    (opq : PySem.W.nsIn K cStatics "thirdparty.any" = some none) (top : (P.main.scope.names.lookup ("super" : Str)).isSome = false) (har : ((defArgs st).posonlyargs ++ (defArgs st).args).head? = some a) (har2 : a.arg = ar)
    (len : ∀ vs H Q E, sp vs H Q E → vs.length = ps.length)
    (hbody : ∀ (cdv : Value) (cc : Addr) (A : Around) (outer : List Env) (s : Shared) (H : Hp) (vs : List V) (Q : VK) (E : XK), Room k (A.deeper (envS qual (defScope st) s.heap.objs.size f cdv cc)) → sp vs H Q E →
      SupAt (cxS (L2.CX P w) P w K mg base N qual (defScope st) f cdv cc A outer s H E) D ar →
      ∃ t, PSA (cxS (L2.CX P w) P w K mg base N qual (defScope st) f cdv cc A outer s H E) (defBody st) (defBody st) t ∧ t { nx := fun _ H' => Q .non H', rt := Q } (start N vs) H) : FnOk P w K mg base (L2.CX P w) (k + 1) f fd ps sp := by
  obtain ⟨oc, od, dV, kV, doc, pm, an, cda, ct, osl, cc, ol, vs, file, tf, ccl, ccd, csl, rfl, l1, l2, l3, l4, l5, l6, l7⟩ := F.ex
  refine ⟨len, fun A outer s H args us ws Q E hr e0 hb r hsp => ?_⟩
  have hl := len _ _ _ _ hsp
  have kb : ∀ b o, base.get? b = some o → s.heap.get? b = some o := fun b o e => (e0.bs b o e).1
  have KX : K.In s.heap := e0.mod.kin.keeps kb
  have lim : s.heap.NoLimit := e0.mod.nolimit.keeps kb
  refine codeAny_call_function hr.depth (KX _ _ l1) rfl S.co S.gen rfl (PySem.W.codeRec_of KX l2) (hb _ _ _ _ ?_)
  refine new_envS S.kind (fun y hy => ?_) fun s1 x1 => ⟨lim.keeps x1.toInCall.keep, ks_codeAny_funcAt ?_⟩
  · obtain ⟨n, v⟩ := y
    rcases S.par n (List.of_mem_zip hy).1 with q | q
    · exact .inl q
    · exact .inr ⟨q, PySem.W.cellsFrom_some _ _ _ (.inl q)⟩
  · have I := inv_startS (CX := L2.CX P w) (E := E) (N := N) (qual := qual) (f := f) (cd := .ref cda) S hr.hd e0 hl r l7 x1
    have SA : SupAt (cxS (L2.CX P w) P w K mg base N qual (defScope st) f (.ref cda) cc A outer s H E) D ar :=
      ⟨S.cls, S.sup, ⟨f, _, _, a, rfl, l1, rfl, har, har2⟩, ⟨cda, ol, vs, file, tf, rfl, l3, l4, l5, l6⟩, top, ⟨cc, _, look_clsS S, l7, rfl⟩, F.cls, hmg, opq⟩
    obtain ⟨t, ht, hq⟩ := hbody (.ref cda) cc A outer s H ws Q E (hr.deeper _) hsp SA
    refine ks_wpAt_mono (ht.run [] s1 (start N ws) H _ I hq) (fun fl s' hs => ?_) fun _ _ z => z
    have fin : ∀ {σ' : L2.St} {H' : Hp} {v : V} {u : Value}, Inv (cxS (L2.CX P w) P w K mg base N qual (defScope st) f (.ref cda) cc A outer s H E) [] σ' H' s' → RelV v u → Q v H' → CE outer P w H s Q u s' :=
      fun {σ' H' v u} J rv q => ⟨v, H', J.os, J.bare, J.base, J.hok, rv, q⟩
    cases fl with
    | ret u =>
      obtain ⟨v, σ', H', J, rv, q⟩ := hs
      exact fin J rv q
    | next =>
      obtain ⟨σ', H', J, q⟩ := hs
      exact fin (v := V.non) (u := Value.none) J rfl q
    | brk =>
      obtain ⟨_, _, _, q⟩ := hs
      exact q.elim
    | cont =>
      obtain ⟨_, _, _, q⟩ := hs
      exact q.elim
end
end L2.DS
/-! What a reading evaluates to: G what stands still, H the heap, S n what is known of both (n: how often numbers were drawn). -/
namespace L2.DS
open PySem PySem.Spec PyProof.Rows
/-- what is known of what stands still and of the heap; what may change under it -/
structure SR where
  s : Nat → Hp → Hp → Prop
  m : Addr → Prop
instance : CoeFun SR (fun _ => Nat → Hp → Hp → Prop) := ⟨SR.s⟩
/-- all stays but what may change -/
structure Kp (S : SR) (H H' : Hp) : Prop where
  k : ∀ b o, ¬ S.m b → H b = some o → H' b = some o
  v : ∀ b, H' b = none → H b = none
theorem Kp.refl {S : SR} (H : Hp) : Kp S H H := ⟨fun _ _ _ h => h, fun _ h => h⟩
theorem Kp.trans {S : SR} {H H1 H2 : Hp} (a : Kp S H H1) (b : Kp S H1 H2) : Kp S H H2 := ⟨fun c o h e => b.k c o h (a.k c o h e), fun c h => a.v c (b.v c h)⟩
theorem Kp.of {S : SR} {H H' : Hp} (s : Same H H') : Kp S H H' := ⟨fun b o _ e => s b o e, fun b h => s.free h⟩
structure Stp (S : SR) (n : Nat) (G H G' H' : Hp) : Prop where
  g : Same G G'
  k : Kp S H H'
  s : S n G' H'
  n : ∀ b o, G' b = some o → G b = some o ∨ H b = none
theorem Stp.refl {S : SR} {n : Nat} {G H : Hp} (s : S n G H) : Stp S n G H G H := ⟨Same.refl _, Kp.refl _, s, fun _ _ h => .inl h⟩
theorem Stp.trans {S : SR} {n m : Nat} {G H G1 H1 G2 H2 : Hp} (a : Stp S n G H G1 H1) (b : Stp S m G1 H1 G2 H2) : Stp S m G H G2 H2 := ⟨a.g.trans b.g, a.k.trans b.k, b.s, fun c o e => by
  rcases b.n c o e with q | q
  · exact a.n c o q
  · exact .inr (a.k.v c q)⟩
theorem Stp.up {S : SR} {n a b : Nat} {G H G1 H1 : Hp} (h : Stp S (n + a + b) G H G1 H1) : Stp S (n + (a + b)) G H G1 H1 := by
  rw [← Nat.add_assoc]
  exact h
abbrev HR := V → Hp → Prop
/-- H' grows out of H, G' out of G: what is new in G' is new in H' -/
structure Grow (G H G' H' : Hp) : Prop where
  g : Same G G'
  h : Same H H'
  s : Same G' H'
  n : ∀ b o, G' b = some o → G b = some o ∨ H b = none
theorem Grow.refl {G H : Hp} (s : Same G H) : Grow G H G H := ⟨Same.refl _, Same.refl _, s, fun _ _ h => .inl h⟩
theorem Grow.trans {G H G1 H1 G2 H2 : Hp} (a : Grow G H G1 H1) (b : Grow G1 H1 G2 H2) : Grow G H G2 H2 :=
  ⟨a.g.trans b.g, a.h.trans b.h, b.s, fun c o e => by
    rcases b.n c o e with q | q
    · exact a.n c o q
    · exact .inr (a.h.free q)⟩
theorem Grow.new {G H : Hp} {p : Addr} (s : Same G H) (hp : H p = none) (o : HO) : Grow G H (upd G p o) (upd H p o) :=
  ⟨fun b u e => by rw [upd_ne (ne_of_none e (s.free hp))]; exact e, fun b u e => by rw [upd_ne (ne_of_none e hp)]; exact e, fun b u e => by
    by_cases hb : b = p
    · subst hb
      rw [upd_same] at e ⊢
      exact e
    · rw [upd_ne hb] at e ⊢
      exact s b u e, fun b u e => by
    by_cases hb : b = p
    · rw [hb]
      exact .inr hp
    · rw [upd_ne hb] at e
      exact .inl e⟩
/-- a new thing that nobody tells of -/
theorem Grow.hid {G H : Hp} {p : Addr} (s : Same G H) (hp : H p = none) (o : HO) : Grow G H G (upd H p o) :=
  ⟨Same.refl _, fun b u e => by rw [upd_ne (ne_of_none e hp)]; exact e, fun b u e => by rw [upd_ne (ne_of_none e (s.free hp))]; exact s b u e, fun b u e => .inl e⟩
structure Stab (S : SR) : Prop where
  sub : ∀ {n G H}, S n G H → Same G H
  wk : ∀ {n m G H}, S n G H → n ≤ m → S m G H
  grow : ∀ {n G H G' H'}, S n G H → Grow G H G' H' → S n G' H'
  anti : ∀ {n m G H G' H'}, S n G H → S m G' H' → Same G G' → S m G H'
  /-- what is new may change while nobody tells of it -/
  chg : ∀ {n m G H G' H' D o}, S n G H → H D = none → S m G' H' → G' D = none → S m G' (upd H' D o)
  pub : ∀ {n m G H G' H' D o}, S n G H → H D = none → S m G' H' → G' D = none → H' D = some o → S m (upd G' D o) H'
  fre : ∀ {n G H D}, S n G H → H D = none → ¬ S.m D
/-- nothing but growth -/
def SP0 (G0 H0 : Hp) : SR := ⟨fun _ G H => Grow G0 H0 G H, fun _ => False⟩
theorem Stp.same {G0 H0 : Hp} {n : Nat} {G H G' H' : Hp} (s : Stp (SP0 G0 H0) n G H G' H') : Same H H' := fun b o e => s.k.k b o (fun z => z) e
theorem Stab.new {S : SR} (st : Stab S) {n : Nat} {G H : Hp} {p : Addr} {o : HO} (s : S n G H) (hp : H p = none) : Stp S n G H (upd G p o) (upd H p o) :=
  have g := Grow.new (st.sub s) hp o
  ⟨g.g, Kp.of g.h, st.grow s g, g.n⟩
theorem Stab.gro {S : SR} (st : Stab S) {n : Nat} {G H G' H' : Hp} (s : S n G H) (g : Grow G H G' H') : Stp S n G H G' H' := ⟨g.g, Kp.of g.h, st.grow s g, g.n⟩
theorem stab0 (G0 H0 : Hp) : Stab (SP0 G0 H0) where
  sub := fun h => h.s
  wk := fun h _ => h
  grow := fun h g => Grow.trans h g
  anti := fun {n m G H G' H'} h h' s => ⟨h.g, h'.h, s.trans h'.s, fun b o e => h'.n b o (s b o e)⟩
  chg := fun {n m G H G' H' D o} h d h' g => ⟨h'.g, fun b u e => by
      rw [upd_ne (ne_of_none e (h.h.free d))]
      exact h'.h b u e, fun b u e => by
      rw [upd_ne (ne_of_none e g)]
      exact h'.s b u e, h'.n⟩
  pub := fun {n m G H G' H' D o} h d h' g e => ⟨fun b u z => by
      rw [upd_ne (ne_of_none z (h'.g.free g))]
      exact h'.g b u z, h'.h, fun b u z => by
      by_cases hb : b = D
      · rw [hb, upd_same] at z
        rw [hb, ← z]
        exact e
      · rw [upd_ne hb] at z
        exact h'.s b u z, fun b u z => by
      by_cases hb : b = D
      · rw [hb]
        exact .inr (h.h.free d)
      · rw [upd_ne hb] at z
        exact h'.n b u z⟩
  fre := fun _ _ z => z
/-! ### results -/
class Mon (R : HR) : Prop where
  mon : ∀ {v : V} {G G' : Hp}, Same G G' → R v G → R v G'
def IsV (x : V) : HR := fun v _ => v = x
def IsI (P : Int → Prop) : HR := fun v _ => ∃ i, P i ∧ v = .int i
def IsB (P : Bool → Prop) : HR := fun v _ => ∃ b, P b ∧ v = .bl b
def IsS (P : Str → Prop) : HR := fun v _ => ∃ b, P b ∧ v = .str b
def IsL (K : PySem.W.Frag) (xs : List V) : HR := fun v G => ∃ p, v = .ref p ∧ SqL K G p xs
def IsT (K : PySem.W.Frag) (xs : List V) : HR := fun v G => ∃ p, v = .ref p ∧ SqT K G p xs
def IsD (K : PySem.W.Frag) (d : PyData) : HR := fun v G => Dp K G v d
abbrev HRs := List V → Hp → Prop
class Mons (R : HRs) : Prop where
  mon : ∀ {v : List V} {G G' : Hp}, Same G G' → R v G → R v G'
def RNil : HRs := fun vs _ => vs = []
def RCons (R : HR) (RA : HRs) : HRs := fun vs G => ∃ v r, vs = v :: r ∧ R v G ∧ RA r G
def IsVs (ws : List V) : HRs := fun vs _ => vs = ws
/-- a list, a tuple of things of which RA tells -/
def IsLA (K : PySem.W.Frag) (RA : HRs) : HR := fun v G => ∃ p xs, v = .ref p ∧ SqL K G p xs ∧ RA xs G
def IsTA (K : PySem.W.Frag) (RA : HRs) : HR := fun v G => ∃ p xs, v = .ref p ∧ SqT K G p xs ∧ RA xs G
theorem same_t {K : PySem.W.Frag} {H H' : Hp} {a : Addr} {xs : List V} (e : Same H H') (h : SqT K H a xs) : SqT K H' a xs := by
  rcases h with (h | ⟨o, h⟩) | h
  · exact .inl (.inl (e _ _ h))
  · exact .inl (.inr ⟨o, e _ _ h⟩)
  · exact .inr h
mutual
theorem dp_mon {K : PySem.W.Frag} {G G' : Hp} (s : Same G G') : ∀ {v : V} {d : PyData}, Dp K G v d → Dp K G' v d
  | _, _, .non => .non
  | _, _, .bl b => .bl b
  | _, _, .int i => .int i
  | _, _, .str x => .str x
  | _, _, .lst h hs => .lst (s.seq h) (dps_mon s hs)
  | _, _, .tup h hs => .tup (same_t s h) (dps_mon s hs)
theorem dps_mon {K : PySem.W.Frag} {G G' : Hp} (s : Same G G') : ∀ {vs : List V} {ds : List PyData}, DpAll K G vs ds → DpAll K G' vs ds
  | _, _, .nil => .nil
  | _, _, .cons h hs => .cons (dp_mon s h) (dps_mon s hs)
end
instance (x : V) : Mon (IsV x) := ⟨fun _ h => h⟩
instance (P : Int → Prop) : Mon (IsI P) := ⟨fun _ h => h⟩
instance (P : Bool → Prop) : Mon (IsB P) := ⟨fun _ h => h⟩
instance (P : Str → Prop) : Mon (IsS P) := ⟨fun _ h => h⟩
instance (K xs) : Mon (IsL K xs) := ⟨fun s ⟨p, e, h⟩ => ⟨p, e, s.seq h⟩⟩
instance (K xs) : Mon (IsT K xs) := ⟨fun s ⟨p, e, h⟩ => ⟨p, e, same_t s h⟩⟩
instance (K d) : Mon (IsD K d) := ⟨fun s h => dp_mon s h⟩
instance : Mons RNil := ⟨fun _ h => h⟩
instance (ws) : Mons (IsVs ws) := ⟨fun _ h => h⟩
instance (R RA) [Mon R] [Mons RA] : Mons (RCons R RA) := ⟨fun s ⟨v, r, e, h, h'⟩ => ⟨v, r, e, Mon.mon s h, Mons.mon s h'⟩⟩
instance (K RA) [Mons RA] : Mon (IsLA K RA) := ⟨fun s ⟨p, xs, e, h, h'⟩ => ⟨p, xs, e, s.seq h, Mons.mon s h'⟩⟩
instance (K RA) [Mons RA] : Mon (IsTA K RA) := ⟨fun s ⟨p, xs, e, h, h'⟩ => ⟨p, xs, e, same_t s h, Mons.mon s h'⟩⟩
/-! ### what evaluates to what -/
variable (S : SR)
def Ev (n k : Nat) (te : TE) (σ : L2.St) (G : Hp) (R : HR) : Prop := ∀ G1 H1, Same G G1 → S n G1 H1 → ∀ Q : VK, (∀ v G2 H2, Stp S (n + k) G1 H1 G2 H2 → R v G2 → Q v H2) → te σ H1 Q
def EvT (n k : Nat) (tt : TT) (σ : L2.St) (G : Hp) (P : Bool → Prop) : Prop := ∀ G1 H1, Same G G1 → S n G1 H1 → ∀ Q : Bool → Hp → Prop, (∀ b G2 H2, Stp S (n + k) G1 H1 G2 H2 → P b → Q b H2) → tt σ H1 Q
def EvA (n k : Nat) (ta : TA) (σ : L2.St) (G : Hp) (RA : HRs) : Prop := ∀ G1 H1, Same G G1 → S n G1 H1 → ∀ Q : List V → Hp → Prop, (∀ v G2 H2, Stp S (n + k) G1 H1 G2 H2 → RA v G2 → Q v H2) → ta σ H1 Q
/-- operations by values -/
def RV (r : R2) (x y : V) (G : Hp) (R : HR) : Prop := ∀ n G1 H1, Same G G1 → S n G1 H1 → ∀ Q : VK, (∀ v G2 H2, Stp S n G1 H1 G2 H2 → R v G2 → Q v H2) → r x y H1 Q
def RU (r : V → Hp → VK → Prop) (x : V) (G : Hp) (R : HR) : Prop := ∀ n G1 H1, Same G G1 → S n G1 H1 → ∀ Q : VK, (∀ v G2 H2, Stp S n G1 H1 G2 H2 → R v G2 → Q v H2) → r x H1 Q
def RC (r : List V → Hp → VK → Prop) (xs : List V) (G : Hp) (R : HR) : Prop := ∀ n G1 H1, Same G G1 → S n G1 H1 → ∀ Q : VK, (∀ v G2 H2, Stp S n G1 H1 G2 H2 → R v G2 → Q v H2) → r xs H1 Q
variable {S}
section
variable {n k ka kb kc : Nat} {te ta tb : TE} {tt tu : TT} {t tr : TA} {σ : L2.St} {G G' : Hp} {R Ra Rb : HR} {RA : HRs} {P P' : Bool → Prop} {x y : V} {r : R2}
theorem Ev.mono (h : Ev S n k te σ G R) (s : Same G G') : Ev S n k te σ G' R := fun G1 H1 a b Q q => h G1 H1 (s.trans a) b Q q
theorem EvT.mono (h : EvT S n k tt σ G P) (s : Same G G') : EvT S n k tt σ G' P := fun G1 H1 a b Q q => h G1 H1 (s.trans a) b Q q
theorem EvA.mono (h : EvA S n k t σ G RA) (s : Same G G') : EvA S n k t σ G' RA := fun G1 H1 a b Q q => h G1 H1 (s.trans a) b Q q
theorem Ev.imp (h : Ev S n k te σ G R) (i : ∀ v G', Same G G' → R v G' → Rb v G') : Ev S n k te σ G Rb := fun G1 H1 a b Q q => h G1 H1 a b Q fun v G2 H2 s e => q v G2 H2 s (i v G2 (a.trans s.g) e)
theorem EvT.imp (h : EvT S n k tt σ G P) (i : ∀ b, P b → P' b) : EvT S n k tt σ G P' := fun G1 H1 a b Q q => h G1 H1 a b Q fun v G2 H2 s e => q v G2 H2 s (i v e)
theorem Stp.wk (st : Stab S) {m : Nat} {H G1 H1 : Hp} (s : Stp S n G H G1 H1) (h : n ≤ m) : Stp S m G H G1 H1 := ⟨s.g, s.k, st.wk s.s h, s.n⟩
theorem Ev.wk (st : Stab S) (h : Ev S n ka te σ G R) (hk : ka ≤ kb) : Ev S n kb te σ G R := fun G1 H1 a b Q q => h G1 H1 a b Q fun v G2 H2 s e => q v G2 H2 (s.wk st (by omega)) e
theorem ev_var {i : Nat} (h : σ[i]? = some (some x)) : Ev S n 0 (tVar i) σ G (IsV x) := fun G1 H1 _ s Q q => ⟨x, h, q x G1 H1 (Stp.refl s) rfl⟩
theorem ev_c : Ev S n 0 (tC x) σ G (IsV x) := fun G1 H1 _ s Q q => q x G1 H1 (Stp.refl s) rfl
theorem ev_op [Mon Ra] (ha : Ev S n ka ta σ G Ra) (hb : Ev S (n + ka) kb tb σ G Rb) (hr : ∀ x y G', Same G G' → Ra x G' → Rb y G' → RV S r x y G' R) : Ev S n (ka + kb) (tOp r ta tb) σ G R := fun G1 H1 a s Q q =>
  ha G1 H1 a s _ fun x G2 H2 s2 rx => hb G2 H2 (a.trans s2.g) s2.s _ fun y G3 H3 s3 ry =>
    hr x y G3 ((a.trans s2.g).trans s3.g) (Mon.mon s3.g rx) ry _ G3 H3 (Same.refl _) s3.s Q fun v G4 H4 s4 e => q v G4 H4 ((s2.trans s3).trans s4).up e
/-- both operands known -/
theorem ev_opV (ha : Ev S n ka ta σ G (IsV x)) (hb : Ev S (n + ka) kb tb σ G (IsV y)) (hr : RV S r x y G R) : Ev S n (ka + kb) (tOp r ta tb) σ G R :=
  ev_op ha hb fun u v G' s e1 e2 => by
    rw [show u = x from e1, show v = y from e2]
    exact fun n G1 H1 a s' Q q => hr n G1 H1 (s.trans a) s' Q q
theorem ev_un [Mon Ra] {r : V → Hp → VK → Prop} (ha : Ev S n ka ta σ G Ra) (hr : ∀ x G', Same G G' → Ra x G' → RU S r x G' R) : Ev S n ka (tUn r ta) σ G R := fun G1 H1 a s Q q =>
  ha G1 H1 a s _ fun x G2 H2 s2 rx => hr x G2 (a.trans s2.g) rx _ G2 H2 (Same.refl _) s2.s Q fun v G4 H4 s4 e => q v G4 H4 (s2.trans s4) e
theorem ev_unV {r : V → Hp → VK → Prop} (ha : Ev S n ka ta σ G (IsV x)) (hr : RU S r x G R) : Ev S n ka (tUn r ta) σ G R :=
  ev_un ha fun u G' s e => by
    rw [show u = x from e]
    exact fun n G1 H1 a s' Q q => hr n G1 H1 (s.trans a) s' Q q
/-! tests -/
theorem et_test (h : Ev S n k te σ G (IsB P)) : EvT S n k (tTest te) σ G P := fun G1 H1 a s Q q => h G1 H1 a s _ fun v G2 H2 s2 ⟨b, p, e⟩ => ⟨b, e, q b G2 H2 s2 p⟩
theorem et_testV {b : Bool} (h : Ev S n k te σ G (IsV (.bl b))) : EvT S n k (tTest te) σ G (fun c => c = b) := fun G1 H1 a s Q q => h G1 H1 a s _ fun v G2 H2 s2 e => ⟨b, e, q b G2 H2 s2 rfl⟩
theorem et_B {b : Bool} (h : Ev S n k te σ G (IsV (.bl b))) : EvT S n k (tB te) σ G (fun c => c = b) := fun G1 H1 a s Q q => h G1 H1 a s _ fun v G2 H2 s2 e => ⟨b, e, q b G2 H2 s2 rfl⟩
theorem et_and (st : Stab S) {a b : Bool} (h1 : EvT S n ka tt σ G (fun c => c = a)) (h2 : a = true → EvT S (n + ka) kb tu σ G (fun c => c = b)) : EvT S n (ka + kb) (tAnd tt tu) σ G (fun c => c = (a && b)) := fun G1 H1 s0 s Q q =>
  h1 G1 H1 s0 s _ fun c G2 H2 s2 e => by
    subst e
    cases c with
    | true => exact iteT (h2 rfl G2 H2 (s0.trans s2.g) s2.s Q fun d G3 H3 s3 e => q d G3 H3 (s2.trans s3).up e)
    | false => exact iteF (q false G2 H2 (s2.wk st (by omega)) rfl)
theorem et_or (st : Stab S) {a b : Bool} (h1 : EvT S n ka tt σ G (fun c => c = a)) (h2 : a = false → EvT S (n + ka) kb tu σ G (fun c => c = b)) : EvT S n (ka + kb) (tOr tt tu) σ G (fun c => c = (a || b)) := fun G1 H1 s0 s Q q =>
  h1 G1 H1 s0 s _ fun c G2 H2 s2 e => by
    subst e
    cases c with
    | false => exact iteF (h2 rfl G2 H2 (s0.trans s2.g) s2.s Q fun d G3 H3 s3 e => q d G3 H3 (s2.trans s3).up e)
    | true => exact iteT (q true G2 H2 (s2.wk st (by omega)) rfl)
theorem et_not {a : Bool} (h : EvT S n ka tt σ G (fun c => c = a)) : EvT S n ka (tNot tt) σ G (fun c => c = !a) := fun G1 H1 s0 s Q q => h G1 H1 s0 s _ fun c G2 H2 s2 e => q (!c) G2 H2 s2 (by rw [show c = a from e])
theorem ev_andV (st : Stab S) {a b : Bool} (h1 : Ev S n ka ta σ G (IsV (.bl a))) (h2 : a = true → Ev S (n + ka) kb tb σ G (IsV (.bl b))) : Ev S n (ka + kb) (tAndV ta tb) σ G (IsV (.bl (a && b))) := fun G1 H1 s0 s Q q =>
  h1 G1 H1 s0 s _ fun c G2 H2 s2 e => ⟨a, e, by
    cases a with
    | true => exact iteT (h2 rfl G2 H2 (s0.trans s2.g) s2.s Q fun d G3 H3 s3 e => q d G3 H3 (s2.trans s3).up e)
    | false => exact iteF (q _ G2 H2 (s2.wk st (by omega)) rfl)⟩
theorem ev_orV (st : Stab S) {a b : Bool} (h1 : Ev S n ka ta σ G (IsV (.bl a))) (h2 : a = false → Ev S (n + ka) kb tb σ G (IsV (.bl b))) : Ev S n (ka + kb) (tOrV ta tb) σ G (IsV (.bl (a || b))) := fun G1 H1 s0 s Q q =>
  h1 G1 H1 s0 s _ fun c G2 H2 s2 e => ⟨a, e, by
    cases a with
    | false => exact iteF (h2 rfl G2 H2 (s0.trans s2.g) s2.s Q fun d G3 H3 s3 e => q d G3 H3 (s2.trans s3).up e)
    | true => exact iteT (q _ G2 H2 (s2.wk st (by omega)) rfl)⟩
theorem ev_notV {a : Bool} (h : Ev S n ka ta σ G (IsV (.bl a))) : Ev S n ka (tNotV ta) σ G (IsV (.bl (!a))) := fun G1 H1 s0 s Q q => h G1 H1 s0 s _ fun c G2 H2 s2 e => ⟨a, e, q _ G2 H2 s2 rfl⟩
theorem ev_if (st : Stab S) {c : Bool} (h : EvT S n kc tt σ G (fun b => b = c)) (h1 : c = true → Ev S (n + kc) ka ta σ G R) (h2 : c = false → Ev S (n + kc) kb tb σ G R) : Ev S n (kc + (ka + kb)) (tIf tt ta tb) σ G R := fun G1 H1 s0 s Q q =>
  h G1 H1 s0 s _ fun b G2 H2 s2 e => by
    subst e
    cases b with
    | true => exact iteT (h1 rfl G2 H2 (s0.trans s2.g) s2.s Q fun v G3 H3 s3 e => q v G3 H3 ((s2.trans s3).wk st (by omega)) e)
    | false => exact iteF (h2 rfl G2 H2 (s0.trans s2.g) s2.s Q fun v G3 H3 s3 e => q v G3 H3 ((s2.trans s3).wk st (by omega)) e)
/-! arguments, displays -/
theorem ea_nil : EvA S n 0 tNil σ G RNil := fun G1 H1 _ s Q q => q [] G1 H1 (Stp.refl s) rfl
theorem ea_cons [Mon R] (h : Ev S n ka te σ G R) (hr : EvA S (n + ka) kb tr σ G RA) : EvA S n (ka + kb) (tCons te tr) σ G (RCons R RA) := fun G1 H1 s0 s Q q =>
  h G1 H1 s0 s _ fun v G2 H2 s2 e => hr G2 H2 (s0.trans s2.g) s2.s _ fun vs G3 H3 s3 e' => q (v :: vs) G3 H3 (s2.trans s3).up ⟨v, vs, rfl, Mon.mon s3.g e, e'⟩
theorem ea_nilV : EvA S n 0 tNil σ G (IsVs []) := ea_nil
theorem ea_consV {vs : List V} (h : Ev S n ka te σ G (IsV x)) (hr : EvA S (n + ka) kb tr σ G (IsVs vs)) : EvA S n (ka + kb) (tCons te tr) σ G (IsVs (x :: vs)) := fun G1 H1 s0 s Q q =>
  h G1 H1 s0 s _ fun v G2 H2 s2 e => hr G2 H2 (s0.trans s2.g) s2.s _ fun ws G3 H3 s3 e' => q (v :: ws) G3 H3 (s2.trans s3).up (by rw [show v = x from e, show ws = vs from e']; rfl)
theorem ev_cb {r : List V → Hp → VK → Prop} (h : EvA S n k t σ G RA) (hr : ∀ vs G', Same G G' → RA vs G' → RC S r vs G' R) : Ev S n k (tCB r t) σ G R := fun G1 H1 s0 s Q q =>
  h G1 H1 s0 s _ fun vs G2 H2 s2 e => hr vs G2 (s0.trans s2.g) e _ G2 H2 (Same.refl _) s2.s Q fun v G3 H3 s3 e' => q v G3 H3 (s2.trans s3) e'
theorem ev_cbV {r : List V → Hp → VK → Prop} {ws : List V} (h : EvA S n k t σ G (IsVs ws)) (hr : RC S r ws G R) : Ev S n k (tCB r t) σ G R :=
  ev_cb h fun vs G' s e => by
    rw [show vs = ws from e]
    exact fun n G1 H1 a s' Q q => hr n G1 H1 (s.trans a) s' Q q
/-! fields -/
theorem ev_fld (st : Stab S) {K : PySem.W.Frag} {a C dx : Addr} {fs : List (Str × V)} {f : Str} (h : Ev S n k te σ G (IsV (.ref a))) (ho : G a = some (.ins C dx fs)) (hc : Cls K C) (hn : NoAttr K C f) (hl : fs.lookup f = some x) : Ev S n k (tFld K te f) σ G (IsV x) := fun G1 H1 s0 s Q q =>
  h G1 H1 s0 s _ fun v G2 H2 s2 e => ⟨a, C, dx, fs, x, e, st.sub s2.s _ _ (s2.g _ _ (s0 _ _ ho)), hc, hn, hl, q x G2 H2 s2 rfl⟩
/-! promises -/
/-- a def that changes nothing that stood: P arguments, what stands still, the result -/
def spP (P : List V → Hp → HR → Prop) : Sp := fun vs H Q _ => ∃ G R, Same G H ∧ P vs G R ∧ ∀ v G' H', Grow G H G' H' → R v G' → Q v H'
theorem ev_call (st : Stab S) {P : List V → Hp → HR → Prop} {dvs : List V} {E : XK} (h : EvA S n k t σ G RA) (hp : ∀ vs G', Same G G' → RA vs G' → P (vs ++ dvs) G' R) : Ev S n k (tCall (spP P) dvs E t) σ G R := fun G1 H1 s0 s Q q =>
  h G1 H1 s0 s _ fun vs G2 H2 s2 e => ⟨G2, R, st.sub s2.s, hp vs G2 (s0.trans s2.g) e, fun v G' H' g r => q v G' H' (s2.trans (st.gro s2.s g)) r⟩
theorem ev_callV (st : Stab S) {P : List V → Hp → HR → Prop} {dvs ws : List V} {E : XK} (h : EvA S n k t σ G (IsVs ws)) (hp : ∀ G', Same G G' → P (ws ++ dvs) G' R) : Ev S n k (tCall (spP P) dvs E t) σ G R :=
  ev_call st h fun vs G' s e => by
    rw [show vs = ws from e]
    exact hp G' s
theorem ev_meth (st : Stab S) {P : List V → Hp → HR → Prop} {dvs : List V} {E : XK} {C a dx : Addr} {m : Str} {fs : List (Str × V)} (ho : Ev S n ka te σ G (IsV (.ref a))) (hi : G a = some (.ins C dx fs)) (hl : fs.lookup m = none) (h : EvA S (n + ka) kb t σ G RA)
    (hp : ∀ vs G', Same G G' → RA vs G' → P (.ref a :: (vs ++ dvs)) G' R) : Ev S n (ka + kb) (tMeth C m (spP P) dvs E te t) σ G R := fun G1 H1 s0 s Q q =>
  ho G1 H1 s0 s _ fun v G2 H2 s2 e => ⟨a, dx, fs, e, st.sub s2.s _ _ (s2.g _ _ (s0 _ _ hi)), hl, h G2 H2 (s0.trans s2.g) s2.s _ fun vs G3 H3 s3 e' =>
    ⟨G3, R, st.sub s3.s, by rw [show v = .ref a from e]; exact hp vs G3 ((s0.trans s2.g).trans s3.g) e', fun v G' H' g r => q v G' H' ((s2.trans s3).trans (st.gro s3.s g)).up r⟩⟩
end
/-! ### operations -/
section
variable {K : PySem.W.Frag} {G : Hp} {R : HR} {x y : V} {r r' : R2} {i j : Int} {s z : Str}
theorem rv_val {v : V} (h : ∀ H, Same G H → ∀ Q : VK, Q v H → r x y H Q) (st : Stab S) : RV S r x y G (IsV v) := fun n G1 H1 s0 s Q q => h H1 (s0.trans (st.sub s)) Q (q v G1 H1 (Stp.refl s) rfl)
theorem rv_l (h : RV S r x y G R) : RV S (fun x y H Q => r x y H Q ∨ r' x y H Q) x y G R := fun n G1 H1 s0 s Q q => .inl (h n G1 H1 s0 s Q q)
theorem rv_r (h : RV S r' x y G R) : RV S (fun x y H Q => r x y H Q ∨ r' x y H Q) x y G R := fun n G1 H1 s0 s Q q => .inr (h n G1 H1 s0 s Q q)
theorem rv_I0 (st : Stab S) {g : Int → Int → V} : RV S (rI0 g) (.int i) (.int j) G (IsV (g i j)) := rv_val (fun H _ Q q => ⟨i, j, rfl, rfl, q⟩) st
theorem rv_I (st : Stab S) {C : Int → Int → Prop} {g : Int → Int → V} (hc : C i j) : RV S (rI C g) (.int i) (.int j) G (IsV (g i j)) := rv_val (fun H _ Q q => ⟨i, j, rfl, rfl, hc, q⟩) st
theorem rv_eq (st : Stab S) (h : scal x y = true) : RV S rEq x y G (IsV (.bl (decide (x = y)))) := rv_val (fun H _ Q q => ⟨h, q⟩) st
theorem rv_ne (st : Stab S) (h : scal x y = true) : RV S rNe x y G (IsV (.bl (!decide (x = y)))) := rv_val (fun H _ Q q => ⟨h, q⟩) st
theorem ru_I (st : Stab S) {g : Int → V} : RU S (rU g) (.int i) G (IsV (g i)) := fun n G1 H1 s0 s Q q => ⟨i, rfl, q _ G1 H1 (Stp.refl s) rfl⟩
theorem rv_ixL (st : Stab S) {p : Addr} {xs : List V} {v : V} (h : SqL K G p xs) (ha : atI xs i = some v) : RV S (rIxL K) (.ref p) (.int i) G (IsV v) := rv_val (fun H s Q q => ⟨p, xs, i, v, rfl, rfl, s.seq h, ha, q⟩) st
theorem rv_ixT (st : Stab S) {p : Addr} {xs : List V} {v : V} (h : SqT K G p xs) (ha : atI xs i = some v) : RV S (rIxT K) (.ref p) (.int i) G (IsV v) := rv_val (fun H s Q q => ⟨p, xs, i, v, rfl, rfl, same_t s h, ha, q⟩) st
end
/-! ### statements -/
section
variable {k n : Nat} {te : TE} {tt : TT} {ts t1 t2 u : TS} {σ : L2.St} {G H : Hp} {R : HR} {P : Bool → Prop} {x : V} {nx bk ct : L2.St → Hp → Prop} {rt : VK} {i : Nat}
theorem q_end (h : nx σ H) : tNext (Ends.mk nx rt bk ct) σ H := h
theorem q_ret (s : S n G H) (e : Ev S n k te σ G R) (h : ∀ v G' H', Stp S (n + k) G H G' H' → R v G' → rt v H') : tSeq (tRet te) u (Ends.mk nx rt bk ct) σ H := e G H (Same.refl _) s _ h
theorem q_retV (st : Stab S) (s : S n G H) (e : Ev S n k te σ G (IsV x)) (h : ∀ H', Kp S H H' → S (n + k) G H' → rt x H') : tSeq (tRet te) u (Ends.mk nx rt bk ct) σ H := q_ret s e fun v G' H' s1 e => by
  rw [show v = x from e]
  exact h H' s1.k (st.anti s s1.s s1.g)
theorem q_set (s : S n G H) (e : Ev S n k te σ G R) (h : ∀ v G' H', Stp S (n + k) G H G' H' → R v G' → u (Ends.mk nx rt bk ct) (σ.set i (some v)) H') : tSeq (tAsg te (gName i)) u (Ends.mk nx rt bk ct) σ H := e G H (Same.refl _) s _ h
theorem q_setV (st : Stab S) (s : S n G H) (e : Ev S n k te σ G (IsV x)) (h : ∀ H', Kp S H H' → S (n + k) G H' → u (Ends.mk nx rt bk ct) (σ.set i (some x)) H') : tSeq (tAsg te (gName i)) u (Ends.mk nx rt bk ct) σ H := q_set s e fun v G' H' s1 e => by
  rw [show v = x from e]
  exact h H' s1.k (st.anti s s1.s s1.g)
theorem q_setI (st : Stab S) (s : S n G H) {P : Int → Prop} (e : Ev S n k te σ G (IsI P)) (h : ∀ j H', P j → Kp S H H' → S (n + k) G H' → u (Ends.mk nx rt bk ct) (σ.set i (some (.int j))) H') : tSeq (tAsg te (gName i)) u (Ends.mk nx rt bk ct) σ H := q_set s e fun v G' H' s1 ⟨j, p, e⟩ => by
  rw [e]
  exact h j H' p s1.k (st.anti s s1.s s1.g)
theorem q_if (st : Stab S) (s : S n G H) (e : EvT S n k tt σ G P) (h1 : ∀ H', P true → Kp S H H' → S (n + k) G H' → t1 (Ends.mk (u (Ends.mk nx rt bk ct)) rt bk ct) σ H') (h2 : ∀ H', P false → Kp S H H' → S (n + k) G H' → t2 (Ends.mk (u (Ends.mk nx rt bk ct)) rt bk ct) σ H') :
    tSeq (tIfS tt t1 t2) u (Ends.mk nx rt bk ct) σ H := e G H (Same.refl _) s _ fun b G' H' s1 p => by
  cases b with
  | true => exact iteT (h1 H' p s1.k (st.anti s s1.s s1.g))
  | false => exact iteF (h2 H' p s1.k (st.anti s s1.s s1.g))
end
end L2.DS
/-! Callees by one fact each; operators of several kinds by one rule each. -/
namespace L2.DS
open PySem PySem.Spec PyProof.Rows
/-- a def of the top, by its name -/
def Callee (P : Program) (w : World) (K : PySem.W.Frag) (mg : Str → Option Value) (base : Heap) (x : Str) (CX : CXT) (k : Nat) (ps : List Str) (dvs : List V) (sp : Sp) : Prop :=
  ∃ (f : Addr) (fd : FuncData) (ds : List Value), mg x = some (.ref f) ∧ PySem.W.keepIn K (.ref f) = true ∧ FnOk P w K mg base CX k f fd ps sp ∧ Binds K fd ps ds ∧ Vals dvs ds
/-- a method m of the class at C -/
def Method (P : Program) (w : World) (K : PySem.W.Frag) (mg : Str → Option Value) (base : Heap) (C : Addr) (m : Str) (CX : CXT) (k : Nat) (ps : List Str) (dvs : List V) (sp : Sp) : Prop :=
  ∃ (f : Addr) (fd : FuncData) (ds : List Value), Cls K C ∧ Meth K C m f ∧ FnOk P w K mg base CX k f fd ps sp ∧ Binds K fd ps ds ∧ Vals dvs ds
/-- a class of the top with an own __init__, made by its name -/
def Maker (P : Program) (w : World) (K : PySem.W.Frag) (mg : Str → Option Value) (base : Heap) (x : Str) (C : Addr) (CX : CXT) (k : Nat) (ps : List Str) (dvs : List V) (sp : Sp) : Prop :=
  ∃ (f : Addr) (fd : FuncData) (ds : List Value), mg x = some (.ref C) ∧ Mk K C f ∧ FnOk P w K mg base CX k f fd ps sp ∧ Binds K fd ps ds ∧ Vals dvs ds
section
variable {X : Cx} {CX : CXT} {k : Nat} {ps : List Str} {dvs : List V} {sp : Sp} {E : XK} {x m : Str} {C : Addr} {e o : Expr} {es : List Expr} {t : TA} {ta : TE} {p pos apos : Pos}
theorem pe_callC (c : Callee X.prog X.w X.K X.mg X.base x CX k ps dvs sp) (hr : Room k X.A) (hx : Passes CX X E) (ha : PA X (e :: es) t) (hg : Gl X x := by rfl) (hdb : (x == ("__debug__" : Str)) = false := by decide)
    (he : starEach (e :: es) X.env = (false, eval e X.env) :: starEach es X.env := by rfl) (hpl : (backTo pos (starEach es X.env)).any (·.1) = false := by rfl) : PE X (.Call (.Name x p) (e :: es) [] pos) (tCall sp dvs E t) := by
  obtain ⟨f, fd, ds, h1, h2, h3, h4, h5⟩ := c
  exact pe_call h3 hr hg h1 h2 h4 h5 hx ha hdb he hpl
theorem pe_methC {pl : Sem Bool} (c : Method X.prog X.w X.K X.mg X.base C m CX k ps dvs sp) (hr : Room k X.A) (hx : Passes CX X E) (ho : PE X o ta) (ha : PA X (e :: es) t)
    (hst : starEach (e :: es) X.env = (false, eval e X.env) :: starEach es X.env := by rfl) (hpl : (backTo pos (starEach es X.env)).any (·.1) = false := by rfl)
    (ht : eval (.Call (.Attribute o m apos) (e :: es) [] pos) X.env = (do
      let ov ← eval o X.env
      standAt apos.atName
      let (f, first) ← holding [ov] (getMethod ov m pl)
      callWith pos f first (backTo pos (starEach (e :: es) X.env)) (backToKw pos (keywordEach [] X.env))) := by rfl) :
    PE X (.Call (.Attribute o m apos) (e :: es) [] pos) (tMeth C m sp dvs E ta t) := by
  obtain ⟨f, fd, ds, h1, h2, h3, h4, h5⟩ := c
  exact pe_meth ho h1 h2 h3 hr h4 h5 hx ha hst hpl ht
theorem pe_makeC (c : Maker X.prog X.w X.K X.mg X.base x C CX k ps dvs sp) (hr : Room (k + 1) X.A) (hx : Passes CX X E) (ha : PA X (e :: es) t) (hg : Gl X x := by rfl) (hdb : (x == ("__debug__" : Str)) = false := by decide)
    (he : starEach (e :: es) X.env = (false, eval e X.env) :: starEach es X.env := by rfl) (hpl : (backTo pos (starEach es X.env)).any (·.1) = false := by rfl) : PE X (.Call (.Name x p) (e :: es) [] pos) (tMake C sp dvs E t) := by
  obtain ⟨f, fd, ds, h1, h2, h3, h4, h5⟩ := c
  exact pe_make h2 h3 hr hg h1 h4 h5 hx ha hdb he hpl
end
/-! ### operators of several kinds -/
def rAddS : R2 := fun x y H Q => ∃ i j, x = .str i ∧ y = .str j ∧ i.length + j.length ≤ sizeLine ∧ Q (.str (i ++ j)) H
def rMul : R2 := fun x y H Q => rI CMul (fun i j => .int (i * j)) x y H Q ∨ rI CMulW (fun i j => .int (i * j)) x y H Q
def rDiv : R2 := fun x y H Q => rI CDiv (fun i j => .int (i / j)) x y H Q ∨ rI CDivW (fun i j => .int (i / j)) x y H Q
def rMod : R2 := rI (fun _ j => 0 < j) fun i j => .int (i % j)
def rAdd2 : R2 := fun x y H Q => rI0 (fun i j => .int (i + j)) x y H Q ∨ rAddS x y H Q
def rAddA : R2 := fun x y H Q => rAdd2 x y H Q ∨ rCat x y H Q
def rSubI : R2 := rI0 fun i j => .int (i - j)
def rLtI : R2 := rI0 fun i j => .bl (decide (i < j))
def rLeI : R2 := rI0 fun i j => .bl (decide (i ≤ j))
def rGtI : R2 := rI0 fun i j => .bl (decide (j < i))
def rGeI : R2 := rI0 fun i j => .bl (decide (j ≤ i))
def rEqA (K : PySem.W.Frag) : R2 := fun x y H Q => rEq x y H Q ∨ rEqD K x y H Q
def rNeA (K : PySem.W.Frag) : R2 := fun x y H Q => rNe x y H Q ∨ rNeD K x y H Q
def rDGet : R2 := fun x y H Q => ∃ a v, x = .ref a ∧ DGet H a y (some v) ∧ Q v H
def rDIn (neg : Bool) : R2 := fun y x H Q => ∃ a o, x = .ref a ∧ DGet H a y o ∧ Q (.bl (if neg then !o.isSome else o.isSome)) H
def rInA (K : PySem.W.Frag) (neg : Bool) : R2 := fun x y H Q => rIn K neg x y H Q ∨ rDIn neg x y H Q
def rIxA (K : PySem.W.Frag) : R2 := fun x y H Q => rIx K x y H Q ∨ rDGet x y H Q
def rSetD : TSet := fun o i v H Q => ∃ a H', o = .ref a ∧ DPut H a i v H' ∧ Q H'
def rSetA : TSet := fun o i v H Q => rSetL o i v H Q ∨ rSetD o i v H Q
section
variable {X : Cx}
theorem op_addA : OpR X (binaryOp .Add) rAddA := OpR.or (OpR.or op_add op_add_str) op_cat
theorem op_mulA : OpR X (binaryOp .Mult) rMul := OpR.or op_mul op_mulW
theorem op_divA : OpR X (binaryOp .FloorDiv) rDiv := OpR.or op_fdiv op_fdivW
theorem op_modA : OpR X (binaryOp .Mod) rMod := op_mod
theorem op_subA : OpR X (binaryOp .Sub) rSubI := op_sub
theorem op_ltA : OpR X (compareOp .Lt) rLtI := op_lt
theorem op_leA : OpR X (compareOp .LtE) rLeI := op_le
theorem op_gtA : OpR X (compareOp .Gt) rGtI := op_gt
theorem op_geA : OpR X (compareOp .GtE) rGeI := op_ge
theorem op_eqA (K : PySem.W.Frag) (hu : X.A.units + 64 < cLine) (hK : X.K = K := by rfl) : OpR X (compareOp .Eq) (rEqA K) := by
  subst hK
  exact OpR.or op_eq (op_eqD hu)
theorem op_neA (K : PySem.W.Frag) (hu : X.A.units + 64 < cLine) (hK : X.K = K := by rfl) : OpR X (compareOp .NotEq) (rNeA K) := by
  subst hK
  exact OpR.or op_ne (op_neD hu)
theorem op_inDict (hu : X.A.units + 1 < cLine) : OpR X (compareOp .In) (rDIn false) := fun pins s σ H x y v u Q I rx ry q => by
  obtain ⟨a, o, rfl, g, q⟩ := q
  obtain rfl : u = Value.ref a := ry
  exact d_in hu I g rx fun s3 I3 => ⟨.bl o.isSome, H, I3, rfl, q⟩
theorem op_ninDict (hu : X.A.units + 1 < cLine) : OpR X (compareOp .NotIn) (rDIn true) := fun pins s σ H x y v u Q I rx ry q => by
  obtain ⟨a, o, rfl, g, q⟩ := q
  obtain rfl : u = Value.ref a := ry
  exact d_notIn hu I g rx fun s3 I3 => ⟨.bl (!o.isSome), H, I3, rfl, q⟩
theorem op_inA (K : PySem.W.Frag) (hu : X.A.units + 1 < cLine) (hK : X.K = K := by rfl) : OpR X (compareOp .In) (rInA K false) := by
  subst hK
  exact OpR.or op_in_seq (op_inDict hu)
theorem op_ninA (K : PySem.W.Frag) (hu : X.A.units + 1 < cLine) (hK : X.K = K := by rfl) : OpR X (compareOp .NotIn) (rInA K true) := by
  subst hK
  exact OpR.or op_notIn_seq (op_ninDict hu)
theorem set_dict (hu : X.A.units + 1 < cLine) : PSet X rSetD := fun pins s σ H o i v ov iv u Q I ro ri rv q => by
  obtain ⟨a, H', rfl, g, q⟩ := q
  obtain rfl : ov = Value.ref a := ro
  exact d_setItem hu I g ri rv fun s4 I4 => ⟨H', I4, q⟩
theorem set_any (hu : X.A.units + 1 < cLine) : PSet X rSetA := fun pins s σ H o i v ov iv u Q I ro ri rv q => by
  rcases q with q | q
  · exact set_list pins s σ H o i v ov iv u Q I ro ri rv q
  · exact set_dict hu pins s σ H o i v ov iv u Q I ro ri rv q
theorem ix_dict (hu : X.A.units + 1 < cLine) : IxR X rDGet := fun value slice pins s σ H x y v u Q I rx ry h hs => by
  obtain ⟨a, z, rfl, g, q⟩ := h
  obtain rfl : v = Value.ref a := rx
  exact tail_any (dict_typeIs I g) PySem.F.slot_dict_getitem.lookup (d_getItem hu I g ry fun w' s3 I3 rw' => ⟨z, H, I3, rw', q⟩) hs
theorem ix_any (K : PySem.W.Frag) (hu : X.A.units + 1 < cLine) (hK : X.K = K := by rfl) : IxR X (rIxA K) := by
  subst hK
  exact IxR.or ix_seq (ix_dict hu)
end
/-! ### calls of built-ins of several kinds -/
section
variable {X : Cx}
theorem CallR.or {f : Value} {r r' : List V → Hp → VK → Prop} (h : CallR X f r) (h' : CallR X f r') : CallR X f (fun xs H Q => r xs H Q ∨ r' xs H Q) := fun pins s σ H xs us Q I rv q => by
  rcases q with q | q
  · exact h pins s σ H xs us Q I rv q
  · exact h' pins s σ H xs us Q I rv q
def rLenQ (K : PySem.W.Frag) : List V → Hp → VK → Prop := fun xs H Q => ∃ p ys, xs = [.ref p] ∧ (SqL K H p ys ∨ SqT K H p ys) ∧ Q (.int ys.length) H
def rLenS : List V → Hp → VK → Prop := fun xs H Q => ∃ z : Str, xs = [.str z] ∧ z.length ≤ sizeLine ∧ Q (.int z.length) H
def rLenD : List V → Hp → VK → Prop := fun xs H Q => ∃ a kvs, xs = [V.ref a] ∧ H a = some (.dK kvs) ∧ Q (.int kvs.length) H
def rLen2 : List V → Hp → VK → Prop := fun xs H Q => rLenS xs H Q ∨ rLenD xs H Q
def rLenA (K : PySem.W.Frag) : List V → Hp → VK → Prop := fun xs H Q => rLenQ K xs H Q ∨ rLen2 xs H Q
theorem call_lenA (K : PySem.W.Frag) (hK : X.K = K := by rfl) : CallR X (.builtin "len") (rLenA K) := by
  subst hK
  exact CallR.or call_len_seq (CallR.or call_len_str call_lenD)
def rAbs : List V → Hp → VK → Prop := fun xs H Q => ∃ i, xs = [.int i] ∧ Q (.int (if i < 0 then -i else i)) H
theorem call_absA : CallR X (.builtin "abs") rAbs := call_abs
def rInt1 : List V → Hp → VK → Prop := fun xs H Q => ∃ i, xs = [.int i] ∧ Q (.int i) H
def rInt2 : List V → Hp → VK → Prop := fun xs H Q => ∃ k, xs = [.bl k] ∧ Q (.int (if k then 1 else 0)) H
def rIntA : List V → Hp → VK → Prop := fun xs H Q => rInt1 xs H Q ∨ rInt2 xs H Q
theorem call_intA : CallR X (.type "int") rIntA := call_int1
def rStrI : List V → Hp → VK → Prop := fun xs H Q => ∃ i : Int, xs = [.int i] ∧ i.natAbs.log2 < 1920 ∧ Q (.str (toString i)) H
theorem call_strA : CallR X (.type "str") rStrI := call_str_int
def rListQ (K : PySem.W.Frag) : List V → Hp → VK → Prop := fun xs H Q => ∃ p ys, xs = [.ref p] ∧ (SqL K H p ys ∨ SqT K H p ys) ∧ ∀ l, H l = none → Q (.ref l) (upd H l (.lst ys))
theorem call_listA (K : PySem.W.Frag) (hK : X.K = K := by rfl) : CallR X (.type "list") (rListQ K) := by
  subst hK
  exact call_list_of
def rTupQ (K : PySem.W.Frag) : List V → Hp → VK → Prop := fun xs H Q => ∃ p ys, xs = [.ref p] ∧ ((SqL K H p ys ∧ ∀ l, H l = none → Q (.ref l) (upd H l (.tup ys))) ∨ (SqT K H p ys ∧ Q (.ref p) H))
theorem call_tupleA (K : PySem.W.Frag) (hK : X.K = K := by rfl) : CallR X (.type "tuple") (rTupQ K) := by
  subst hK
  exact call_tuple_of
theorem call_isiA (K : PySem.W.Frag) (hK : X.K = K := by rfl) : CallR X (.builtin "isinstance") (rIsi K) := by
  subst hK
  exact call_isi
theorem call_anyA (K : PySem.W.Frag) (hc : X.calm = true := by rfl) (hK : X.K = K := by rfl) : CallR X (.builtin "any") (rAny K) := by
  subst hK
  exact cr_any hc
theorem call_allA (K : PySem.W.Frag) (hc : X.calm = true := by rfl) (hK : X.K = K := by rfl) : CallR X (.builtin "all") (rAll K) := by
  subst hK
  exact cr_all hc
end
/-! ### the written part told by its name -/
section
variable {X : Cx} {tg e o : Expr} {te ta : TE} {f : Str} {pos : Pos}
theorem pe_fldK (K : PySem.W.Frag) (he : PE X e te) (hb : attributeBase e f X.env (eval e X.env) = eval e X.env := by rfl) (hK : X.K = K := by rfl) : PE X (.Attribute e f pos) (tFld K te f) := by
  subst hK
  exact pe_fld he hb
theorem pi_listK (K : PySem.W.Frag) (hl : PE X e te) (hK : X.K = K := by rfl) : PI X tg e (iList K te) := by
  subst hK
  exact pi_list hl
theorem pi_tupK (K : PySem.W.Frag) (hl : PE X e te) (hK : X.K = K := by rfl) : PI X tg e (iTup K te) := by
  subst hK
  exact pi_tup hl
theorem sl_listK (K : PySem.W.Frag) (hK : X.K = K := by rfl) : SlR X (rSlL K) := by
  subst hK
  exact sl_list
end
end L2.DS
/-! What the operators of several kinds give. -/
namespace L2.DS
open PySem PySem.Spec PyProof.Rows
section
variable {S : SR} {n k ka kb kc : Nat} {te ta tb : TE} {tt : TT} {t : TA} {σ : L2.St} {K : PySem.W.Frag} {G : Hp} {R : HR} {x y z : V} {i j : Int} {s u : Str} {b c : Bool} {p : Addr} {xs ys : List V}
theorem ev_ifV (st : Stab S) (h : EvT S n kc tt σ G (fun b => b = c)) (h1 : c = true → Ev S (n + kc) ka ta σ G (IsV x)) (h2 : c = false → Ev S (n + kc) kb tb σ G (IsV y)) : Ev S n (kc + (ka + kb)) (tIf tt ta tb) σ G (IsV (if c then x else y)) :=
  ev_if st h (fun e => by rw [e]; exact h1 e) (fun e => by rw [e]; exact h2 e)
theorem v_add (st : Stab S) : RV S rAddA (.int i) (.int j) G (IsV (.int (i + j))) := rv_l (rv_l (rv_I0 st))
theorem v_adds (st : Stab S) (h : s.length + u.length ≤ sizeLine) : RV S rAddA (.str s) (.str u) G (IsV (.str (s ++ u))) := rv_l (rv_r (rv_val (fun H _ Q q => ⟨s, u, rfl, rfl, h, q⟩) st))
theorem v_sub (st : Stab S) : RV S rSubI (.int i) (.int j) G (IsV (.int (i - j))) := rv_I0 st
theorem v_mul (st : Stab S) (h : CMul i j) : RV S rMul (.int i) (.int j) G (IsV (.int (i * j))) := rv_l (rv_I st h)
theorem v_div (st : Stab S) (h : CDiv i j) : RV S rDiv (.int i) (.int j) G (IsV (.int (i / j))) := rv_l (rv_I st h)
theorem v_divW (st : Stab S) (h : CDivW i j) : RV S rDiv (.int i) (.int j) G (IsV (.int (i / j))) := rv_r (rv_I st h)
theorem v_mod (st : Stab S) (h : 0 < j) : RV S rMod (.int i) (.int j) G (IsV (.int (i % j))) := rv_I st h
theorem v_pow (st : Stab S) (h : CPow i j) : RV S (rI CPow fun i j => .int (i ^ j.toNat)) (.int i) (.int j) G (IsV (.int (i ^ j.toNat))) := rv_I st h
theorem v_lt (st : Stab S) : RV S rLtI (.int i) (.int j) G (IsV (.bl (decide (i < j)))) := rv_I0 st
theorem v_le (st : Stab S) : RV S rLeI (.int i) (.int j) G (IsV (.bl (decide (i ≤ j)))) := rv_I0 st
theorem v_gt (st : Stab S) : RV S rGtI (.int i) (.int j) G (IsV (.bl (decide (j < i)))) := rv_I0 st
theorem v_ge (st : Stab S) : RV S rGeI (.int i) (.int j) G (IsV (.bl (decide (j ≤ i)))) := rv_I0 st
theorem v_eq (st : Stab S) (h : scal x y = true) : RV S (rEqA K) x y G (IsV (.bl (decide (x = y)))) := rv_l (rv_eq st h)
theorem v_ne (st : Stab S) (h : scal x y = true) : RV S (rNeA K) x y G (IsV (.bl (!decide (x = y)))) := rv_l (rv_ne st h)
theorem v_eqI (st : Stab S) : RV S (rEqA K) (.int i) (.int j) G (IsV (.bl (decide (i = j)))) := by
  have e : decide (V.int i = V.int j) = decide (i = j) := by simp
  rw [← e]
  exact v_eq st rfl
theorem v_neI (st : Stab S) : RV S (rNeA K) (.int i) (.int j) G (IsV (.bl (!decide (i = j)))) := by
  have e : decide (V.int i = V.int j) = decide (i = j) := by simp
  rw [← e]
  exact v_ne st rfl
theorem v_eqB (st : Stab S) : RV S (rEqA K) (.bl b) (.bl c) G (IsV (.bl (decide (b = c)))) := by
  have e : decide (V.bl b = V.bl c) = decide (b = c) := by simp
  rw [← e]
  exact v_eq st rfl
theorem v_eqS (st : Stab S) : RV S (rEqA K) (.str s) (.str u) G (IsV (.bl (decide (s = u)))) := by
  have e : decide (V.str s = V.str u) = decide (s = u) := by simp
  rw [← e]
  exact v_eq st rfl
theorem v_neS (st : Stab S) : RV S (rNeA K) (.str s) (.str u) G (IsV (.bl (!decide (s = u)))) := by
  have e : decide (V.str s = V.str u) = decide (s = u) := by simp
  rw [← e]
  exact v_ne st rfl
theorem v_isN (st : Stab S) : RV S (fun x y H Q => y = .non ∧ Q (.bl (decide (x = .non))) H) x .non G (IsV (.bl (decide (x = .non)))) := rv_val (fun H _ Q q => ⟨rfl, q⟩) st
theorem v_notN (st : Stab S) : RV S (fun x y H Q => y = .non ∧ Q (.bl (!decide (x = .non))) H) x .non G (IsV (.bl (!decide (x = .non)))) := rv_val (fun H _ Q q => ⟨rfl, q⟩) st
theorem v_ixL (st : Stab S) (h : SqL K G p xs) (ha : atI xs i = some x) : RV S (rIxA K) (.ref p) (.int i) G (IsV x) := rv_l (rv_l (rv_ixL st h ha))
theorem v_ixT (st : Stab S) (h : SqT K G p xs) (ha : atI xs i = some x) : RV S (rIxA K) (.ref p) (.int i) G (IsV x) := rv_l (rv_r (rv_l (rv_ixT st h ha)))
theorem v_inL (st : Stab S) {neg : Bool} (h : SqL K G p xs) (hx : flatV x = true) (ha : xs.all flatV = true) : RV S (rInA K neg) x (.ref p) G (IsV (.bl (if neg then !inV x xs else inV x xs))) := rv_l (rv_val (fun H s Q q => ⟨p, xs, rfl, .inl (s.seq h), hx, ha, q⟩) st)
theorem v_inT (st : Stab S) {neg : Bool} (h : SqT K G p xs) (hx : flatV x = true) (ha : xs.all flatV = true) : RV S (rInA K neg) x (.ref p) G (IsV (.bl (if neg then !inV x xs else inV x xs))) := rv_l (rv_val (fun H s Q q => ⟨p, xs, rfl, .inr (same_t s h), hx, ha, q⟩) st)
theorem u_neg (st : Stab S) : RU S (rU fun i => .int (-i)) (.int i) G (IsV (.int (-i))) := ru_I st
theorem rc_val {r : List V → Hp → VK → Prop} {vs : List V} (h : ∀ H, Same G H → ∀ Q : VK, Q x H → r vs H Q) (st : Stab S) : RC S r vs G (IsV x) := fun n G1 H1 s0 s Q q => h H1 (s0.trans (st.sub s)) Q (q x G1 H1 (Stp.refl s) rfl)
theorem c_lenL (st : Stab S) (h : SqL K G p xs) : RC S (rLenA K) [.ref p] G (IsV (.int xs.length)) := rc_val (fun H s Q q => .inl ⟨p, xs, rfl, .inl (s.seq h), q⟩) st
theorem c_lenT (st : Stab S) (h : SqT K G p xs) : RC S (rLenA K) [.ref p] G (IsV (.int xs.length)) := rc_val (fun H s Q q => .inl ⟨p, xs, rfl, .inr (same_t s h), q⟩) st
theorem c_lenS (st : Stab S) (h : s.length ≤ sizeLine) : RC S (rLenA K) [.str s] G (IsV (.int s.length)) := rc_val (fun H _ Q q => .inr (.inl ⟨s, rfl, h, q⟩)) st
theorem c_abs (st : Stab S) : RC S rAbs [.int i] G (IsV (.int (if i < 0 then -i else i))) := rc_val (fun H _ Q q => ⟨i, rfl, q⟩) st
theorem c_int (st : Stab S) : RC S rIntA [.int i] G (IsV (.int i)) := rc_val (fun H _ Q q => .inl ⟨i, rfl, q⟩) st
theorem c_intB (st : Stab S) : RC S rIntA [.bl b] G (IsV (.int (if b then 1 else 0))) := rc_val (fun H _ Q q => .inr ⟨b, rfl, q⟩) st
theorem c_str (st : Stab S) (h : i.natAbs.log2 < 1920) : RC S rStrI [.int i] G (IsV (.str (toString i))) := rc_val (fun H _ Q q => ⟨i, rfl, h, q⟩) st
end
end L2.DS
/-! Loops and comprehensions. -/
namespace L2.DS
open PySem PySem.Spec PyProof.Rows
/-- a list of m things, the i-th as R i tells -/
def IsLR (K : PySem.W.Frag) (m : Nat) (R : Nat → HR) : HR := fun v G => ∃ p ys, v = .ref p ∧ SqL K G p ys ∧ ys.length = m ∧ ∀ i y, ys[i]? = some y → R i y G
instance (K m) (R : Nat → HR) [∀ i, Mon (R i)] : Mon (IsLR K m R) := ⟨fun s ⟨p, ys, e, h, l, r⟩ => ⟨p, ys, e, s.seq h, l, fun i y z => Mon.mon s (r i y z)⟩⟩
/-- .. newly made: it stood not in F -/
def IsLN (F : Hp) (m : Nat) (R : Nat → HR) : HR := fun v G => ∃ p ys, v = .ref p ∧ F p = none ∧ G p = some (.lst ys) ∧ ys.length = m ∧ ∀ i y, ys[i]? = some y → R i y G
instance (F m) (R : Nat → HR) [∀ i, Mon (R i)] : Mon (IsLN F m R) := ⟨fun s ⟨p, ys, e, f, h, l, r⟩ => ⟨p, ys, e, f, s _ _ h, l, fun i y z => Mon.mon s (r i y z)⟩⟩
theorem IsLN.lr {F : Hp} {K : PySem.W.Frag} {m : Nat} {R : Nat → HR} {v : V} {G : Hp} (h : IsLN F m R v G) : IsLR K m R v G := by
  obtain ⟨p, ys, e, _, h, l, r⟩ := h
  exact ⟨p, ys, e, SqL.of h, l, r⟩
theorem IsLN.wk {F F' : Hp} {m : Nat} {R : Nat → HR} {v : V} {G : Hp} (h : IsLN F m R v G) (s : Same F' F) : IsLN F' m R v G := by
  obtain ⟨p, ys, e, f, r⟩ := h
  exact ⟨p, ys, e, s.free f, r⟩
theorem isLR_V {K : PySem.W.Frag} {m : Nat} {f : Nat → V} {v : V} {G : Hp} (h : IsLR K m (fun i => IsV (f i)) v G) : IsL K ((List.range m).map f) v G := by
  obtain ⟨p, ys, e, h, l, r⟩ := h
  refine ⟨p, e, ?_⟩
  have z : ys = (List.range m).map f := by
    refine List.ext_getElem? fun i => ?_
    rw [List.getElem?_map]
    by_cases hi : i < m
    · rw [List.getElem?_range hi]
      have q : ys[i]? = some ys[i] := List.getElem?_eq_getElem (by omega)
      rw [q, show ys[i] = f i from r i _ q]
      rfl
    · rw [List.getElem?_eq_none (by omega), List.getElem?_eq_none (by rw [List.length_range]; omega)]
      rfl
  rw [← z]
  exact h
section
variable {S : SR} {n k c1 : Nat} {te el : TE} {tb u : TS} {σ : L2.St} {G H : Hp} {nx bk ct : L2.St → Hp → Prop} {rt : VK} {i : Nat} {K : PySem.W.Frag} {p : Addr} {xs : List V} {vs : List Nat}
/-- for x in xs -/
theorem q_forL (st : Stab S) (s : S n G H) (e : Ev S n k te σ G (IsV (.ref p))) (hq : SqL K G p xs) (c : Nat → Nat) (P : Nat → L2.St → Hp → Hp → Prop) (hc : c 0 = 0) (h0 : ∀ H', Kp S H H' → S (n + k) G H' → P 0 σ G H')
    (hs : ∀ j x σ' G' H', xs[j]? = some x → Same G G' → S (n + k + c j) G' H' → P j σ' G' H' →
      tb (Ends.mk (fun τ J => ∃ G2, Same G G2 ∧ S (n + k + c (j + 1)) G2 J ∧ P (j + 1) τ G2 J) rt (u (Ends.mk nx rt bk ct)) (fun τ J => ∃ G2, Same G G2 ∧ S (n + k + c (j + 1)) G2 J ∧ P (j + 1) τ G2 J)) (σ'.set i (some x)) H')
    (hd : ∀ σ' G' H', Same G G' → S (n + k + c xs.length) G' H' → P xs.length σ' G' H' → u (Ends.mk nx rt bk ct) σ' H') : tSeq (tFor (iList K te) (gName i) tb) u (Ends.mk nx rt bk ct) σ H := by
  refine e G H (Same.refl _) s _ fun v G1 H1 s1 ev => ?_
  have hs2 := st.anti s s1.s s1.g
  refine ⟨p, ev, ⟨xs, Same.seq (st.sub hs2) hq⟩, for_list (K := K) (a := p) (xs := xs) (fun j τ J => ∃ G2, Same G G2 ∧ S (n + k + c j) G2 J ∧ P j τ G2 J) ⟨G, Same.refl _, by rw [hc]; exact hs2, h0 H1 s1.k hs2⟩ (fun j τ J _ ⟨G2, a, b, _⟩ => (a.trans (st.sub b)).seq hq) (fun j x τ J hx ⟨G2, a, b, d⟩ => ?_) fun τ J ⟨G2, a, b, d⟩ => hd τ G2 J a b d⟩
  exact hs j x τ G2 J hx a b d
/-- for x in range(m) -/
theorem q_forR {m : Int} {ta : TA} (st : Stab S) (s : S n G H) (e : EvA S n k ta σ G (IsVs [.int m])) (c : Nat → Nat) (P : Nat → L2.St → Hp → Hp → Prop) (hc : c 0 = 0) (h1 : -(2 ^ 62) ≤ m) (h2 : m < 2 ^ 62) (h0 : ∀ H', Kp S H H' → S (n + k) G H' → P 0 σ G H')
    (hs : ∀ (j : Nat) σ' G' H', (j : Int) < m → Same G G' → S (n + k + c j) G' H' → P j σ' G' H' →
      tb (Ends.mk (fun τ J => ∃ G2, Same G G2 ∧ S (n + k + c (j + 1)) G2 J ∧ P (j + 1) τ G2 J) rt (u (Ends.mk nx rt bk ct)) (fun τ J => ∃ G2, Same G G2 ∧ S (n + k + c (j + 1)) G2 J ∧ P (j + 1) τ G2 J)) (σ'.set i (some (.int j))) H')
    (hd : ∀ σ' G' H', Same G G' → S (n + k + c m.toNat) G' H' → P m.toNat σ' G' H' → u (Ends.mk nx rt bk ct) σ' H') : tSeq (tFor (iRng1 ta) (gName i) tb) u (Ends.mk nx rt bk ct) σ H := by
  refine e G H (Same.refl _) s _ fun v G1 H1 s1 ev => ?_
  have hs2 := st.anti s s1.s s1.g
  refine ⟨m, ev, h1, h2, for_range (lo := 0) (n := m.toNat) (fun j τ J => ∃ G2, Same G G2 ∧ S (n + k + c j) G2 J ∧ P j τ G2 J) ⟨G, Same.refl _, by rw [hc]; exact hs2, h0 H1 s1.k hs2⟩ (fun j τ J hx ⟨G2, a, b, d⟩ => ?_) fun τ J ⟨G2, a, b, d⟩ => hd τ G2 J a b d⟩
  show tb _ (τ.set i (some (.int (0 + j)))) J
  rw [Int.zero_add]
  exact hs j τ G2 J (by omega) a b d
/-! ### comprehensions -/
/-- what holds while the list at D grows -/
def LcP (S : SR) (G2 H2 : Hp) (n c1 : Nat) (R : Nat → HR) (D : Addr) (j : Nat) (J : Hp) : Prop := ∃ G3 acc, Stp S (n + c1 * j) G2 H2 G3 J ∧ G3 D = none ∧ J D = some (.lst acc) ∧ acc.length = j ∧ ∀ j y, acc[j]? = some y → R j y G3
theorem lc_start (st : Stab S) {R : Nat → HR} {G2 H2 : Hp} {D : Addr} (a : S n G2 H2) (hD : H2 D = none) : LcP S G2 H2 n c1 R D 0 (upd H2 D (.lst [])) := by
  have gD : G2 D = none := (st.sub a).free hD
  have s1 : Same H2 (upd H2 D (.lst [])) := fun b o e => by
    rw [upd_ne (ne_of_none e hD)]
    exact e
  exact ⟨G2, [], ⟨Same.refl _, Kp.of s1, st.chg a hD a gD, fun _ _ h => .inl h⟩, gD, upd_same, rfl, fun j y z => by simp at z⟩
theorem lc_end (st : Stab S) {R : Nat → HR} [∀ i, Mon (R i)] {G1 H1 G2 H2 H : Hp} {D : Addr} {m : Nat} {Q : VK} (a : Stp S n G1 H1 G2 H2) (hD : H2 D = none) (h : LcP S G2 H2 n c1 R D m H)
    (q : ∀ v G' H', Stp S (n + c1 * m) G1 H1 G' H' → IsLN G1 m R v G' → Q v H') : Q (.ref D) H := by
  obtain ⟨G3, acc, s3, c, d, l, r⟩ := h
  have t := a.trans s3
  have g4 : Same G3 (upd G3 D (.lst acc)) := fun y o z => by
    rw [upd_ne (ne_of_none z c)]
    exact z
  refine q (.ref D) _ H ⟨t.g.trans g4, t.k, st.pub a.s hD s3.s c d, fun b o e => ?_⟩ ⟨D, acc, rfl, t.g.free c, upd_same, l, fun j y z => Mon.mon g4 (r j y z)⟩
  by_cases hb : b = D
  · rw [hb]
    exact .inr (a.k.v D hD)
  · rw [upd_ne hb] at e
    exact t.n b o e
theorem lc_turn (st : Stab S) {R : Nat → HR} [∀ i, Mon (R i)] {G2 H2 J : Hp} {D : Addr} {j : Nat} {el : TE} {τ : L2.St} {Nx : Hp → Prop} (a : S n G2 H2) (hD : H2 D = none) (h : LcP S G2 H2 n c1 R D j J) (hj : j < 100000)
    (hs : ∀ G', Same G2 G' → Ev S (n + c1 * j) c1 el τ G' (R j)) (hN : ∀ J', LcP S G2 H2 n c1 R D (j + 1) J' → Nx J') :
    tYes τ J fun b H3 => if b = true then el τ H3 fun y H4 => ∃ acc, H4 D = some (.lst acc) ∧ acc.length < sizeLine ∧ Nx (upd H4 D (.lst (acc ++ [y]))) else Nx H3 := by
  obtain ⟨G3, acc, s3, c, d, l, r⟩ := h
  show if true = true then el τ J (fun y H4 => ∃ acc, H4 D = some (.lst acc) ∧ acc.length < sizeLine ∧ Nx (upd H4 D (.lst (acc ++ [y])))) else Nx J
  rw [if_pos rfl]
  refine hs G3 s3.g G3 J (Same.refl _) s3.s _ fun y G4 J4 s4 ry => ?_
  have d4 : J4 D = some (.lst acc) := s4.k.k D _ (st.fre a hD) d
  have c4 : G4 D = none := by
    cases e : G4 D with
    | none => rfl
    | some o =>
      rcases s4.n D o e with q | q
      · rw [c] at q
        cases q
      · rw [d] at q
        cases q
  have t := s3.trans s4
  refine ⟨acc, d4, Nat.lt_of_lt_of_le (show acc.length < 100000 by omega) (by decide), hN _ ⟨G4, acc ++ [y], ⟨t.g, ⟨fun b o hm e => ?_, fun b e => ?_⟩, ?_, t.n⟩, c4, upd_same, by rw [List.length_append, l]; rfl, fun i z hz => ?_⟩⟩
  · rw [upd_ne (ne_of_none e hD)]
    exact t.k.k b o hm e
  · by_cases hb : b = D
    · rw [hb]
      exact hD
    · rw [upd_ne hb] at e
      exact t.k.v b e
  · have z := st.chg (o := .lst (acc ++ [y])) a hD t.s c4
    rw [Nat.mul_succ, ← Nat.add_assoc]
    exact z
  · by_cases hi : i < acc.length
    · rw [List.getElem?_append_left hi] at hz
      exact Mon.mon s4.g (r i z hz)
    · rw [List.getElem?_append_right (by omega)] at hz
      by_cases h0 : i - acc.length = 0
      · rw [h0] at hz
        have e : y = z := Option.some.inj hz
        rw [← e, show i = j by omega]
        exact ry
      · rw [List.getElem?_eq_none (by show 1 ≤ i - acc.length; omega)] at hz
        cases hz
/-- [el for x in xs] -/
theorem ev_lcL (st : Stab S) (R : Nat → HR) [∀ i, Mon (R i)] (e : Ev S n k te σ G (IsV (.ref p))) (hq : SqL K G p xs) (hl : xs.length ≤ 100000)
    (hs : ∀ j x G', xs[j]? = some x → Same G G' → Ev S (n + k + c1 * j) c1 el ((wipe σ vs).set i (some x)) G' (R j)) (hw : ∀ x : V, wipe ((wipe σ vs).set i (some x)) vs = wipe σ vs) :
    Ev S n (k + c1 * xs.length) (tLc (iList K te) (gName i) tYes el vs) σ G (IsLN G xs.length R) := fun G1 H1 s0 s Q q =>
  e G1 H1 s0 s _ fun v G2 H2 s2 ev => ⟨p, ev, ⟨xs, Same.seq (s0.trans (s2.g.trans (st.sub s2.s))) hq⟩, fun D hD =>
    lc_list (K := K) (a := p) (xs := xs) (LcP S G2 H2 (n + k) c1 R D) (lc_start st s2.s hD) (fun j J _ ⟨G3, acc, a, _⟩ => ((s0.trans s2.g).trans (a.g.trans (st.sub a.s))).seq hq)
      (fun j x J hx h => ⟨hw x, lc_turn st s2.s hD h (by have := (List.getElem?_eq_some_iff.mp hx).1; omega) (fun G' g => hs j x G' hx ((s0.trans s2.g).trans g)) fun _ h => h⟩)
      fun J h => lc_end st s2 hD h fun v G' H' a b => q v G' H' (by rw [← Nat.add_assoc]; exact a) (b.wk s0)⟩
/-- [el for x in range(m)] -/
theorem ev_lcR {m : Int} {ta : TA} (st : Stab S) (R : Nat → HR) [∀ i, Mon (R i)] (e : EvA S n k ta σ G (IsVs [.int m])) (h1 : -(2 ^ 62) ≤ m) (hl : m ≤ 100000)
    (hs : ∀ (j : Nat) G', (j : Int) < m → Same G G' → Ev S (n + k + c1 * j) c1 el ((wipe σ vs).set i (some (.int j))) G' (R j)) (hw : ∀ x : V, wipe ((wipe σ vs).set i (some x)) vs = wipe σ vs) :
    Ev S n (k + c1 * m.toNat) (tLc (iRng1 ta) (gName i) tYes el vs) σ G (IsLN G m.toNat R) := fun G1 H1 s0 s Q q =>
  e G1 H1 s0 s _ fun v G2 H2 s2 ev => ⟨m, ev, h1, by omega, fun D hD =>
    lc_range (lo := 0) (n := m.toNat) (LcP S G2 H2 (n + k) c1 R D) (lc_start st s2.s hD)
      (fun j J hx h => by
        show wipe ((wipe σ vs).set i (some (.int (0 + j)))) vs = _ ∧ tYes ((wipe σ vs).set i (some (.int (0 + j)))) J _
        rw [Int.zero_add]
        exact ⟨hw _, lc_turn st s2.s hD h (by omega) (fun G' g => hs j G' (by omega) ((s0.trans s2.g).trans g)) fun _ h => h⟩)
      fun J h => lc_end st s2 hD h fun v G' H' a b => q v G' H' (by rw [← Nat.add_assoc]; exact a) (b.wk s0)⟩
end
end L2.DS
/-! The script's source: a dict with its list of cells; what a pick leaves. -/
namespace L2.DS
open PySem PySem.Spec PyProof.Rows
theorem tC_run {x : V} {σ : L2.St} {H : Hp} {Q : VK} (h : Q x H) : tC x σ H Q := h
theorem tVar_run {i : Nat} {x : V} {σ : L2.St} {H : Hp} {Q : VK} (e : σ[i]? = some (some x)) (h : Q x H) : tVar i σ H Q := ⟨x, e, h⟩
def srcK (cl : Addr) (l m t : Int) : List (Key × V) := [(.inr ("cells" : Str), .ref cl), (.inr ("left" : Str), .int l), (.inr ("mixed" : Str), .int m), (.inr ("turn" : Str), .int t)]
def srcD (cl : Addr) (l m t : Int) : HO := .dK (srcK cl l m t)
theorem ne_lc : ¬ (Sum.inr ("cells" : Str) : Key) = .inr ("left" : Str) := by decide +kernel
theorem ne_mc : ¬ (Sum.inr ("cells" : Str) : Key) = .inr ("mixed" : Str) := by decide +kernel
theorem ne_tc : ¬ (Sum.inr ("cells" : Str) : Key) = .inr ("turn" : Str) := by decide +kernel
theorem ne_ml : ¬ (Sum.inr ("left" : Str) : Key) = .inr ("mixed" : Str) := by decide +kernel
theorem ne_tl : ¬ (Sum.inr ("left" : Str) : Key) = .inr ("turn" : Str) := by decide +kernel
theorem ne_tm : ¬ (Sum.inr ("mixed" : Str) : Key) = .inr ("turn" : Str) := by decide +kernel
theorem src_c {cl : Addr} {l m t : Int} : valV (srcK cl l m t) (.inr ("cells" : Str)) = some (.ref cl) := valV_pos rfl
theorem src_l {cl : Addr} {l m t : Int} : valV (srcK cl l m t) (.inr ("left" : Str)) = some (.int l) := (valV_neg ne_lc).trans (valV_pos rfl)
theorem src_m {cl : Addr} {l m t : Int} : valV (srcK cl l m t) (.inr ("mixed" : Str)) = some (.int m) := (valV_neg ne_mc).trans ((valV_neg ne_ml).trans (valV_pos rfl))
theorem src_t {cl : Addr} {l m t : Int} : valV (srcK cl l m t) (.inr ("turn" : Str)) = some (.int t) := (valV_neg ne_tc).trans ((valV_neg ne_tl).trans ((valV_neg ne_tm).trans (valV_pos rfl)))
theorem put_l {cl : Addr} {l m t l' : Int} : putK (srcK cl l m t) (.inr ("left" : Str)) (.int l') = srcK cl l' m t := by
  unfold putK
  rw [if_pos (by rw [valV_any, src_l]; rfl)]
  unfold srcK
  simp only [List.map_cons, List.map_nil, if_neg ne_lc, if_neg (fun z => ne_ml (Eq.symm z)), if_neg (fun z => ne_tl (Eq.symm z)), if_true]
theorem put_t {cl : Addr} {l m t t' : Int} : putK (srcK cl l m t) (.inr ("turn" : Str)) (.int t') = srcK cl l m t' := by
  unfold putK
  rw [if_pos (by rw [valV_any, src_t]; rfl)]
  unfold srcK
  simp only [List.map_cons, List.map_nil, if_neg ne_tc, if_neg ne_tl, if_neg ne_tm, if_true]
theorem src_len {cl : Addr} {l m t : Int} : (srcK cl l m t).length < sizeLine := by rw [sizeLine_eq]; show 4 < _; decide
/-- the source stands in the heap, n picks behind it -/
def SrcAt (st cl : Addr) (n : Nat) (H : Hp) : Prop := ∃ (cs : List Int) (l m t : Int), H st = some (srcD cl l m t) ∧ H cl = some (.lst (cs.map V.int)) ∧ (∀ c ∈ cs, 0 ≤ c) ∧ 0 ≤ l ∧ 0 ≤ m ∧ m < 2147483629 ∧ 0 ≤ t ∧ t ≤ n
theorem SrcAt.same {st cl : Addr} {n m : Nat} {H H' : Hp} (h : SrcAt st cl n H) (s : Same H H') (hn : n ≤ m) : SrcAt st cl m H' := by
  obtain ⟨cs, l, x, t, a, b, c, d, e, f, g, i⟩ := h
  exact ⟨cs, l, x, t, s _ _ a, s _ _ b, c, d, e, f, g, by omega⟩
/-- what stands is G; the source may change -/
def Src (st cl : Addr) : SR := ⟨fun n G H => Same G H ∧ G st = none ∧ G cl = none ∧ SrcAt st cl n H, fun a => a = st ∨ a = cl⟩
theorem SrcAt.ne {st cl : Addr} {n : Nat} {H : Hp} {D : Addr} (h : SrcAt st cl n H) (d : H D = none) : st ≠ D ∧ cl ≠ D := by
  obtain ⟨cs, l, x, t, a, b, _⟩ := h
  exact ⟨ne_of_none a d, ne_of_none b d⟩
theorem none_upd {G : Hp} {a D : Addr} {o : HO} (h : G a = none) (n : a ≠ D) : upd G D o a = none := by rw [upd_ne n]; exact h
theorem srcAt_upd {st cl : Addr} {n : Nat} {H : Hp} {D : Addr} {o : HO} (h : SrcAt st cl n H) (n1 : st ≠ D) (n2 : cl ≠ D) : SrcAt st cl n (upd H D o) := by
  obtain ⟨cs, l, x, t, a, b, r⟩ := h
  exact ⟨cs, l, x, t, by rw [upd_ne n1]; exact a, by rw [upd_ne n2]; exact b, r⟩
theorem grow_none {G H G' H' : Hp} {a : Addr} (g : Grow G H G' H') (h : G a = none) {o : HO} (e : H a = some o) : G' a = none := by
  cases q : G' a with
  | none => rfl
  | some u =>
    rcases g.n a u q with z | z
    · rw [h] at z
      cases z
    · rw [e] at z
      cases z
theorem stabS (st cl : Addr) : Stab (Src st cl) where
  sub := fun h => h.1
  wk := fun h hn => ⟨h.1, h.2.1, h.2.2.1, h.2.2.2.same (Same.refl _) hn⟩
  grow := fun {n G H G' H'} h g => by
    obtain ⟨h1, h2, h3, h4⟩ := h
    obtain ⟨cs, l, x, t, a, b, r⟩ := id h4
    exact ⟨g.s, grow_none g h2 a, grow_none g h3 b, h4.same g.h (Nat.le_refl _)⟩
  anti := fun h h' s => ⟨s.trans h'.1, h.2.1, h.2.2.1, h'.2.2.2⟩
  chg := fun {n m G H G' H' D o} h d h' g => by
    obtain ⟨n1, n2⟩ := h.2.2.2.ne d
    exact ⟨fun b u e => by rw [upd_ne (ne_of_none e g)]; exact h'.1 b u e, h'.2.1, h'.2.2.1, srcAt_upd h'.2.2.2 n1 n2⟩
  pub := fun {n m G H G' H' D o} h d h' g e => by
    obtain ⟨n1, n2⟩ := h.2.2.2.ne d
    exact ⟨fun b u z => by
      by_cases hb : b = D
      · rw [hb, upd_same] at z
        rw [hb, ← z]
        exact e
      · rw [upd_ne hb] at z
        exact h'.1 b u z, none_upd h'.2.1 n1, none_upd h'.2.2.1 n2, h'.2.2.2⟩
  fre := fun h d z => by
    obtain ⟨n1, n2⟩ := h.2.2.2.ne d
    rcases z with rfl | rfl
    · exact n1 rfl
    · exact n2 rfl
/-- a def that draws of the source: P source arguments so-far picks what-stands result -/
def spS (P : Addr → List V → Nat → Nat → Hp → HR → Prop) : Sp := fun vs H Q _ => ∃ st cl n k G R, Src st cl n G H ∧ P st vs n k G R ∧ ∀ v G' H', Stp (Src st cl) (n + k) G H G' H' → R v G' → Q v H'
section
variable {st cl : Addr} {n k ka kb : Nat} {t : TA} {te : TE} {σ : L2.St} {G : Hp} {R : HR} {RA : HRs}
theorem ev_callS {P : Addr → List V → Nat → Nat → Hp → HR → Prop} {dvs : List V} {E : XK} (h : EvA (Src st cl) n ka t σ G RA) (hp : ∀ vs G', Same G G' → RA vs G' → P st (vs ++ dvs) (n + ka) kb G' R) : Ev (Src st cl) n (ka + kb) (tCall (spS P) dvs E t) σ G R := fun G1 H1 s0 s Q q =>
  h G1 H1 s0 s _ fun vs G2 H2 s2 e => ⟨st, cl, n + ka, kb, G2, R, s2.s, hp vs G2 (s0.trans s2.g) e, fun v G' H' g r => q v G' H' (s2.trans g).up r⟩
theorem ev_callSV {P : Addr → List V → Nat → Nat → Hp → HR → Prop} {dvs ws : List V} {E : XK} (h : EvA (Src st cl) n ka t σ G (IsVs ws)) (hp : ∀ G', Same G G' → P st (ws ++ dvs) (n + ka) kb G' R) : Ev (Src st cl) n (ka + kb) (tCall (spS P) dvs E t) σ G R :=
  ev_callS h fun vs G' s e => by
    rw [show vs = ws from e]
    exact hp G' s
end
/-- the n-th pick of many -/
def PPick : Addr → List V → Nat → Nat → Hp → HR → Prop := fun st vs n k _ R => ∃ many : Int, vs = [.ref st, .int many] ∧ many < 2 ^ 2000 ∧ (many > 10 ^ 7 → n < 2 ^ 60) ∧ k = 1 ∧ R = IsI fun r => 0 ≤ r ∧ (r < many ∨ (many < 2 ∧ r = 0))
def sp_pick : Sp := spS PPick
theorem ev_pick {st cl : Addr} {n ka : Nat} {t : TA} {σ : L2.St} {G : Hp} {many : Int} {E : XK} (h : EvA (Src st cl) n ka t σ G (IsVs [.ref st, .int many])) (h1 : 1 ≤ many) (h2 : many ≤ 10 ^ 7) : Ev (Src st cl) n (ka + 1) (tCall sp_pick [] E t) σ G (IsI fun r => 0 ≤ r ∧ r < many) :=
  ev_callSV h fun G' s => ⟨many, rfl, Int.lt_of_le_of_lt h2 (by decide +kernel), fun z => by omega, rfl, by
    have e : (fun r : Int => 0 ≤ r ∧ (r < many ∨ (many < 2 ∧ r = 0))) = fun r => 0 ≤ r ∧ r < many := by
      funext r
      exact propext ⟨fun ⟨a, b⟩ => ⟨a, by omega⟩, fun ⟨a, b⟩ => ⟨a, .inl b⟩⟩
    rw [e]⟩
/-- the source made of a list of whole numbers: what is new stands at st and cl -/
def sp_source (K : PySem.W.Frag) : Sp := fun vs H Q _ => ∃ (p : Addr) (ns : List Int), vs = [.ref p] ∧ SqL K H p (ns.map V.int) ∧ ns.length ≤ 100000 ∧ ∀ st cl H', Same H H' → H st = none → H cl = none → SrcAt st cl 0 H' → Q (.ref st) H'
/-! ### dicts by keys of text -/
section
variable {S : SR} {K : PySem.W.Frag} {G : Hp} {a : Addr} {kvs : List (Key × V)} {k : Key} {v : V}
theorem v_ixD (st : Stab S) (h : G a = some (.dK kvs)) (hv : valV kvs k = some v) : RV S (rIxA K) (.ref a) (kV k) G (IsV v) := rv_r (rv_val (fun H s Q q => ⟨a, v, rfl, by rw [← hv]; exact DGet.k (s _ _ h), q⟩) st)
theorem v_ixDs (st : Stab S) {x : Str} (h : G a = some (.dK kvs)) (hv : valV kvs (.inr x) = some v) : RV S (rIxA K) (.ref a) (.str x) G (IsV v) := v_ixD (k := .inr x) st h hv
end
/-- names that are built in -/
structure Bi (mg : Str → Option Value) : Prop where
  z_int : mg "int" = none
  z_abs : mg "abs" = none
  z_range : mg "range" = none
  z_len : mg "len" = none
  z_isinstance : mg "isinstance" = none
  z_bool : mg "bool" = none
  z_str : mg "str" = none
  z_list : mg "list" = none
  z_tuple : mg "tuple" = none
  z_dict : mg "dict" = none
  z_enumerate : mg "enumerate" = none
  z_zip : mg "zip" = none
  z_reversed : mg "reversed" = none
  z_ValueError : mg "ValueError" = none
  z_LookupError : mg "LookupError" = none
  z_KeyError : mg "KeyError" = none
  z_Exception : mg "Exception" = none
  z_super : mg "super" = none
  z_sum : mg "sum" = none
  z_any : mg "any" = none
  z_all : mg "all" = none
  z_sorted : mg "sorted" = none
  z_max : mg "max" = none
  z_min : mg "min" = none
  z_NotImplementedError : mg "NotImplementedError" = none
  z_set : mg "set" = none
  z_repr : mg "repr" = none
end L2.DS
/-! New lists that grow; isinstance of data; data that is alike. -/
namespace L2.DS
open PySem PySem.Spec PyProof.Rows
theorem kp_new {S : SR} {H0 H : Hp} {p : Addr} {o : HO} (k : Kp S H0 H) (h : H0 p = none) : Kp S H0 (upd H p o) := ⟨fun b u m e => by
  rw [upd_ne (ne_of_none e h)]
  exact k.k b u m e, fun b e => by
  by_cases hb : b = p
  · rw [hb]
    exact h
  · rw [upd_ne hb] at e
    exact k.v b e⟩
section
variable {S : SR} {n n0 k : Nat} {t : TA} {u : TS} {σ : L2.St} {G H G0 H0 : Hp} {nx bk ct : L2.St → Hp → Prop} {rt : VK} {i j : Nat} {K : PySem.W.Frag} {p : Addr} {vs xs : List V} {x : V}
/-- a tuple, a list newly made -/
def IsNew (F : Hp) (o : HO) : HR := fun v G => ∃ p, v = .ref p ∧ F p = none ∧ G p = some o
instance (F o) : Mon (IsNew F o) := ⟨fun s ⟨p, e, f, h⟩ => ⟨p, e, f, s _ _ h⟩⟩
theorem ev_tupN (st : Stab S) (h : EvA S n k t σ G (IsVs vs)) (hl : vs.length ≤ 100000) : Ev S n k (tTup t) σ G (IsNew G (.tup vs)) := fun G1 H1 s0 s Q q =>
  h G1 H1 s0 s _ fun ws G2 H2 s2 e => by
    obtain rfl : ws = vs := e
    exact ⟨Nat.le_trans hl (by decide), fun p hp => q (.ref p) _ _ (s2.trans (st.new s2.s hp)) ⟨p, rfl, (s0.trans s2.g).free ((st.sub s2.s).free hp), upd_same⟩⟩
theorem ev_lstN (st : Stab S) (h : EvA S n k t σ G (IsVs vs)) (hl : vs.length ≤ 100000) : Ev S n k (tLst t) σ G (IsNew G (.lst vs)) := fun G1 H1 s0 s Q q =>
  h G1 H1 s0 s _ fun ws G2 H2 s2 e => by
    obtain rfl : ws = vs := e
    exact ⟨Nat.le_trans hl (by decide), fun p hp => q (.ref p) _ _ (s2.trans (st.new s2.s hp)) ⟨p, rfl, (s0.trans s2.g).free ((st.sub s2.s).free hp), upd_same⟩⟩
end
/-! ### isinstance of data -/
def tyS : PyData → String
  | .none => "NoneType" | .bool _ => "bool" | .int _ => "int" | .str _ => "str" | .list _ => "list" | .tuple _ => "tuple" | .dict _ => "dict"
theorem tyx_L {K : PySem.W.Frag} {G : Hp} {p : Addr} {xs : List V} (h : SqL K G p xs) : TyX K G (.ref p) (.type "list") := by
  rcases h with (h | ⟨o, h⟩) | ⟨o, its, n, h, c, _⟩
  · exact .base (.lst h)
  · exact .base (.frz h)
  · exact .kList h c
theorem tyx_T {K : PySem.W.Frag} {G : Hp} {p : Addr} {xs : List V} (h : SqT K G p xs) : TyX K G (.ref p) (.type "tuple") := by
  rcases h with (h | ⟨o, h⟩) | ⟨o, its, n, h, c, _⟩
  · exact .base (.tup h)
  · exact .fTuple h
  · exact .kTuple h c
theorem tyx_of {K : PySem.W.Frag} {G : Hp} : ∀ {v : V} {d : PyData}, Dp K G v d → TyX K G v (.type (tyS d))
  | _, _, .non => .base .non
  | _, _, .bl b => .base (.bl b)
  | _, _, .int i => .base (.int i)
  | _, _, .str s => .base (.str s)
  | _, _, .lst h _ => tyx_L h
  | _, _, .tup h _ => tyx_T h
theorem dp_nodict {K : PySem.W.Frag} {G : Hp} {v : V} {d : PyData} (h : Dp K G v d) : tyS d ∈ ["NoneType", "bool", "int", "str", "list", "tuple"] := by
  cases h <;> simp [tyS]
def isiB (T c : String) : Bool := (kitB T c).getD false
theorem kitB_all : ∀ T ∈ ["NoneType", "bool", "int", "str", "list", "tuple"], ∀ c ∈ ["bool", "str", "list", "tuple", "dict", "int"], kitB T c = some (isiB T c) := by decide +kernel
theorem kitB_d {K : PySem.W.Frag} {G : Hp} {v : V} {d : PyData} {c : String} (h : Dp K G v d) (hc : c ∈ ["bool", "str", "list", "tuple", "dict", "int"]) : kitB (tyS d) c = some (isiB (tyS d) c) := kitB_all _ (dp_nodict h) _ hc
section
variable {S : SR} {K : PySem.W.Frag} {G : Hp} {x : V} {d : PyData} {c : String}
theorem c_isiD (st : Stab S) (h : Dp K G x d) (hc : c ∈ ["bool", "str", "list", "tuple", "dict", "int"]) : RC S (rIsi K) [x, .ty c] G (IsV (.bl (isiB (tyS d) c))) :=
  rc_val (fun H s Q q => ⟨x, .ty c, .type (tyS d), .type c, _, rfl, .ty c, tyx_of (dp_mon s h), kit_ty (kitB_d h hc), q⟩) st
theorem atI_nat {xs : List V} {j : Nat} {v : V} (h : xs[j]? = some v) : atI xs (j : Int) = some v := by
  have hj := (List.getElem?_eq_some_iff.mp h).1
  have h1 : ixN xs.length ((j : Nat) : Int) = some j := by
    unfold ixN
    rw [if_pos (by omega), if_pos (by omega)]
    all_goals rfl
  unfold atI
  rw [h1]
  exact h
end
/-- a list or a tuple -/
def Sq (K : PySem.W.Frag) (G : Hp) (p : Addr) (xs : List V) : Prop := SqL K G p xs ∨ SqT K G p xs
theorem sq_mon {K : PySem.W.Frag} {G G' : Hp} {p : Addr} {xs : List V} (s : Same G G') (h : Sq K G p xs) : Sq K G' p xs := h.imp (fun h => s.seq h) (fun h => same_t s h)
/-- no list or tuple in it is long -/
inductive Sml : PyData → Prop where
  | non : Sml .none
  | bl (b : Bool) : Sml (.bool b)
  | int (i : Int) : Sml (.int i)
  | str (s : Str) : Sml (.str s)
  | lst {ds : List PyData} (h : ds.length ≤ 100000) (a : ∀ d ∈ ds, Sml d) : Sml (.list ds)
  | tup {ds : List PyData} (h : ds.length ≤ 100000) (a : ∀ d ∈ ds, Sml d) : Sml (.tuple ds)
theorem Sml.len {d : PyData} {ds : List PyData} (h : Sml d) (e : d = .list ds ∨ d = .tuple ds) : ds.length ≤ 100000 ∧ ∀ x ∈ ds, Sml x := by
  rcases e with rfl | rfl
  · cases h with
    | lst h a => exact ⟨h, a⟩
  · cases h with
    | tup h a => exact ⟨h, a⟩
end L2.DS
/-! One object that is being made: all else stands. -/
namespace L2.DS
open PySem PySem.Spec PyProof.Rows
/-- all but x stays -/
def MX (x : Addr) : SR := ⟨fun _ _ _ => True, fun a => a = x⟩
/-- G stands, at x stands o; since the heap was H0, with G0 standing, all but x stayed -/
def Own (G0 H0 : Hp) (x : Addr) (o : HO) : SR := ⟨fun _ G H => Same G H ∧ G x = none ∧ H x = some o ∧ Kp (MX x) H0 H ∧ Same G0 G ∧ ∀ b u, G b = some u → G0 b = some u ∨ H0 b = none, fun _ => False⟩
theorem stabO (G0 H0 : Hp) (x : Addr) (o : HO) : Stab (Own G0 H0 x o) where
  sub := fun h => h.1
  wk := fun h _ => h
  grow := fun {n G H G' H'} h g => ⟨g.s, grow_none g h.2.1 h.2.2.1, g.h _ _ h.2.2.1, h.2.2.2.1.trans (Kp.of g.h), h.2.2.2.2.1.trans g.g, fun b u e => by
    rcases g.n b u e with z | z
    · exact h.2.2.2.2.2 b u z
    · exact .inr (h.2.2.2.1.v b z)⟩
  anti := fun h h' s => ⟨s.trans h'.1, h.2.1, h'.2.2.1, h'.2.2.2.1, h.2.2.2.2.1, h.2.2.2.2.2⟩
  chg := fun {n m G H G' H' D u} h d h' g => by
    have hx : x ≠ D := ne_of_none h.2.2.1 d
    refine ⟨fun b v e => by rw [upd_ne (ne_of_none e g)]; exact h'.1 b v e, h'.2.1, by rw [upd_ne hx]; exact h'.2.2.1, ⟨fun b v nb e => ?_, fun b e => ?_⟩, h'.2.2.2.2.1, h'.2.2.2.2.2⟩
    · rw [upd_ne (ne_of_none e (h.2.2.2.1.v D d))]
      exact h'.2.2.2.1.k b v nb e
    · by_cases hb : b = D
      · rw [hb]
        exact h.2.2.2.1.v D d
      · rw [upd_ne hb] at e
        exact h'.2.2.2.1.v b e
  pub := fun {n m G H G' H' D u} h d h' g e => by
    have hx : x ≠ D := ne_of_none h.2.2.1 d
    have hD0 := h.2.2.2.1.v D d
    refine ⟨fun b v z => ?_, none_upd h'.2.1 hx, h'.2.2.1, h'.2.2.2.1, fun b v z => ?_, fun b v z => ?_⟩
    · by_cases hb : b = D
      · rw [hb, upd_same] at z
        rw [hb, ← z]
        exact e
      · rw [upd_ne hb] at z
        exact h'.1 b v z
    · have := h'.2.2.2.2.1 b v z
      rw [upd_ne (ne_of_none this g)]
      exact this
    · by_cases hb : b = D
      · rw [hb]
        exact .inr hD0
      · rw [upd_ne hb] at z
        exact h'.2.2.2.2.2 b v z
  fre := fun _ _ z => z
theorem own_start {G H : Hp} {x : Addr} {o : HO} (s : Same G H) (g : G x = none) (h : H x = some o) (n : Nat) : Own G H x o n G H := ⟨s, g, h, Kp.refl H, Same.refl G, fun _ _ e => .inl e⟩
/-- the object changes -/
theorem own_upd {G0 H0 G H : Hp} {x : Addr} {o u : HO} {n m : Nat} (h : Own G0 H0 x o n G H) : Own G0 H0 x u m G (upd H x u) := ⟨fun b v e => by
  have hb : b ≠ x := fun z => by
    rw [z, h.2.1] at e
    cases e
  rw [upd_ne hb]
  exact h.1 b v e, h.2.1, upd_same, kp_upd' h.2.2.2.1, h.2.2.2.2.1, h.2.2.2.2.2⟩
where
  kp_upd' {H0 H : Hp} {x : Addr} {u : HO} (k : Kp (MX x) H0 H) : Kp (MX x) H0 (upd H x u) := ⟨fun b v nb e => by
    rw [upd_ne nb]
    exact k.k b v nb e, fun b e => by
    by_cases hb : b = x
    · rw [hb, upd_same] at e
      cases e
    · rw [upd_ne hb] at e
      exact k.v b e⟩
/-- what stands, without x -/
def del (G : Hp) (x : Addr) : Hp := fun b => if b = x then none else G b
theorem del_ne {G : Hp} {x b : Addr} (h : b ≠ x) : del G x b = G b := if_neg h
theorem del_x {G : Hp} {x : Addr} : del G x x = none := if_pos rfl
/-- nothing is known but what stands -/
def All : SR := ⟨fun _ G H => Same G H, fun _ => False⟩
theorem stabA : Stab All where
  sub := fun h => h
  wk := fun h _ => h
  grow := fun h g => g.s
  anti := fun h h' s => Same.trans s h'
  chg := fun {n m G H G' H' D o} h d h' g b u e => by
    rw [upd_ne (ne_of_none e g)]
    exact h' b u e
  pub := fun {n m G H G' H' D o} h d h' g e b u z => by
    by_cases hb : b = D
    · rw [hb, upd_same] at z
      rw [hb, ← z]
      exact e
    · rw [upd_ne hb] at z
      exact h' b u z
  fre := fun _ _ z => z
/-- the object as it stands now is looked at -/
theorem ev_look {G0 H0 : Hp} {x : Addr} {o : HO} {n k : Nat} {te : TE} {σ : L2.St} {G : Hp} {R R' : HR} (h : ∀ G1, Same G G1 → G1 x = none → Ev All n k te σ (upd G1 x o) R) (hR : ∀ v G2, R v G2 → G2 x = some o → R' v (del G2 x)) : Ev (Own G0 H0 x o) n k te σ G R' := by
  intro G1 H1 s0 s Q q
  obtain ⟨s1, s2, s3, s4, s5, s6⟩ := s
  have a : Same (upd G1 x o) H1 := fun b u e => by
    by_cases hb : b = x
    · rw [hb, upd_same] at e
      rw [hb, ← e]
      exact s3
    · rw [upd_ne hb] at e
      exact s1 b u e
  refine h G1 s0 s2 (upd G1 x o) H1 (Same.refl _) a Q fun v G2 H2 t r => ?_
  have g2 : G2 x = some o := t.g _ _ upd_same
  have gg : Same G1 (del G2 x) := fun b u e => by
    have hb : b ≠ x := fun z => by
      rw [z, s2] at e
      cases e
    rw [del_ne hb]
    exact t.g b u (by rw [upd_ne hb]; exact e)
  have gh : Same (del G2 x) H2 := fun b u e => by
    by_cases hb : b = x
    · rw [hb, del_x] at e
      cases e
    · rw [del_ne hb] at e
      exact t.s b u e
  have hh : Same H1 H2 := fun b u e => t.k.k b u (fun z => z) e
  have nn : ∀ b u, del G2 x b = some u → G1 b = some u ∨ H1 b = none := fun b u e => by
    by_cases hb : b = x
    · rw [hb, del_x] at e
      cases e
    · rw [del_ne hb] at e
      rcases t.n b u e with z | z
      · rw [upd_ne hb] at z
        exact .inl z
      · exact .inr z
  exact q v (del G2 x) H2 ⟨gg, Kp.of hh, ⟨gh, del_x, hh _ _ s3, s4.trans (Kp.of hh), s5.trans gg, fun b u e => by
    rcases nn b u e with z | z
    · exact s6 b u z
    · exact .inr (s4.v b z)⟩, nn⟩ (hR v G2 r g2)
/-- what a promise of a def that fills an object in tells: P class fields arguments what-stands result; the result: object class fields what-stands -/
abbrev OR := Addr → Addr → List (Str × V) → Hp → Prop
def spI (P : Addr → List (Str × V) → List V → Hp → OR → Prop) : Sp := fun vs H Q _ => ∃ x C dx fs rest G R, vs = .ref x :: rest ∧ H x = some (.ins C dx fs) ∧ Same G H ∧ G x = none ∧ P C fs rest G R ∧
  ∀ fs' G' H', Own G H x (.ins C dx fs') 0 G' H' → R x C fs' G' → Q .non H'
/-- an object as R tells -/
def IsO (C : Addr) (R : OR) : HR := fun v G => ∃ x dx fs G', v = .ref x ∧ G' x = none ∧ Same (upd G' x (.ins C dx fs)) G ∧ R x C fs G'
instance (C R) : Mon (IsO C R) := ⟨fun s ⟨x, dx, fs, G', e, h, t, r⟩ => ⟨x, dx, fs, G', e, h, t.trans s, r⟩⟩
section
variable {S : SR} {n k : Nat} {t tk : TA} {σ : L2.St} {G H : Hp} {R : OR} {RA : HRs} {C : Addr} {E : XK} {dvs : List V}
theorem made_stp (st : Stab S) {x dx : Addr} (s : S n G H) (hx : H x = none) (hd : H dx = none) (nd : dx ≠ x) {fs : List (Str × V)} {G' H' : Hp} (w : Own G (upd (upd H dx (.own x)) x (.ins C dx [])) x (.ins C dx fs) 0 G' H') : Stp S n G H (upd G' x (.ins C dx fs)) H' := by
  obtain ⟨w1, w2, w3, w4, w5, w6⟩ := w
  have hH : Same H H' := fun b o e => w4.k b o (ne_of_none e hx) (by rw [upd_ne (ne_of_none e hx), upd_ne (ne_of_none e hd)]; exact e)
  have hG : Same G (upd G' x (.ins C dx fs)) := fun b o e => by
    have e' := w5 b o e
    rw [upd_ne (ne_of_none e' w2)]
    exact e'
  have nn : ∀ b o, upd G' x (.ins C dx fs) b = some o → G b = some o ∨ H b = none := fun b o e => by
    by_cases hb : b = x
    · rw [hb]
      exact .inr hx
    · rw [upd_ne hb] at e
      rcases w6 b o e with z | z
      · exact .inl z
      · refine .inr ?_
        rw [upd_ne hb] at z
        by_cases hb2 : b = dx
        · rw [hb2]
          exact hd
        · rw [upd_ne hb2] at z
          exact z
  have hS : Same (upd G' x (.ins C dx fs)) H' := fun b o e => by
    by_cases hb : b = x
    · rw [hb, upd_same] at e
      rw [hb, ← e]
      exact w3
    · rw [upd_ne hb] at e
      exact w1 b o e
  exact ⟨hG, Kp.of hH, st.grow s ⟨hG, hH, hS, nn⟩, nn⟩
theorem made_start (st : Stab S) {x dx : Addr} (s : S n G H) (hx : H x = none) (hd : H dx = none) : Same G (upd (upd H dx (.own x)) x (.ins C dx [])) ∧ G x = none := by
  have sG := st.sub s
  exact ⟨fun b o e => by rw [upd_ne (ne_of_none (sG b o e) hx), upd_ne (ne_of_none (sG b o e) hd)]; exact sG b o e, sG.free hx⟩
/-- C(..) -/
theorem ev_make (st : Stab S) {P : Addr → List (Str × V) → List V → Hp → OR → Prop} (h : EvA S n k t σ G RA) (hp : ∀ vs G', Same G G' → RA vs G' → P C [] (vs ++ dvs) G' R) : Ev S n k (tMake C (spI P) dvs E t) σ G (IsO C R) := fun G1 H1 s0 s Q q =>
  h G1 H1 s0 s _ fun vs G2 H2 s2 e x dx hx hd nd => by
    obtain ⟨a, b⟩ := made_start (C := C) (x := x) (dx := dx) st s2.s hx hd
    refine ⟨x, C, dx, [], vs ++ dvs, G2, R, rfl, upd_same, a, b, hp vs G2 (s0.trans s2.g) e, fun fs' G' H' w r => ⟨rfl, ?_⟩⟩
    exact q (.ref x) _ H' (s2.trans (made_stp st s2.s hx hd nd w)) ⟨x, dx, fs', G', rfl, w.2.1, Same.refl _, r⟩
end
end L2.DS
/-! Defs with defaults; defs that say super().__init__, with defaults; how their arguments are bound. -/
namespace L2.DS
open PySem PySem.Spec PyProof.Rows
section
variable {P : Program} {w : World} {K : PySem.W.Frag} {mg : Str → Option Value} {base : Heap} {x qual : Str} {params : Arguments} {body : List Stmt} {scope : Scope} {dvs : List V} {kws : List (Str × V)} {f : Addr} {fd : FuncData}
/-- a def with defaults that lets nothing out -/
theorem okD {N ps : List Str} {k : Nat} {sp : Sp} (F : FunD K x qual params body scope dvs kws f fd) (S : FnScope N ps scope) (len : ∀ vs H Q E, sp vs H Q E → vs.length = ps.length)
    (hbody : ∀ (cdv : Value) (A : Around) (outer : List Env) (s : Shared) (H : Hp) (vs : List V) (Q : VK) (E : XK), Room k (A.deeper (envOfC qual scope s.heap.objs.size f cdv)) → sp vs H Q E →
      ∃ t, PSs (cxOf CX0 P w K mg base N qual scope f cdv A outer s H E).nox body t ∧ t { nx := fun _ H' => Q .non H', rt := Q } (start N vs) H) : FnOk P w K mg base CX0 (k + 1) f fd ps sp :=
  F.ok S len fun cdv A outer s H vs Q E hr hsp => by
    obtain ⟨t, h, q⟩ := hbody cdv A outer s H vs Q E hr hsp
    exact ⟨t, h.nox, q⟩
end
/-- a def that says super().__init__, its defaults dvs and kws -/
structure FunSD (prog : Program) (K : PySem.W.Frag) (x qual : Str) (st : Stmt) (dvs : List V) (kws : List (Str × V)) (f : Addr) (fd : FuncData) (D : Addr) : Prop where
  ex : ∃ (oc : Value) (od : Option Addr) (dV kV doc pm : Value) (an : Option Addr) (cda : Addr) (ct : Value) (osl : Array (Option Value)) (cc : Addr) (ol : Obj) (vs : Array Value) (file : Str) (tf : Tok) (ccl : Value) (ccd : Option Addr) (csl : Array (Option Value)),
    fd = PySem.W.fnX x qual (defArgs st) (defBody st) (defScope st) [("__class__", cc)] dV kV doc pm an (.ref cda) ct ∧ K.lookup f = some ⟨oc, od, .func fd, osl⟩ ∧ PySem.W.codeIn K (.ref cda) qual = true ∧
    K.lookup cda = some ol ∧ ol.data = .fields vs ∧ vs[2]? = some (.str file tf) ∧ ((prog.main.file : Str) == file) = true ∧ K.lookup cc = some ⟨ccl, ccd, .cell (some (.ref D)), csl⟩ ∧ DflV K dV dvs ∧ KwdV K kV kws
  cls : ∃ oD cd, K.lookup D = some oD ∧ oD.data = .cls cd
  kp : PySem.W.keepIn K (.ref f) = true
  fi : PySem.W.fnIn K f = true
  ty : PySem.W.typeIn K (.ref f) = some (.type "function")
section
variable {prog : Program} {K : PySem.W.Frag} {x qual : Str} {st : Stmt} {dvs : List V} {kws : List (Str × V)} {f D : Addr} {fd : FuncData} {ps : List Str}
theorem FunSD.toS (F : FunSD prog K x qual st dvs kws f fd D) : FunS prog K x qual st f fd D := by
  obtain ⟨oc, od, dV, kV, doc, pm, an, cda, ct, osl, cc, ol, vs, file, tf, ccl, ccd, csl, h1, h2, h3, h4, h5, h6, h7, h8, _⟩ := F.ex
  exact ⟨⟨oc, od, dV, kV, doc, pm, an, cda, ct, osl, cc, ol, vs, file, tf, ccl, ccd, csl, h1, h2, h3, h4, h5, h6, h7, h8⟩, F.cls, F.kp, F.fi, F.ty⟩
/-- every parameter is written -/
theorem FunSD.bindsN (F : FunSD prog K x qual st [] kws f fd D)
    (h : ∀ (cc : Addr) (kV doc pm : Value) (an : Option Addr) (cdv ct : Value) (us : List Value), us.length = ps.length → bindArgs (PySem.W.fnX x qual (defArgs st) (defBody st) (defScope st) [("__class__", cc)] .none kV doc pm an cdv ct) ⟨us, []⟩ = pure (ps.zip us)) : Binds K fd ps [] := by
  obtain ⟨oc, od, dV, kV, doc, pm, an, cda, ct, osl, cc, ol, vs, file, tf, ccl, ccd, csl, rfl, h2, h3, h4, h5, h6, h7, h8, hD, hK⟩ := F.ex
  rcases hD with ⟨_, rfl⟩ | ⟨e, _⟩
  · exact .all (h cc kV doc pm an (.ref cda) ct)
  · exact absurd rfl e
/-- C(e, .., k = v, ..), no positional defaults: ms the keyword-only parameters that lack -/
theorem FunSD.kbinds0 (F : FunSD prog K x qual st [] kws f fd D) (n : Nat) (ks : List Str) (ms : List (Str × V)) (g : {α : Type} → List α → List α → List α → List α) (hk : kws ≠ []) (hms : ∀ q ∈ ms, q ∈ kws)
    (hrel : ∀ {vs mz zs : List V} {us mv ws : List Value}, Vals vs us → Vals mz mv → Vals zs ws → Vals (g vs mz zs) (g us mv ws))
    (h : ∀ (cc D : Addr) (doc pm : Value) (an : Option Addr) (cdv ct : Value) (us mv ws : List Value), us.length = n → mv.length = ms.length → ws.length = ks.length →
      KwChain D ((ms.map (·.1)).zip mv) (bindArgs (PySem.W.fnX x qual (defArgs st) (defBody st) (defScope st) [("__class__", cc)] .none (.ref D) doc pm an cdv ct) ⟨us, ks.zip ws⟩) (ps.zip (g us mv ws))) :
    ∃ mv : List Value, KBn K fd ps n ks (fun us ws => g us mv ws) (fun vs zs => g vs (ms.map (·.2)) zs) := by
  obtain ⟨oc, od, dV, kV, doc, pm, an, cda, ct, osl, cc, ol, vs, file, tf, ccl, ccd, csl, rfl, h2, h3, h4, h5, h6, h7, h8, hD, hK⟩ := F.ex
  rcases hD with ⟨_, rfl⟩ | ⟨e, _⟩
  · rcases hK with e | ⟨D, rfl, hq⟩
    · exact absurd e hk
    · obtain ⟨mv, hl, rk, hks⟩ := kwd_vals (ms := ms) fun q hm => hq q (hms q hm)
      exact ⟨mv, ⟨fun s us ws X l1 l2 => BindsTo.of_looks fun M => KwChain.looks X hks (h cc D doc pm an (.ref cda) ct us mv ws l1 hl l2), fun r1 r2 => hrel r1 rk r2⟩⟩
  · exact absurd rfl e
/-- C(e, ..) with all keyword-only parameters lacking -/
theorem FunSD.binds0 (F : FunSD prog K x qual st [] kws f fd D) (n : Nat) (hk : kws ≠ []) (hn : n + kws.length = ps.length)
    (h : ∀ (cc D : Addr) (doc pm : Value) (an : Option Addr) (cdv ct : Value) (us ks : List Value), us.length = n → ks.length = kws.length →
      KwChain D ((kws.map (·.1)).zip ks) (bindArgs (PySem.W.fnX x qual (defArgs st) (defBody st) (defScope st) [("__class__", cc)] .none (.ref D) doc pm an cdv ct) ⟨us, []⟩) (ps.zip (us ++ ks))) : ∃ ds, Vals (kws.map (·.2)) ds ∧ Binds K fd ps ds := by
  obtain ⟨oc, od, dV, kV, doc, pm, an, cda, ct, osl, cc, ol, vs, file, tf, ccl, ccd, csl, rfl, h2, h3, h4, h5, h6, h7, h8, hD, hK⟩ := F.ex
  rcases hD with ⟨_, rfl⟩ | ⟨e, _⟩
  · rcases hK with e | ⟨D, rfl, hq⟩
    · exact absurd e hk
    · obtain ⟨ks, hl, rk, hks⟩ := kwd_vals hq
      refine ⟨ks, rk, fun s us X hlen => ?_⟩
      have l2 : us.length = n := by
        rw [List.length_append, hl] at hlen
        omega
      exact BindsTo.of_looks fun M => KwChain.looks X hks (h cc D doc pm an (.ref cda) ct us ks l2 hl)
  · exact absurd rfl e
end
/-- the def that super().__init__ finds -/
def SupC (P : Program) (w : World) (K : PySem.W.Frag) (mg : Str → Option Value) (base : Heap) (f2 : Addr) (CX : CXT) (k : Nat) (ps : List Str) (dvs : List V) (sp : Sp) : Prop :=
  ∃ (fd : FuncData) (ds : List Value), FnOk P w K mg base CX k f2 fd ps sp ∧ Binds K fd ps ds ∧ Vals dvs ds ∧ PySem.W.fnIn K f2 = true ∧ PySem.W.typeIn K (.ref f2) = some (.type "function")
section
variable {X : Cx} {body sts : List Stmt} {u : TS} {D : Addr} {ar : Str} {CX : CXT} {k : Nat} {f2 : Addr} {ps : List Str} {sp : Sp} {dvs : List V} {E : XK} {e : Expr} {es : List Expr} {ta : TA} {p0 p1 ap pos pos' : Pos} {pl : Sem Bool}
theorem psa_supC (S : SupAt X D ar) (hN : X.N[0]? = some ar) (hv : Own1 X.env.scope ar) (c : SupC X.prog X.w X.K X.mg X.base f2 CX k ps dvs sp) (hr : Room k X.A) (hx : Passes CX X E) (ha : PA X (e :: es) ta) (hr2 : PSA X body sts u)
    (he : eval (.Call (.Attribute (.Call (.Name "super" p0) [] [] p1) "__init__" ap) (e :: es) [] pos) X.env = (do
      let ov ← attributeBase (.Call (.Name "super" p0) [] [] p1) "__init__" X.env (eval (.Call (.Name "super" p0) [] [] p1) X.env)
      standAt ap.atName
      let (f, first) ← holding [ov] (getMethod ov "__init__" pl)
      callWith pos f first (backTo pos (starEach (e :: es) X.env)) []) := by rfl)
    (hst : starEach (e :: es) X.env = (false, eval e X.env) :: starEach es X.env := by rfl) (hpl : (backTo pos (starEach es X.env)).any (·.1) = false := by rfl)
    (hs : swapsWith (.Call (.Attribute (.Call (.Name "super" p0) [] [] p1) "__init__" ap) (e :: es) [] pos) none pos'.line X.env = pure false := by rfl) :
    PSA X body (.Expr (.Call (.Attribute (.Call (.Name "super" p0) [] [] p1) "__init__" ap) (e :: es) [] pos) pos' :: sts) (tSeq (tSup X.K D f2 sp dvs E ta) u) := by
  obtain ⟨fd, ds, F, hb, hd, hf, ht⟩ := c
  exact psa_sup S hN hv F hr hb hd hx hf ht ha hr2 he hst hpl hs
end
/-- a class made by its name with keywords -/
def MakerK (P : Program) (w : World) (K : PySem.W.Frag) (mg : Str → Option Value) (base : Heap) (x : Str) (C : Addr) (CX : CXT) (k : Nat) (ps : List Str) (n : Nat) (ks : List Str) (gV : List V → List V → List V) (sp : Sp) : Prop :=
  ∃ (f : Addr) (fd : FuncData) (g : List Value → List Value → List Value), mg x = some (.ref C) ∧ Mk K C f ∧ FnOk P w K mg base CX k f fd ps sp ∧ KBn K fd ps (n + 1) ks g gV
section
variable {X : Cx} {CX : CXT} {k n : Nat} {C : Addr} {ps ks : List Str} {gV : List V → List V → List V} {sp : Sp} {E : XK} {x : Str} {p pos : Pos} {e : Expr} {es : List Expr} {kws : List Keyword} {t tk : TA}
theorem pe_makeKC (c : MakerK X.prog X.w X.K X.mg X.base x C CX k ps n ks gV sp) (hr : Room (k + 1) X.A) (hx : Passes CX X E) (ha : PA X (e :: es) t) (hkw : PK X kws tk) (hg : Gl X x := by rfl)
    (hall : (backToKw pos (keywordEach kws X.env)).all (·.1.isSome) = true := by rfl) (hks : (backToKw pos (keywordEach kws X.env)).filterMap (·.1) = ks := by rfl) (hdb : (x == ("__debug__" : Str)) = false := by decide)
    (he : starEach (e :: es) X.env = (false, eval e X.env) :: starEach es X.env := by rfl) (hpl : ((backTo pos (starEach (e :: es) X.env)).any (·.1) || (backToKw pos (keywordEach kws X.env)).any (·.1.isNone)) = false := by rfl) :
    PE X (.Call (.Name x p) (e :: es) kws pos) (tMakeK C n ks.length sp gV E t tk) := by
  obtain ⟨f, fd, g, h1, h2, h3, h4⟩ := c
  exact pe_makeK h2 h3 hr hg h1 h4 hx ha hkw hall hks hdb he hpl
end
/-! ### statements on the object that is being made -/
section
variable {G0 H0 G H : Hp} {x C dx : Addr} {fs : List (Str × V)} {n k i : Nat} {te : TE} {u : TS} {σ : L2.St} {nx bk ct : L2.St → Hp → Prop} {rt : VK} {K : PySem.W.Frag} {f : Str} {R : HR} {v : V}
theorem q_fldO (s : Own G0 H0 x (.ins C dx fs) n G H) (e : Ev (Own G0 H0 x (.ins C dx fs)) n k te σ G R) (hx : σ[i]? = some (some (.ref x))) (hc : Cls K C) (hn : NoAttr K C f) (hl : fs.length < 1000)
    (h : ∀ v G' H', Same G G' → Own G0 H0 x (.ins C dx (putF f v fs)) (n + k) G' H' → R v G' → u (Ends.mk nx rt bk ct) σ H') : tSeq (sFld K (tVar i) te f) u (Ends.mk nx rt bk ct) σ H :=
  e G H (Same.refl _) s _ fun v G' H' s1 r => ⟨_, hx, x, C, dx, fs, rfl, s1.s.2.2.1, hc, hn, hl, h v G' _ s1.g (own_upd s1.s) r⟩
theorem q_fldV (s : Own G0 H0 x (.ins C dx fs) n G H) (e : Ev (Own G0 H0 x (.ins C dx fs)) n k te σ G (IsV v)) (hx : σ[i]? = some (some (.ref x))) (hc : Cls K C) (hn : NoAttr K C f) (hl : fs.length < 1000)
    (h : ∀ H', Own G0 H0 x (.ins C dx (putF f v fs)) (n + k) G H' → u (Ends.mk nx rt bk ct) σ H') : tSeq (sFld K (tVar i) te f) u (Ends.mk nx rt bk ct) σ H :=
  e G H (Same.refl _) s _ fun w G' H' s1 r => ⟨_, hx, x, C, dx, fs, rfl, s1.s.2.2.1, hc, hn, hl, by
    rw [show w = v from r]
    exact h _ (own_upd ((stabO _ _ _ _).anti s s1.s s1.g))⟩
theorem own_trans {G' H' : Hp} {o u : HO} {m m' : Nat} (a : Own G0 H0 x o m G H) (b : Own G H x u m' G' H') (l : Nat) : Own G0 H0 x u l G' H' := ⟨b.1, b.2.1, b.2.2.1, a.2.2.2.1.trans b.2.2.2.1, a.2.2.2.2.1.trans b.2.2.2.2.1, fun c w e => by
  rcases b.2.2.2.2.2 c w e with z | z
  · exact a.2.2.2.2.2 c w z
  · exact .inr (a.2.2.2.1.v c z)⟩
theorem own_n {o : HO} {m l : Nat} (a : Own G0 H0 x o m G H) : Own G0 H0 x o l G H := a
/-- super().__init__(..) -/
theorem q_supO {P : Addr → List (Str × V) → List V → Hp → OR → Prop} {D f2 : Addr} {dvs : List V} {E : XK} {ta : TA} {RA : HRs} {RO : OR} (s : Own G0 H0 x (.ins C dx fs) n G H) (h0 : σ[0]? = some (some (.ref x))) (hm : PySem.W.mroIn K C (.ref D) = some true) (hf : PySem.W.ks_superIn K C D "__init__" = some (some (.ref f2)))
    (h : EvA (Own G0 H0 x (.ins C dx fs)) n k ta σ G RA) (hp : ∀ vs G', Same G G' → RA vs G' → P C fs (vs ++ dvs) G' RO) (hq : ∀ fs' G' H', Same G G' → Own G0 H0 x (.ins C dx fs') 0 G' H' → RO x C fs' G' → u (Ends.mk nx rt bk ct) σ H') :
    tSeq (tSup K D f2 (spI P) dvs E ta) u (Ends.mk nx rt bk ct) σ H :=
  ⟨x, C, dx, fs, h0, s.2.2.1, hm, hf, h G H (Same.refl _) s _ fun vs G' H' s1 r => ⟨x, C, dx, fs, vs ++ dvs, G', RO, rfl, s1.s.2.2.1, s1.s.1, s1.s.2.1, hp vs G' s1.g r, fun fs' G2 H2 w ro => hq fs' G2 H2 (s1.g.trans w.2.2.2.2.1) (own_trans s1.s w 0) ro⟩⟩
end
end L2.DS
/-! Tuples with methods, starred displays, dicts by enumerate, texts in parts. -/
namespace L2.DS
open PySem PySem.Spec PyProof.Rows
/-- a new tuple whose object is known to be plain -/
def tTupF (t : TA) : TE := fun σ H Q => t σ H fun xs H1 => xs.length ≤ sizeLine ∧ ∀ (p : Addr) (o : Obj), H1 p = none → o.cls = .type "tuple" → o.dict = none → Q (.ref p) (upd H1 p (.frz o (.tup xs)))
theorem pe_tupF {X : Cx} {es : List Expr} {t : TA} {x1 : Nat} {pos : Pos} (h : PA X es t) : PE X (.Tuple es x1 pos) (tTupF t) := by
  refine ⟨fun pins s σ H Q I hq => ?_⟩
  refine wpAny_Tuple_spliced (thn (h.run pos pins s σ H _ I hq) fun us s1 ⟨xs, H1, I1, r, z, q⟩ => ⟨by rw [← r.length]; exact z, ?_⟩)
  have hf : H1 s1.heap.objs.size = none := I1.hok.fresh (Nat.le_refl _)
  have q2 := q _ { cls := .type "tuple", data := .seq us.toArray } hf rfl rfl
  refine ⟨.ref s1.heap.objs.size, _, I1.laid (t' := s1.toks) (fun b u e => Heap.get?_push_of_some _ e) (Nat.le_refl _) ?_, rfl, q2⟩
  exact (⟨Heap.get?_push_size _ rfl, z, us, r, IsTup.new _ _⟩ : ObjOk _ _ _ _ _ (.frz _ (.tup xs)))
/-- t.m(e, ..), t such a tuple -/
def tBMT (r : V → List V → Hp → VK → Prop) (to : TE) (t : TA) : TE := fun σ H Q => to σ H fun x H1 => (∃ p o xs, x = .ref p ∧ H1 p = some (.frz o (.tup xs)) ∧ o.dict = none) ∧ t σ H1 fun vs H2 => r x vs H2 Q
theorem pe_bmT {X : Cx} {o e : Expr} {es : List Expr} {to : TE} {t : TA} {name : Str} {apos cpos : Pos} {id : String} {r : V → List V → Hp → VK → Prop} (slot : Slot "tuple" name id) (hty : typeOf (.builtin id) = pure (.type "method_descriptor")) (hm : MtR X id r) (ho : PE X o to) (ha : PA X (e :: es) t)
    (hbase : attributeBase o name X.env (eval o X.env) = eval o X.env := by rfl)
    (hfew : ((backTo cpos (starEach (e :: es) X.env)).all (fun x => !x.1) && (backToKw cpos (keywordEach [] X.env)).all (fun x => x.1.isSome)
      && decide ((e :: es).length + ([] : List Keyword).length + (if ([] : List Keyword).isEmpty then 0 else 1) < 30)) = true := by rfl)
    (hline : (apos.endLine == cpos.line) = true := by rfl) (hs : starEach (e :: es) X.env = (false, eval e X.env) :: starEach es X.env := by rfl) (hplain : (backTo cpos (starEach es X.env)).any (·.1) = false := by rfl) :
    PE X (.Call (.Attribute o name apos) (e :: es) [] cpos) (tBMT r to t) := by
  refine ⟨fun pins s σ H Q I h => ?_⟩
  refine wpAny_Call_method_late hbase hfew hline rfl (thn (ho.run pins s σ H _ I h) fun v s1 ⟨x, H1, I1, r1, ⟨p, ob, xs, ex, hp, hd⟩, q1⟩ => ?_)
  subst ex
  obtain rfl : v = Value.ref p := r1
  obtain ⟨hg, z, its, rv, ob2, e2, hc, n, hdat⟩ := (show ObjOk X.prog X.w H1 s1.heap p (.frz ob (.tup xs)) from I1.hok p _ hp)
  rw [hg] at e2
  cases e2
  refine ⟨"tuple", id, PySem.F.plainAttrs_tuple, slot, hty, ⟨_, hg, hc⟩, fun a e => ?_, ?_⟩
  · cases e
    exact ⟨_, hg, hd⟩
  have hA := ha.run cpos pins s1 σ H1 _ I1 q1
  rw [hs] at hA ⊢
  refine Calls.callWith_builtin (by show (false || (backTo cpos (starEach es X.env)).any (·.1)) = false; rw [hplain] <;> rfl) (Calls.evalArgs_plain ?_)
  exact thn hA fun us s2 ⟨vs, H2, I2, r2, q2⟩ => hm pins s2 σ H2 (.ref p) vs (.ref p) us Q I2 rfl r2 q2
/-- t.index(x), items and x data of small depth -/
def rIndexTD (K : PySem.W.Frag) : V → List V → Hp → VK → Prop := fun x xs H Q => ∃ (a : Addr) (y : V) (d : PyData) (ds : List PyData) (j : Nat) (z : PyData), x = V.ref a ∧ xs = [y] ∧ Dp K H (V.ref a) (.tuple ds) ∧ Dp K H y d ∧
  PyData.canLayAll0 ds = true ∧ SeqAt.shaped d = true ∧ ds[j]? = some z ∧ PyData.eqv z d = true ∧ (∀ (m : Nat) (z' : PyData), m < j → ds[m]? = some z' → PyData.eqv z' d = false) ∧ Q (.int (j : Nat)) H
theorem idx_true : ∀ {ks : List Bool} {j : Nat}, ks[j]? = some true → (∀ m, m < j → ks[m]? = some false) → ks.idxOf true = j
  | [], j, h, _ => by simp at h
  | b :: r, 0, h, _ => by
    cases h
    simp
  | b :: r, j + 1, h, hn => by
    have e : b = false := Option.some.inj (hn 0 (by omega))
    subst e
    have := idx_true (ks := r) (j := j) h fun m hm => hn (m + 1) (by omega)
    simp [List.idxOf_cons, this]
theorem mt_indexTD {X : Cx} (K : PySem.W.Frag) (hu : X.A.units + 66 < cLine) (hK : X.K = K := by rfl) : MtR X "tuple.index" (rIndexTD K) := by
  subst hK
  intro pins s σ H x xs v us Q I rx rxs h
  obtain ⟨a, y, d, ds, j, z, rfl, rfl, hl, hy, sl, sd, hz, hzj, hno, q⟩ := h
  cases rx
  cases rxs with
  | cons ry rt =>
    rename_i uy ut
    cases rt
    obtain ⟨bs, r1⟩ := Dp.reads I d y uy hy ry
    have hd := SeqAt.depth_of_shaped sd
    have hroom : X.A.in1.units + min (PyData.depthAll ds) d.depth < cLine := by
      have := Nat.min_le_right (PyData.depthAll ds) d.depth
      show X.A.units + 1 + min (PyData.depthAll ds) d.depth < cLine
      omega
    cases hl with
    | tup hs ha =>
      obtain ⟨its, rv, ⟨o, ho, hc, n, hdt⟩, hlen⟩ := I.tuple hs
      obtain ⟨as, h4⟩ := Dp.readsAll I ds _ its ha rv
      have hn : its.length = ds.length := SeqAt.ReadsAll.length ds its as h4
      have hmap : its.map (SeqAt.readOf s.heap) = ds := SeqAt.readsAll_map ds its as sl h4
      have hat := SeqAt.items_eqAt (A := X.A) (vs := its.toArray) (show ReadsAll s.heap its.toArray.toList ds as from h4) r1 sl (SeqAt.canLay_of_shaped sd) hroom
      have hj : (ds.map fun z => PyData.eqv z d).idxOf true = j := idx_true (by rw [List.getElem?_map, hz]; exact congrArg some hzj) fun m hm => by
        have hm2 : m < ds.length := by
          have := (List.getElem?_eq_some_iff.mp hz).1
          omega
        rw [List.getElem?_map, List.getElem?_eq_getElem hm2]
        exact congrArg some (hno m _ hm (List.getElem?_eq_getElem hm2))
      refine SeqAt.call_tuple_index (vs := its) (ks := ds.map fun z => PyData.eqv z d) (k := true) ⟨o, ho, hc, n, hdt⟩ ⟨by rw [List.length_map]; exact hn, fun i h1 h2 => ?_⟩ (List.mem_iff_getElem?.mpr ⟨j, by rw [List.getElem?_map, hz]; exact congrArg some hzj⟩) ⟨V.int (j : Nat), H, I.tok _, ⟨_, by rw [hj]⟩, q⟩
      have e := hat its[i] (by simp)
      have e2 : SeqAt.readOf s.heap its[i] = ds[i]'(by rw [List.length_map] at h2; exact h2) := by
        have := List.getElem_map (f := SeqAt.readOf s.heap) (l := its) (i := i) (h := by rw [List.length_map]; exact h1)
        rw [← this]
        exact List.getElem_of_eq hmap _
      rw [e2] at e
      have e3 : decide ((ds.map fun z => PyData.eqv z d)[i] = true) = PyData.eqv (ds[i]'(by rw [List.length_map] at h2; exact h2)) d := by
        rw [List.getElem_map]
        cases PyData.eqv _ d <;> rfl
      rw [e3]
      exact e
theorem hu2 {A : Around} {k : Nat} (hr : Room k A) : A.units + 66 < cLine := by
  have := hr.un
  omega
/-! ### what evaluates to what -/
/-- a tuple newly made, its object plain -/
def IsTF (F : Hp) (xs : List V) : HR := fun v G => ∃ p o, v = .ref p ∧ F p = none ∧ o.dict = none ∧ G p = some (.frz o (.tup xs))
instance (F xs) : Mon (IsTF F xs) := ⟨fun s ⟨p, o, e, f, d, h⟩ => ⟨p, o, e, f, d, s _ _ h⟩⟩
section
variable {S : SR} {n k ka kb : Nat} {t ta : TA} {te to : TE} {σ : L2.St} {G H : Hp} {K : PySem.W.Frag} {p : Addr} {vs xs ys : List V} {x : V} {i j : Nat}
theorem ev_tupF (st : Stab S) (h : EvA S n k t σ G (IsVs vs)) (hl : vs.length ≤ 100000) : Ev S n k (tTupF t) σ G (IsTF G vs) := fun G1 H1 s0 s Q q =>
  h G1 H1 s0 s _ fun ws G2 H2 s2 e => by
    obtain rfl : ws = vs := e
    exact ⟨Nat.le_trans hl (by decide), fun p o hp _ hd => q (.ref p) _ _ (s2.trans (st.new s2.s hp)) ⟨p, o, rfl, (s0.trans s2.g).free ((st.sub s2.s).free hp), hd, upd_same⟩⟩
theorem ea_star (st : Stab S) (h : Ev S n ka te σ G (IsV (.ref p))) (hq : Sq K G p xs) (hr : EvA S (n + ka) kb t σ G (IsVs ys)) : EvA S n (ka + kb) (StX.tStar K te t) σ G (IsVs (xs ++ ys)) := fun G1 H1 s0 s Q q =>
  h G1 H1 s0 s _ fun v G2 H2 s2 e => ⟨p, xs, e, (sq_mon (s0.trans (s2.g.trans (st.sub s2.s))) hq).symm, hr G2 H2 (s0.trans s2.g) s2.s _ fun ws G3 H3 s3 e' => by
    obtain rfl : ws = ys := e'
    exact q _ G3 H3 (s2.trans s3).up rfl⟩
theorem ev_bmTA {r : V → List V → Hp → VK → Prop} {o : Obj} {R : HR} {RA : HRs} (st : Stab S) (h : Ev S n ka to σ G (IsV (.ref p))) (hp : G p = some (.frz o (.tup xs))) (hd : o.dict = none) (ha : EvA S (n + ka) kb t σ G RA) (hr : ∀ vs G', Same G G' → RA vs G' → RC S (r (.ref p)) vs G' R) : Ev S n (ka + kb) (tBMT r to t) σ G R := fun G1 H1 s0 s Q q =>
  h G1 H1 s0 s _ fun v G2 H2 s2 e => ⟨⟨p, o, xs, e, st.sub s2.s _ _ (s2.g _ _ (s0 _ _ hp)), hd⟩, ha G2 H2 (s0.trans s2.g) s2.s _ fun ws G3 H3 s3 e' => by
    obtain rfl : v = .ref p := e
    exact hr ws G3 ((s0.trans s2.g).trans s3.g) e' _ G3 H3 (Same.refl _) s3.s Q fun v G4 H4 s4 e => q v G4 H4 ((s2.trans s3).trans s4).up e⟩
theorem c_indexTD (st : Stab S) {d z : PyData} {ds : List PyData} {j : Nat} (hs : Dp K G (.ref p) (.tuple ds)) (hx : Dp K G x d) (sl : PyData.canLayAll0 ds = true) (sd : SeqAt.shaped d = true) (hz : ds[j]? = some z) (he : PyData.eqv z d = true) (hno : ∀ (m : Nat) (z' : PyData), m < j → ds[m]? = some z' → PyData.eqv z' d = false) :
    RC S (rIndexTD K (.ref p)) [x] G (IsV (.int (j : Nat))) := rc_val (fun H s Q q => ⟨p, x, d, ds, j, z, rfl, rfl, dp_mon s hs, dp_mon s hx, sl, sd, hz, he, hno, q⟩) st
/-- list(range(m)) -/
theorem ev_listRg {m : Int} (st : Stab S) (h : Ev S n k te σ G (IsV (.int m))) (h0 : 0 ≤ m) (h1 : m ≤ 100000) : Ev S n k (tLstRg (tRg1 te)) σ G (IsNew G (.lst ((List.range m.toNat).map fun i => .int (i : Nat)))) := fun G1 H1 s0 s Q q =>
  h G1 H1 s0 s _ fun v G2 H2 s2 e => ⟨m, e, ⟨by omega, by omega, by omega, by omega, by show (m - 0).toNat ≤ 2 ^ 24; omega⟩, fun p hp => by
    have e : rgV 0 m = (List.range m.toNat).map fun i => V.int (i : Nat) := by
      unfold rgV
      rw [Int.sub_zero]
      exact List.map_congr_left fun i _ => by rw [Int.zero_add]
    rw [e]
    exact q (.ref p) _ _ (s2.trans (st.new s2.s hp)) ⟨p, rfl, (s0.trans s2.g).free ((st.sub s2.s).free hp), upd_same⟩⟩
/-- tuple(l) -/
theorem c_tupN (st : Stab S) (hq : SqL K G p xs) : RC S (rTupQ K) [.ref p] G (IsNew G (.tup xs)) := fun n G1 H1 s0 s Q q =>
  ⟨p, xs, rfl, .inl ⟨(s0.trans (st.sub s)).seq hq, fun l hl => q (.ref l) _ _ (st.new s hl) ⟨l, rfl, (s0.trans (st.sub s)).free hl, upd_same⟩⟩⟩
end
theorem tYes_run {σ : L2.St} {H : Hp} {Q : Bool → Hp → Prop} (h : Q true H) : tYes σ H Q := h
/-! ### a dict of places by enumerate -/
def plc : List Str → Nat → List (Key × V)
  | [], _ => []
  | a :: r, i => (.inr a, .int (i : Nat)) :: plc r (i + 1)
theorem plc_snoc : ∀ (xs : List Str) (a : Str) (i : Nat), plc (xs ++ [a]) i = plc xs i ++ [(.inr a, .int ((i + xs.length : Nat) : Int))]
  | [], a, i => rfl
  | b :: r, a, i => by
    show (_, _) :: plc (r ++ [a]) (i + 1) = _
    rw [plc_snoc r a (i + 1), List.length_cons, show i + (r.length + 1) = i + 1 + r.length by omega]
    rfl
theorem plc_len : ∀ (xs : List Str) (i : Nat), (plc xs i).length = xs.length
  | [], _ => rfl
  | a :: r, i => by rw [List.length_cons, ← plc_len r (i + 1)]; rfl
theorem plc_none : ∀ {xs : List Str} {a : Str} {i : Nat}, a ∉ xs → valV (plc xs i) (.inr a) = none
  | [], _, _, _ => rfl
  | b :: r, a, i, h => by
    have n : ¬ (Sum.inr b : Key) = .inr a := fun z => h (by cases z; exact List.mem_cons_self)
    exact (valV_neg (p := ((.inr b : Key), V.int (i : Nat))) n).trans (plc_none fun z => h (List.mem_cons_of_mem _ z))
theorem plc_some : ∀ {xs : List Str} {a : Str} {i j : Nat}, xs.Nodup → xs[j]? = some a → valV (plc xs i) (.inr a) = some (.int ((i + j : Nat) : Int))
  | [], _, _, _, _, e => by simp at e
  | b :: r, a, i, 0, _, e => by
    cases e
    exact valV_pos rfl
  | b :: r, a, i, j + 1, d, e => by
    have e' : r[j]? = some a := e
    have n : ¬ (Sum.inr b : Key) = .inr a := fun z => by
      cases z
      exact (List.nodup_cons.mp d).1 (List.mem_of_getElem? e')
    refine (valV_neg (p := ((.inr b : Key), V.int (i : Nat))) n).trans ?_
    rw [plc_some (List.nodup_cons.mp d).2 e', show i + 1 + j = i + (j + 1) by omega]
section
variable {S : SR} {n k : Nat} {ta : TA} {σ : L2.St} {G : Hp} {K : PySem.W.Frag} {p : Addr} {vs : List Nat} {i j : Nat} {names : List Str}
/-- {name: place for place, name in enumerate(names)} -/
theorem ev_dcE (st : Stab S) (h : EvA S n k ta σ G (IsVs [.ref p])) (hq : SqL K G p (names.map V.str)) (hl : names.length ≤ 100000) (hd : names.Nodup) (hij : i ≠ j) (hli : i < (wipe σ vs).length) (hlj : j < (wipe σ vs).length)
    (hw : ∀ x y : V, wipe (((wipe σ vs).set i (some x)).set j (some y)) vs = wipe σ vs) : Ev S n k (tDc (iEnum K ta) (gTup K 2 (gCons (gName i) (gCons (gName j) gNil))) tYes (tVar j) (tVar i) vs) σ G (IsNew G (.dK (plc names 0))) := fun G1 H1 s0 s Q q =>
  h G1 H1 s0 s _ fun ws G2 H2 s2 e => by
    obtain rfl : ws = [.ref p] := e
    refine ⟨p, names.map V.str, rfl, (s0.trans (s2.g.trans (st.sub s2.s))).seq hq, fun D hD => ?_⟩
    have gD := (st.sub s2.s).free hD
    refine ⟨fun t m J => m = names.length - t ∧ t ≤ names.length ∧ Kp S H2 J ∧ S (n + k) G2 J ∧ J D = some (.dK (plc (names.take t) 0)), ⟨names.length, by omega, by omega, kp_new (Kp.refl H2) hD, st.chg s2.s hD s2.s gD, upd_same⟩, ?_⟩
    rintro t m J ⟨rfl, ht, kJ, sJ, dJ⟩
    have w := walk_enum (K := K) (a := p) (xs := names.map V.str)
    have hqJ := (s0.trans (s2.g.trans (st.sub sJ))).seq hq
    have lm : (names.map V.str).length = names.length := List.length_map _
    by_cases hlt : t < names.length
    · refine .inr ⟨w.goes t J (by omega) hqJ, fun J' => names.length - (t + 1) = names.length - (t + 1) ∧ t + 1 ≤ names.length ∧ Kp S H2 J' ∧ S (n + k) G2 J' ∧ J' D = some (.dK (plc (names.take (t + 1)) 0)), fun J' z => ⟨_, by omega, z⟩, fun v J' y => ?_⟩
      obtain ⟨T, x, z, rfl, hT, rfl, ex, ez⟩ := w.yields t J v J' (by omega) hqJ y
      cases ex
      have ez' : z = V.str names[t] := by
        have e2 : (names.map V.str)[t]? = some z := ez
        rw [List.getElem?_map, List.getElem?_eq_getElem hlt] at e2
        exact (Option.some.inj e2).symm
      subst ez'
      have gr := Grow.hid (o := .tup [.int (t : Nat), .str names[t]]) (st.sub sJ) hT
      have sJ' := st.grow sJ gr
      have dJ' := gr.h _ _ dJ
      refine ⟨T, [.int (t : Nat), .str names[t]], rfl, SqT.of upd_same, rfl, _, _, rfl, _, _, rfl, rfl, hw _ _, ?_⟩
      refine tYes_run (iteT ?_)
      refine tVar_run (x := .str names[t]) ?_ (tVar_run (x := .int (t : Nat)) ?_ ⟨_, .inr names[t], rfl, dJ', ?_, rfl, by omega, ?_, ?_, ?_⟩)
      · rw [List.getElem?_set_self (by rw [List.length_set]; exact hlj)]
      · rw [List.getElem?_set_ne (Ne.symm hij), List.getElem?_set_self hli]
      · rw [plc_len, List.length_take]
        exact Nat.lt_of_le_of_lt (Nat.min_le_right _ _) (Nat.lt_of_le_of_lt hl (by decide))
      · exact kp_new (kJ.trans (Kp.of gr.h)) hD
      · exact st.chg s2.s hD sJ' gD
      · rw [upd_same]
        have nm : names[t] ∉ names.take t := fun z => by
          obtain ⟨a, ha, e⟩ := List.getElem_of_mem z
          rw [List.length_take] at ha
          rw [List.getElem_take] at e
          have := (List.getElem_inj hd).mp e
          omega
        rw [putK_new _ (plc_none nm), List.take_succ_eq_append_getElem hlt, plc_snoc, List.length_take, Nat.zero_add, Nat.min_eq_left (by omega)]
    · have ht' : t = names.length := by omega
      subst ht'
      rw [List.take_length] at dJ
      refine .inl ⟨by rw [← lm]; exact w.stops J hqJ, ?_⟩
      have g4 : Same G2 (upd G2 D (.dK (plc names 0))) := fun b o e => by
        rw [upd_ne (ne_of_none e gD)]
        exact e
      refine q (.ref D) (upd G2 D (.dK (plc names 0))) J ⟨s2.g.trans g4, s2.k.trans kJ, st.pub s2.s hD sJ gD dJ, fun b o e => ?_⟩ ⟨D, rfl, (s0.trans s2.g).free gD, upd_same⟩
      by_cases hb : b = D
      · rw [hb]
        exact .inr (s2.k.v D hD)
      · rw [upd_ne hb] at e
        exact s2.n b o e
end
/-! ### texts in parts -/
def EvJ (S : SR) (n : Nat) (ts : List TE) (acc : Str) (σ : L2.St) (G : Hp) (out : Str) : Prop := ∀ G1 H1, Same G G1 → S n G1 H1 → ∀ Q : Str → Hp → Prop, (∀ G2 H2, Stp S n G1 H1 G2 H2 → Q out H2) → tJs ts acc σ H1 Q
section
variable {S : SR} {n : Nat} {ts : List TE} {te : TE} {acc y out : Str} {σ : L2.St} {G : Hp} {i : Int}
theorem ej_nil : EvJ S n [] acc σ G acc := fun G1 H1 s0 s Q q => q G1 H1 (Stp.refl s)
theorem ej_cons (h : Ev S n 0 te σ G (IsV (.str y))) (hl : (acc ++ y).length ≤ sizeLine) (hr : EvJ S n ts (acc ++ y) σ G out) : EvJ S n (te :: ts) acc σ G out := fun G1 H1 s0 s Q q => by
  unfold tJs
  exact h G1 H1 s0 s _ fun v G2 H2 s2 e => ⟨y, e, hl, hr G2 H2 (s0.trans s2.g) s2.s _ fun G3 H3 s3 => q G3 H3 (s2.trans s3)⟩
theorem ev_fmtS (h : Ev S n 0 te σ G (IsV (.str y))) (hl : y.length ≤ sizeLine) : Ev S n 0 (tFmt te) σ G (IsV (.str y)) := fun G1 H1 s0 s Q q => h G1 H1 s0 s _ fun v G2 H2 s2 e => .inl ⟨y, e, hl, q _ G2 H2 s2 rfl⟩
theorem ev_fmtI (h : Ev S n 0 te σ G (IsV (.int i))) (hl : i.natAbs.log2 < 1920) : Ev S n 0 (tFmt te) σ G (IsV (.str (toString i))) := fun G1 H1 s0 s Q q => h G1 H1 s0 s _ fun v G2 H2 s2 e => .inr ⟨i, e, hl, q _ G2 H2 s2 rfl⟩
theorem ev_joined (h : EvJ S n ts Str.empty σ G out) : Ev S n 0 (fun σ H Q => tJs ts Str.empty σ H fun out H1 => Q (.str out) H1) σ G (IsV (.str out)) := fun G1 H1 s0 s Q q => h G1 H1 s0 s _ fun G2 H2 s2 => q _ G2 H2 s2 rfl
end
end L2.DS
/-! What a scale holds. -/
namespace L2.DS
open PySem PySem.Spec PyProof.Rows
def scF : List Str := ["label", "size", "never_at", "still_at", "depth", "worth_names", "worth_places", "product_table", "join_table"]
theorem lk_eq {f : Str} {v : V} {fs : List (Str × V)} : (putF f v fs).lookup f = some v := by rw [lookup_putF, if_pos rfl]
theorem lk_ne {f g : Str} {v : V} {fs : List (Str × V)} (h : ¬ g = f) : (putF f v fs).lookup g = fs.lookup g := by rw [lookup_putF, if_neg h]
theorem lk_off {f g : Str} {v : V} {fs : List (Str × V)} (h : f ∉ scF) (hg : g ∈ scF) : (putF g v fs).lookup f = fs.lookup f := lk_ne fun e => h (by rw [e]; exact hg)
theorem putF_len (f : Str) (v : V) : ∀ fs : List (Str × V), (putF f v fs).length ≤ fs.length + 1
  | [] => Nat.le_refl 1
  | (g, x) :: r => by
    unfold putF
    split
    · show r.length + 1 ≤ r.length + 1 + 1
      omega
    · have := putF_len f v r
      show (putF f v r).length + 1 ≤ r.length + 1 + 1
      omega
/-- a tuple of n things as R tells -/
def IsTN (m : Nat) (R : Nat → HR) : HR := fun v G => ∃ p ys, v = .ref p ∧ G p = some (.tup ys) ∧ ys.length = m ∧ ∀ i y, ys[i]? = some y → R i y G
instance (m) (R : Nat → HR) [∀ i, Mon (R i)] : Mon (IsTN m R) := ⟨fun s ⟨p, ys, e, h, l, r⟩ => ⟨p, ys, e, s _ _ h, l, fun i y z => Mon.mon s (r i y z)⟩⟩
theorem ev_tupLc {S : SR} {n k m : Nat} {te : TE} {σ : L2.St} {G F : Hp} {K : PySem.W.Frag} {R : Nat → HR} [∀ i, Mon (R i)] (st : Stab S) (h : Ev S n k te σ G (IsLN F m R)) : Ev S n (k + 0) (tCB (rTupQ K) (tCons te tNil)) σ G (IsTN m R) :=
  ev_cb (ea_cons h ea_nil) fun vs G2 s2 e => by
    obtain ⟨_, _, rfl, ⟨p, ys, rfl, _, hp, l, r⟩, e⟩ := e
    obtain rfl := (show _ = _ from e)
    intro n G1 H1 s0 s Q q
    refine c_tupN (K := K) st (SqL.of hp) n G1 H1 s0 s Q fun v G3 H3 s3 ⟨t, e, _, ht⟩ => ?_
    exact q v G3 H3 s3 ⟨t, ys, e, ht, l, fun i y z => Mon.mon (s0.trans s3.g) (r i y z)⟩
/-- a table of n rows of n places -/
def Tab (G : Hp) (p : Addr) (n : Nat) (th : Nat → Nat → Int) : Prop := IsTN n (fun i => IsTN n fun j => IsV (.int (th i j))) (.ref p) G
theorem Tab.mono {G G' : Hp} {p : Addr} {n : Nat} {th : Nat → Nat → Int} (h : Tab G p n th) (s : Same G G') : Tab G' p n th := Mon.mon s h
theorem tab_del {G : Hp} {v : V} {n : Nat} {th : Nat → Nat → Int} {x C dx : Addr} {fs : List (Str × V)} (h : IsTN n (fun i => IsTN n fun j => IsV (.int (th i j))) v G) (hx : G x = some (.ins C dx fs)) : IsTN n (fun i => IsTN n fun j => IsV (.int (th i j))) v (del G x) := by
  have k : ∀ {b : Addr} {ys : List V}, G b = some (.tup ys) → del G x b = some (.tup ys) := fun {b ys} e => by
    rw [del_ne (ne_of e hx (fun z => by cases z))]
    exact e
  obtain ⟨p, ys, e, hp, l, r⟩ := h
  refine ⟨p, ys, e, k hp, l, fun i y z => ?_⟩
  obtain ⟨q, zs, e2, hq, l2, r2⟩ := r i y z
  exact ⟨q, zs, e2, k hq, l2, r2⟩
/-- the row a of a table -/
theorem Tab.row {G : Hp} {p : Addr} {n : Nat} {th : Nat → Nat → Int} (h : Tab G p n th) : ∃ ys, G p = some (.tup ys) ∧ ys.length = n ∧ ∀ a < n, ∃ q zs, ys[a]? = some (.ref q) ∧ G q = some (.tup zs) ∧ zs.length = n ∧ ∀ b < n, zs[b]? = some (.int (th a b)) := by
  obtain ⟨p', ys, e, hp, l, r⟩ := h
  cases e
  refine ⟨ys, hp, l, fun a ha => ?_⟩
  have e1 : ys[a]? = some ys[a] := List.getElem?_eq_getElem (by omega)
  obtain ⟨q, zs, e2, hq, l2, r2⟩ := r a _ e1
  refine ⟨q, zs, by rw [e1, e2], hq, l2, fun b hb => ?_⟩
  have e3 : zs[b]? = some zs[b] := List.getElem?_eq_getElem (by omega)
  rw [e3, show zs[b] = V.int (th a b) from r2 b _ e3]
/-- the fields of a scale -/
structure ScIs (label : Str) (names : List Str) (nv sl dep : Int) (th jn : Nat → Nat → Int) (fs : List (Str × V)) (G : Hp) : Prop where
  lab : fs.lookup ("label" : Str) = some (.str label)
  siz : fs.lookup ("size" : Str) = some (.int (names.length : Nat))
  nev : fs.lookup ("never_at" : Str) = some (.int nv)
  sti : fs.lookup ("still_at" : Str) = some (.int sl)
  dep : fs.lookup ("depth" : Str) = some (.int dep)
  nam : ∃ p, fs.lookup ("worth_names" : Str) = some (.ref p) ∧ G p = some (.tup (names.map V.str))
  pla : ∃ p, fs.lookup ("worth_places" : Str) = some (.ref p) ∧ G p = some (.dK (plc names 0))
  pro : ∃ p, fs.lookup ("product_table" : Str) = some (.ref p) ∧ Tab G p names.length th
  joi : ∃ p, fs.lookup ("join_table" : Str) = some (.ref p) ∧ Tab G p names.length jn
theorem ScIs.mono {label : Str} {names : List Str} {nv sl dep : Int} {th jn : Nat → Nat → Int} {fs : List (Str × V)} {G G' : Hp} (h : ScIs label names nv sl dep th jn fs G) (s : Same G G') : ScIs label names nv sl dep th jn fs G' :=
  ⟨h.lab, h.siz, h.nev, h.sti, h.dep, let ⟨p, a, b⟩ := h.nam; ⟨p, a, s _ _ b⟩, let ⟨p, a, b⟩ := h.pla; ⟨p, a, s _ _ b⟩, let ⟨p, a, b⟩ := h.pro; ⟨p, a, b.mono s⟩, let ⟨p, a, b⟩ := h.joi; ⟨p, a, b.mono s⟩⟩
/-- what Scale.__init__ asks and leaves: PT, PJ tell of make_then, make_join -/
def PScI (K : PySem.W.Frag) (C0 : Addr) (PT PJ : List V → Hp → HR → Prop) : Addr → List (Str × V) → List V → Hp → OR → Prop := fun C fs rest G R => C = C0 ∧ ∃ (label : Str) (pn : Addr) (names : List Str) (nv sl dep : Int) (th jn : Nat → Nat → Int),
  rest = [.str label, .ref pn, .int nv, .int sl, .int dep] ∧ SqL K G pn (names.map V.str) ∧ names.length ≤ 100 ∧ names.Nodup ∧ fs.length ≤ 100 ∧ fs.lookup ("make_then" : Str) = none ∧ fs.lookup ("make_join" : Str) = none ∧
  (∀ x dx fs' G', Same G G' → G' x = some (.ins C dx fs') → (∀ f, f ∉ scF → fs'.lookup f = fs.lookup f) → ∀ a b : Nat, a < names.length → b < names.length → PT [.ref x, .int (a : Nat), .int (b : Nat)] G' (IsV (.int (th a b))) ∧ PJ [.ref x, .int (a : Nat), .int (b : Nat)] G' (IsV (.int (jn a b)))) ∧
  R = fun _ _ fs' G' => ScIs label names nv sl dep th jn fs' G' ∧ (∀ f, f ∉ scF → fs'.lookup f = fs.lookup f) ∧ fs'.length ≤ fs.length + 9
/-- tuple([tuple([self.m(a, b) for b in places]) for a in places]) -/
theorem ev_table {S : SR} (st : Stab S) {K : PySem.W.Frag} {x C dx pl : Addr} {fs : List (Str × V)} {nn n : Nat} {m : Str} {PX : List V → Hp → HR → Prop} {th : Nat → Nat → Int} {v1 v2 v3 v4 v5 u7 u8 u9 u10 : Option V} {G : Hp} {E : XK} (hx : G x = some (.ins C dx fs)) (hm : fs.lookup m = none)
    (hp : G pl = some (.lst ((List.range nn).map fun i => V.int (i : Nat)))) (hn : nn ≤ 100000) (hP : ∀ G', Same G G' → ∀ a b : Nat, a < nn → b < nn → PX [.ref x, .int (a : Nat), .int (b : Nat)] G' (IsV (.int (th a b)))) :
    Ev S n 0 (tCB (rTupQ K) (tCons (tLc (iList K (tVar 6)) (gName 9) tYes (tCB (rTupQ K) (tCons (tLc (iList K (tVar 6)) (gName 10) tYes (tMeth C m (spP PX) [] E (tVar 0) (tCons (tVar 9) (tCons (tVar 10) tNil))) [10]) tNil)) [9]) tNil))
      [some (.ref x), v1, v2, v3, v4, v5, some (.ref pl), u7, u8, u9, u10] G (IsTN nn fun i => IsTN nn fun j => IsV (.int (th i j))) := by
  have ll : ((List.range nn).map fun i => V.int (i : Nat)).length = nn := by rw [List.length_map, List.length_range]
  have at_ : ∀ {j : Nat} {v : V}, ((List.range nn).map fun i => V.int (i : Nat))[j]? = some v → j < nn ∧ v = .int (j : Nat) := fun {j v} e => by
    have hj : j < nn := by
      have := (List.getElem?_eq_some_iff.mp e).1
      omega
    rw [List.getElem?_map, List.getElem?_range hj] at e
    exact ⟨hj, (Option.some.inj e).symm⟩
  have h1 := ev_lcL (S := S) (n := n) (k := 0) (c1 := 0) (K := K) (i := 9) (vs := [9]) (el := tCB (rTupQ K) (tCons (tLc (iList K (tVar 6)) (gName 10) tYes (tMeth C m (spP PX) [] E (tVar 0) (tCons (tVar 9) (tCons (tVar 10) tNil))) [10]) tNil))
    (σ := [some (.ref x), v1, v2, v3, v4, v5, some (.ref pl), u7, u8, u9, u10]) (G := G) st (fun i => IsTN nn fun j => IsV (.int (th i j))) (ev_var (i := 6) rfl) (SqL.of hp) (by omega) (fun a y G2 ha s2 => ?_) (fun _ => rfl)
  · have h2 := ev_tupLc (K := K) st h1
    rw [ll] at h2
    exact Ev.wk st h2 (by simp)
  · obtain ⟨la, rfl⟩ := at_ ha
    have h3 := ev_lcL (S := S) (n := n + 0 + 0 * a) (k := 0) (c1 := 0) (K := K) (i := 10) (vs := [10]) (el := tMeth C m (spP PX) [] E (tVar 0) (tCons (tVar 9) (tCons (tVar 10) tNil)))
      (σ := (wipe [some (.ref x), v1, v2, v3, v4, v5, some (.ref pl), u7, u8, u9, u10] [9]).set 9 (some (.int (a : Nat)))) (G := G2) st (fun j => IsV (.int (th a j))) (ev_var (i := 6) rfl) (SqL.of (s2 _ _ hp)) (by omega) (fun b y G3 hb s3 => ?_) (fun _ => rfl)
    · have h4 := ev_tupLc (K := K) st h3
      rw [ll] at h4
      exact Ev.wk st h4 (by simp)
    · obtain ⟨lb, rfl⟩ := at_ hb
      exact ev_meth (RA := IsVs [.int (a : Nat), .int (b : Nat)]) st (ev_var rfl) ((s2.trans s3) _ _ hx) hm (ea_consV (ev_var rfl) (ea_consV (ev_var rfl) ea_nilV)) fun vs G4 s4 e => by
        obtain rfl : vs = _ := e
        exact hP G4 ((s2.trans s3).trans s4) a b la lb
/-- a scale stands at x -/
def ScAt (K : PySem.W.Frag) (label : Str) (names : List Str) (nv sl dep : Int) (th jn : Nat → Nat → Int) (x : Addr) (G : Hp) : Prop := ∃ C dx fs, G x = some (.ins C dx fs) ∧ Cls K C ∧ (∀ f ∈ scF, NoAttr K C f) ∧ ScIs label names nv sl dep th jn fs G
theorem ScAt.mono {K : PySem.W.Frag} {label : Str} {names : List Str} {nv sl dep : Int} {th jn : Nat → Nat → Int} {x : Addr} {G G' : Hp} (h : ScAt K label names nv sl dep th jn x G) (s : Same G G') : ScAt K label names nv sl dep th jn x G' :=
  let ⟨C, dx, fs, a, b, c, d⟩ := h
  ⟨C, dx, fs, s _ _ a, b, c, d.mono s⟩
/-- a product, a join of two places; whether a place lies within another; the name of a place -/
def PAt (K : PySem.W.Frag) (pick : (Nat → Nat → Int) → (Nat → Nat → Int) → Nat → Nat → V) : List V → Hp → HR → Prop := fun vs G R => ∃ (label : Str) (names : List Str) (nv sl dep : Int) (th jn : Nat → Nat → Int) (x : Addr) (a b : Nat), vs = [.ref x, .int (a : Nat), .int (b : Nat)] ∧ ScAt K label names nv sl dep th jn x G ∧ a < names.length ∧ b < names.length ∧ R = IsV (pick th jn a b)
def PName (K : PySem.W.Frag) : List V → Hp → HR → Prop := fun vs G R => ∃ (label : Str) (names : List Str) (nv sl dep : Int) (th jn : Nat → Nat → Int) (x : Addr) (a : Nat) (nm : Str), vs = [.ref x, .int (a : Nat)] ∧ ScAt K label names nv sl dep th jn x G ∧ names[a]? = some nm ∧ R = IsV (.str nm)
/-- the place of a name, or the error U -/
def sp_at_name (K : PySem.W.Frag) (U : Addr) : Sp := fun vs H Q E => ∃ (label : Str) (names : List Str) (nv sl dep : Int) (th jn : Nat → Nat → Int) (x : Addr) (nm : Str) (G : Hp), vs = [.ref x, .str nm] ∧ Same G H ∧ ScAt K label names nv sl dep th jn x G ∧ names.Nodup ∧
  (∀ (j : Nat) H', names[j]? = some nm → Grow G H G H' → Q (.int (j : Nat)) H') ∧ (nm ∉ names → ∀ d H' H2, Grow G H G H' → H' d = none → H2 = upd H' d (.xd [(("name" : Str), .str nm)]) → E (.ref U) (some d) H2)
section
variable {S : SR} {K : PySem.W.Frag} {G : Hp} {σ : L2.St} {n k : Nat} {te : TE} {x C dx p : Addr} {fs : List (Str × V)} {nn : Nat} {th : Nat → Nat → Int} {a b i j : Nat}
theorem ev_tab (st : Stab S) (h : Ev S n k te σ G (IsV (.ref p))) (ht : Tab G p nn th) (ha : a < nn) (hb : b < nn) (e1 : σ[i]? = some (some (.int (a : Nat)))) (e2 : σ[j]? = some (some (.int (b : Nat)))) : Ev S n (k + 0 + 0) (tOp (rIxA K) (tOp (rIxA K) te (tVar i)) (tVar j)) σ G (IsV (.int (th a b))) := by
  obtain ⟨ys, hp, _, hr⟩ := ht.row
  obtain ⟨q, zs, e3, hq, _, hz⟩ := hr a ha
  exact ev_opV (ev_opV h (ev_var e1) (v_ixT st (SqT.of hp) (atI_nat e3))) (ev_var e2) (v_ixT st (SqT.of hq) (atI_nat (hz b hb)))
end
/-- a <= b <= c and the like -/
theorem ev_chain {S : SR} (st : Stab S) {n ka kb kc : Nat} {ta tb tc : TE} {r r' : R2} {σ : L2.St} {G : Hp} {x y z : V} {c d : Bool} (ha : Ev S n ka ta σ G (IsV x)) (hb : Ev S (n + ka) kb tb σ G (IsV y)) (hr : RV S r x y G (IsV (.bl c))) (hc : Ev S (n + ka + kb) kc tc σ G (IsV z)) (hr' : RV S r' y z G (IsV (.bl d))) :
    Ev S n (ka + kb + kc) (tChain r r' ta tb tc) σ G (IsV (.bl (c && d))) := fun G1 H1 s0 s Q q =>
  ha G1 H1 s0 s _ fun v G2 H2 s2 e => hb G2 H2 (s0.trans s2.g) s2.s _ fun w G3 H3 s3 e' => by
    obtain rfl : v = x := e
    obtain rfl : w = y := e'
    refine hr _ G3 H3 ((s0.trans s2.g).trans s3.g) s3.s _ fun u G4 H4 s4 e4 => ⟨c, e4, ?_⟩
    have t := (s2.trans s3).trans s4
    cases c with
    | false => exact iteF (q _ G4 H4 (t.wk st (by omega)) rfl)
    | true =>
      refine iteT (hc G4 H4 (s0.trans t.g) s4.s _ fun u2 G5 H5 s5 e5 => ?_)
      obtain rfl : u2 = z := e5
      exact hr' _ G5 H5 ((s0.trans t.g).trans s5.g) s5.s _ fun u3 G6 H6 s6 e6 => q u3 G6 H6 (((t.trans s5).trans s6).wk st (by omega)) e6
/-- raise C(e) -/
theorem q_raiseX {S : SR} {n k : Nat} {C : Addr} {nm : Str} {W : WX} {t : TA} {u : TS} {σ : L2.St} {G H : Hp} {v : V} {nx bk ct : L2.St → Hp → Prop} {rt : VK} (s : S n G H) (e : EvA S n k t σ G (IsVs [v])) (h : ∀ G' H' d, Stp S (n + k) G H G' H' → H' d = none → W (.ref C) (some d) σ (upd H' d (.xd [(nm, v)]))) :
    tSeq (tRaiseX C nm W t) u (Ends.mk nx rt bk ct) σ H := e G H (Same.refl _) s _ fun _ G' H' s1 ev => ⟨v, ev, fun d hd => h G' H' d s1 hd⟩
/-- d.get(k), the key there or not -/
theorem ev_dget {S : SR} (st : Stab S) {n ka kb : Nat} {td ty : TE} {σ : L2.St} {G : Hp} {a : Addr} {kvs : List (Key × V)} {k : Key} (h : Ev S n ka td σ G (IsV (.ref a))) (ha : G a = some (.dK kvs)) (hy : Ev S (n + ka) kb ty σ G (IsV (kV k))) : Ev S n (ka + kb) (tDGet1 td ty) σ G (IsV ((valV kvs k).getD .non)) := fun G1 H1 s0 s Q q =>
  h G1 H1 s0 s _ fun v G2 H2 s2 e => ⟨a, e, .inl ⟨kvs, .inl (st.sub s2.s _ _ (s2.g _ _ (s0 _ _ ha)))⟩, hy G2 H2 (s0.trans s2.g) s2.s _ fun w G3 H3 s3 e' => by
    obtain rfl : w = kV k := e'
    exact ⟨_, DGet.k (st.sub s3.s _ _ (s3.g _ _ (s2.g _ _ (s0 _ _ ha)))), q _ G3 H3 (s2.trans s3).up rfl⟩⟩
end L2.DS
/-! Scales of contents behind never. -/
namespace L2.DS
open PySem PySem.Spec PyProof.Rows
/-- the place that t.index(y) tells is k -/
def IdxOk (K : PySem.W.Frag) (G : Hp) (pt : Addr) (y : V) (k : Nat) : Prop := ∀ S, Stab S → RC S (rIndexTD K (.ref pt)) [y] G (IsV (.int (k : Nat)))
/-- make_then, make_join of such a scale: B tells what the two contents give, z what never gives -/
def PMk (K : PySem.W.Frag) (C0 : Addr) (m : Str) (B : List V → Hp → HR → Prop) (z : Nat → Nat → Int) : List V → Hp → HR → Prop := fun vs G R => ∃ (x dx pt : Addr) (fs : List (Str × V)) (o : Obj) (ws : List V) (a b : Nat), vs = [.ref x, .int (a : Nat), .int (b : Nat)] ∧
  G x = some (.ins C0 dx fs) ∧ fs.lookup ("contents" : Str) = some (.ref pt) ∧ fs.lookup m = none ∧ G pt = some (.frz o (.tup (.non :: ws))) ∧ o.dict = none ∧
  ((a = 0 ∨ b = 0) → R = IsV (.int (z a b))) ∧ (a ≠ 0 → b ≠ 0 → ∃ va vb Ry k, ws[a - 1]? = some va ∧ ws[b - 1]? = some vb ∧ Mon Ry ∧ (∀ G', Same G G' → B [.ref x, va, vb] G' Ry) ∧ (∀ y G', Same G G' → Ry y G' → IdxOk K G' pt y k) ∧ R = IsV (.int (k : Nat)))
def wnF : List Str := "contents" :: scF
/-- what WithNever.__init__ asks and leaves -/
def PWnI (K : PySem.W.Frag) (C0 : Addr) (PT PJ : List V → Hp → HR → Prop) : Addr → List (Str × V) → List V → Hp → OR → Prop := fun C fs rest G R => C = C0 ∧ ∃ (label : Str) (pc pw : Addr) (ws : List V) (words : List Str) (th jn : Nat → Nat → Int),
  rest = [.str label, .ref pc, .ref pw] ∧ Sq K G pc ws ∧ SqL K G pw (words.map V.str) ∧ words.length ≤ 99 ∧ ws.length ≤ 99 ∧ (("never" : Str) :: words).Nodup ∧ fs.length ≤ 90 ∧ fs.lookup ("make_then" : Str) = none ∧ fs.lookup ("make_join" : Str) = none ∧
  (∀ x dx pt o fs' G', Same G G' → G' x = some (.ins C dx fs') → (∀ f, f ∉ wnF → fs'.lookup f = fs.lookup f) → fs'.lookup ("contents" : Str) = some (.ref pt) → G' pt = some (.frz o (.tup (.non :: ws))) → o.dict = none → ∀ a b : Nat, a < words.length + 1 → b < words.length + 1 →
    PT [.ref x, .int (a : Nat), .int (b : Nat)] G' (IsV (.int (th a b))) ∧ PJ [.ref x, .int (a : Nat), .int (b : Nat)] G' (IsV (.int (jn a b)))) ∧
  R = fun _ _ fs' G' => ScIs label (("never" : Str) :: words) 0 1 1 th jn fs' G' ∧ (∀ f, f ∉ wnF → fs'.lookup f = fs.lookup f) ∧ fs'.length ≤ fs.length + 10
theorem wn_sc {f : Str} (h : f ∉ wnF) : f ∉ scF := fun z => h (List.mem_cons_of_mem _ z)
end L2.DS
/-! Scales of integers. -/
namespace L2.DS
open PySem PySem.Spec PyProof.Rows
def ordS (up : Bool) : Str := if up then "up" else "down"
def cthen (m i j : Int) : Int := if i + j > m then m else i + j
def ceit (up : Bool) (i j : Int) : Int := if decide (j < i) = up then i else j
def cth (m : Int) (a b : Nat) : Int := if a = 0 ∨ b = 0 then 0 else cthen m ((a : Int) - 1) ((b : Int) - 1) + 1
def cjn (up : Bool) (a b : Nat) : Int := if a = 0 ∨ b = 0 then (a : Int) + b else ceit up ((a : Int) - 1) ((b : Int) - 1) + 1
def cword (m i : Int) : Str := if i = m then "many" else toString i
def cwords (m : Nat) : List Str := (List.range (m + 1)).map fun i => cword (m : Nat) (i : Nat)
def clabel (m : Int) (up : Bool) : Str := ((((("(count " : Str) ++ (toString m : Str)) ++ (" " : Str)) ++ ordS up) ++ (")" : Str))
theorem cwords_nodup : ∀ m, m < 63 → (("never" : Str) :: cwords m).Nodup := by decide +kernel
theorem clabel_len : ∀ m : Nat, m < 63 → ∀ up, (clabel (m : Nat) up).length ≤ 100 ∧ (("(count " : Str) ++ (toString ((m : Nat) : Int) : Str)).length ≤ 100 ∧ ((("(count " : Str) ++ (toString ((m : Nat) : Int) : Str)) ++ (" " : Str)).length ≤ 100 ∧ (((("(count " : Str) ++ (toString ((m : Nat) : Int) : Str)) ++ (" " : Str)) ++ ordS up).length ≤ 100 := by decide +kernel
def PCut : List V → Hp → HR → Prop := fun vs _ R => ∃ n m : Int, vs = [.int n, .int m] ∧ R = IsV (.int (if n > m then m else n))
def PNum : List V → Hp → HR → Prop := fun vs _ R => ∃ n m : Int, vs = [.int n, .int m] ∧ n.natAbs.log2 < 1920 ∧ R = IsV (.str (cword m n))
def PBeh (C0 : Addr) : List V → Hp → HR → Prop := fun vs G R => ∃ (x dx : Addr) (fs : List (Str × V)) (m i j : Int), vs = [.ref x, .int i, .int j] ∧ G x = some (.ins C0 dx fs) ∧ fs.lookup ("most" : Str) = some (.int m) ∧ R = IsV (.int (cthen m i j))
def PEit (C0 : Addr) : List V → Hp → HR → Prop := fun vs G R => ∃ (x dx : Addr) (fs : List (Str × V)) (up : Bool) (i j : Int), vs = [.ref x, .int i, .int j] ∧ G x = some (.ins C0 dx fs) ∧ fs.lookup ("rising" : Str) = some (.bl up) ∧ R = IsV (.int (ceit up i j))
/-- what CountScale.__init__ asks and leaves -/
def PCsI (C0 : Addr) : Addr → List (Str × V) → List V → Hp → OR → Prop := fun C fs rest _ R => C = C0 ∧ fs = [] ∧ ∃ (m : Nat) (up : Bool), m < 63 ∧ rest = [.int (m : Nat), .str (ordS up)] ∧ R = fun _ _ fs' G' => ScIs (clabel (m : Nat) up) (("never" : Str) :: cwords m) 0 1 1 (cth (m : Nat)) (cjn up) fs' G' ∧ (∀ f, f ∉ wnF → f ≠ ("most" : Str) → f ≠ ("rising" : Str) → fs'.lookup f = none)
theorem dpAll_ints {K : PySem.W.Frag} {G : Hp} : ∀ l : List Int, DpAll K G (l.map V.int) (l.map PyData.int)
  | [] => .nil
  | i :: r => .cons (.int i) (dpAll_ints r)
theorem lay_ints : ∀ l : List Int, PyData.canLayAll0 (l.map PyData.int) = true
  | [] => by simp [PyData.canLayAll0]
  | i :: r => by simp [PyData.canLayAll0, PyData.canLay0, lay_ints r]
theorem lay_nones (l : List Int) : PyData.canLayAll0 (.none :: l.map PyData.int) = true := by simp [PyData.canLayAll0, PyData.canLay0, lay_ints l]
/-- the place of i in (None, 0, .., m) -/
theorem idx_count {K : PySem.W.Frag} {G : Hp} {pt : Addr} {o : Obj} {m i : Nat} (h : G pt = some (.frz o (.tup (.non :: ((List.range (m + 1)).map fun i => V.int (i : Nat)))))) (hi : i ≤ m) : IdxOk K G pt (.int (i : Nat)) (i + 1) := by
  intro S st
  have e : ((List.range (m + 1)).map fun i => V.int (i : Nat)) = ((List.range (m + 1)).map fun i => ((i : Nat) : Int)).map V.int := by rw [List.map_map]; rfl
  rw [e] at h
  refine c_indexTD (z := .int (i : Nat)) (d := .int (i : Nat)) (ds := .none :: ((List.range (m + 1)).map fun i => ((i : Nat) : Int)).map PyData.int) st (.tup (.inl (.inr ⟨o, h⟩)) (.cons .non (dpAll_ints _))) (.int _) (lay_nones _) (by simp [SeqAt.shaped, PyData.canLay0, PyData.depth]) ?_ (by simp [PyData.eqv]) (fun k z hk hz => ?_)
  · show (((List.range (m + 1)).map fun i => ((i : Nat) : Int)).map PyData.int)[i]? = _
    rw [List.getElem?_map, List.getElem?_map, List.getElem?_range (by omega)]
    rfl
  · cases k with
    | zero =>
      cases hz
      simp [PyData.eqv]
    | succ k =>
      have hz' : (((List.range (m + 1)).map fun i => ((i : Nat) : Int)).map PyData.int)[k]? = some z := hz
      rw [List.getElem?_map, List.getElem?_map, List.getElem?_range (by omega)] at hz'
      cases hz'
      simp [PyData.eqv]
      omega
end L2.DS
/-! isinstance of an own error that has fields; methods whose errors a try takes. -/
namespace L2.DS
open PySem PySem.Spec PyProof.Rows
section
variable {S : SR} {n k ka kb : Nat} {te : TE} {t : TA} {σ : L2.St} {G H : Hp} {K : PySem.W.Frag} {a dd D C : Addr} {nm m : Str} {v : V} {fs : List (Str × V)} {c : V} {cv : Value} {b : Bool} {u : TS} {nx bk ct : L2.St → Hp → Prop} {rt : VK}
theorem ev_fldX (st : Stab S) (h : Ev S n k te σ G (IsV (.ref a))) (hd : G dd = some (.xd [(nm, v)])) : Ev S n k (tFldX C nm a (.ref C) (some dd) te) σ G (IsV v) := fun G1 H1 s0 s Q q =>
  h G1 H1 s0 s _ fun x G2 H2 s2 e => ⟨e, rfl, dd, v, rfl, st.sub s2.s _ _ (s2.g _ _ (s0 _ _ hd)), q v G2 H2 s2 rfl⟩
end
end L2.DS
/-! Names of worths and odd words. -/
namespace L2.DS
open PySem PySem.Spec PyProof.Rows
/-- what a stretch of statements leaves as it was -/
structure Fr (S : SR) (G H G' H' : Hp) : Prop where
  g : Same G G'
  k : Kp S H H'
  n : ∀ b o, G' b = some o → G b = some o ∨ H b = none
theorem Fr.refl {S : SR} (G H : Hp) : Fr S G H G H := ⟨Same.refl _, Kp.refl _, fun _ _ e => .inl e⟩
theorem Fr.trans {S : SR} {G H G1 H1 G2 H2 : Hp} (a : Fr S G H G1 H1) (b : Fr S G1 H1 G2 H2) : Fr S G H G2 H2 := ⟨a.g.trans b.g, a.k.trans b.k, fun c o e => by
  rcases b.n c o e with z | z
  · exact a.n c o z
  · exact .inr (a.k.v c z)⟩
theorem Fr.kp {S : SR} {G H G1 H1 H2 : Hp} (a : Fr S G H G1 H1) (b : Kp S H1 H2) : Fr S G H G1 H2 := ⟨a.g, a.k.trans b, a.n⟩
theorem Stp.fr {S : SR} {n : Nat} {G H G1 H1 : Hp} (s : Stp S n G H G1 H1) : Fr S G H G1 H1 := ⟨s.g, s.k, s.n⟩
theorem Fr.stp {S : SR} {n : Nat} {G H G1 H1 : Hp} (f : Fr S G H G1 H1) (s : S n G1 H1) : Stp S n G H G1 H1 := ⟨f.g, f.k, s, f.n⟩
def EvO (S : SR) (n k : Nat) (t : TO) (σ : L2.St) (G : Hp) (o : Option Int) : Prop := ∀ G1 H1, Same G G1 → S n G1 H1 → ∀ Q : Option Int → Hp → Prop, (∀ G2 H2, Stp S (n + k) G1 H1 G2 H2 → Q o H2) → t σ H1 Q
section
variable {S : SR} {n k ka kb kc : Nat} {te ta : TE} {t : TA} {tl th : TO} {σ : L2.St} {G : Hp} {K : PySem.W.Frag} {i : Int} {z : Str} {lo hi : Option Int} {p q : Addr} {xs ys : List V}
theorem eo_none : EvO S n 0 tNoPart σ G none := fun G1 H1 s0 s Q q => q G1 H1 (Stp.refl s)
theorem eo_some (h : Ev S n k te σ G (IsV (.int i))) : EvO S n k (tPart te) σ G (some i) := fun G1 H1 s0 s Q q => h G1 H1 s0 s _ fun v G2 H2 s2 e => ⟨i, e, q G2 H2 s2⟩
theorem rv_imp {r : R2} {x y : V} {R R' : HR} (h : RV S r x y G R) (i : ∀ v G', Same G G' → R v G' → R' v G') : RV S r x y G R' := fun n G1 H1 s0 s Q q => h n G1 H1 s0 s Q fun v G2 H2 s2 r => q v G2 H2 s2 (i v G2 (s0.trans s2.g) r)
/-- the place of a name that stands there -/
theorem ev_at_name (st : Stab S) {C U x dx : Addr} {fs : List (Str × V)} {label nm : Str} {names : List Str} {nv sl dep : Int} {th' jn : Nat → Nat → Int} {j : Nat} {E : XK} (ho : Ev S n ka ta σ G (IsV (.ref x))) (hx : G x = some (.ins C dx fs)) (hm : fs.lookup ("at_name" : Str) = none) (hS : ScAt K label names nv sl dep th' jn x G)
    (hnd : names.Nodup) (hj : names[j]? = some nm) (h : EvA S (n + ka) kb t σ G (IsVs [.str nm])) : Ev S n (ka + kb) (tMeth C "at_name" (sp_at_name K U) [] E ta t) σ G (IsV (.int (j : Nat))) := fun G1 H1 s0 s Q q =>
  ho G1 H1 s0 s _ fun v G2 H2 s2 e => ⟨x, dx, fs, e, st.sub s2.s _ _ (s2.g _ _ (s0 _ _ hx)), hm, h G2 H2 (s0.trans s2.g) s2.s _ fun vs G3 H3 s3 e2 => by
    obtain rfl : v = .ref x := e
    obtain rfl : vs = [.str nm] := e2
    refine ⟨label, names, nv, sl, dep, th', jn, x, nm, G3, rfl, st.sub s3.s, hS.mono ((s0.trans s2.g).trans s3.g), hnd, fun i H4 hi g => ?_, fun hno => absurd (List.mem_of_getElem? hj) hno⟩
    have e : i = j := by
      have h1 := (List.getElem?_eq_some_iff.mp hi).1
      have h2 := (List.getElem?_eq_some_iff.mp hj).1
      have e1 := (List.getElem?_eq_some_iff.mp hi).2
      have e2 := (List.getElem?_eq_some_iff.mp hj).2
      exact (List.getElem_inj hnd).mp (e1.trans e2.symm)
    subst e
    exact q _ G3 H4 ((s2.trans s3).trans (st.gro s3.s g)).up rfl⟩
end
end L2.DS
/-! What the laws' own defs need. -/
namespace L2.DS
open PySem PySem.Spec PyProof.Rows
section
variable {S : SR} {n k : Nat} {te : TE} {tt : TT} {ts t1 t2 u tb : TS} {σ : L2.St} {G H : Hp} {R : HR} {P : Bool → Prop} {x : V} {nx bk ct : L2.St → Hp → Prop} {rt : VK} {i : Nat} {K : PySem.W.Frag}
/-- if, the branches meet again at M -/
theorem q_ifM (st : Stab S) (M : L2.St → Hp → Prop) (s : S n G H) (e : EvT S n k tt σ G P) (rest : ∀ σ' H', M σ' H' → u (Ends.mk nx rt bk ct) σ' H')
    (h1 : ∀ nx', (∀ σ' H', M σ' H' → nx' σ' H') → ∀ H', P true → Kp S H H' → S (n + k) G H' → t1 (Ends.mk nx' rt bk ct) σ H') (h2 : ∀ nx', (∀ σ' H', M σ' H' → nx' σ' H') → ∀ H', P false → Kp S H H' → S (n + k) G H' → t2 (Ends.mk nx' rt bk ct) σ H') :
    tSeq (tIfS tt t1 t2) u (Ends.mk nx rt bk ct) σ H := q_if st s e (h1 _ rest) (h2 _ rest)
/-- state = _law_source(script) -/
theorem q_source {p : Addr} {ns : List Int} {t : TA} {E : XK} {H0 : Hp} (h : ∀ Q : List V → Hp → Prop, Q [.ref p] H0 → t σ H0 Q) (hq : SqL K H0 p (ns.map V.int)) (hl : ns.length ≤ 100000)
    (hr : ∀ sa cl H', Src sa cl 0 H0 H' → u (Ends.mk nx rt bk ct) (σ.set i (some (.ref sa))) H') : tSeq (tAsg (tCall (sp_source K) [] E t) (gName i)) u (Ends.mk nx rt bk ct) σ H0 :=
  h _ ⟨p, ns, rfl, hq, hl, fun sa cl H' s a b c => hr sa cl H' ⟨s, a, b, c⟩⟩
end
/-- a scale of integers stands at x, of the class at C -/
def CsAt (C x : Addr) (t : Nat) (up : Bool) (G : Hp) : Prop := ∃ dx fs, G x = some (.ins C dx fs) ∧ ScIs (clabel (t : Nat) up) (("never" : Str) :: cwords t) 0 1 1 (cth (t : Nat)) (cjn up) fs G ∧ ∀ f, f ∉ wnF → f ≠ ("most" : Str) → f ≠ ("rising" : Str) → fs.lookup f = none
theorem CsAt.mono {C x : Addr} {t : Nat} {up : Bool} {G G' : Hp} (h : CsAt C x t up G) (s : Same G G') : CsAt C x t up G' :=
  let ⟨dx, fs, a, b, c⟩ := h
  ⟨dx, fs, s _ _ a, b.mono s, c⟩
theorem CsAt.of {C : Addr} {t : Nat} {up : Bool} {v : V} {G : Hp} (h : IsO C (fun _ _ fs' G' => ScIs (clabel (t : Nat) up) (("never" : Str) :: cwords t) 0 1 1 (cth (t : Nat)) (cjn up) fs' G' ∧ (∀ f, f ∉ wnF → f ≠ ("most" : Str) → f ≠ ("rising" : Str) → fs'.lookup f = none)) v G) : ∃ x, v = .ref x ∧ CsAt C x t up G := by
  obtain ⟨x, dx, fs, G', rfl, gx, s, a, b⟩ := h
  have s' : Same G' G := fun c o e => s c o (by rw [upd_ne (ne_of_none e gx)]; exact e)
  exact ⟨x, rfl, dx, fs, s _ _ upd_same, a.mono s', b⟩
theorem CsAt.sc {K : PySem.W.Frag} {C x : Addr} {t : Nat} {up : Bool} {G : Hp} (h : CsAt C x t up G) (hC : Cls K C) (hN : ∀ f ∈ scF, NoAttr K C f) : ScAt K (clabel (t : Nat) up) (("never" : Str) :: cwords t) 0 1 1 (cth (t : Nat)) (cjn up) x G :=
  let ⟨dx, fs, a, b, _⟩ := h
  ⟨C, dx, fs, a, hC, hN, b⟩
theorem cwords_short : ∀ t, t < 63 → ∀ nm ∈ (("never" : Str) :: cwords t), nm.length ≤ 10 := by decide +kernel
/-- what each law's own def promises -/
def sp_law (K : PySem.W.Frag) : Sp := fun vs H Q _ => ∃ (p : Addr) (ns : List Int), vs = [.ref p] ∧ SqL K H p (ns.map V.int) ∧ ns.length ≤ 63 ∧ ∀ H', Q (.bl true) H'
end L2.DS
/-! From what the top has written to what the proofs ask. -/
namespace L2.DS
open PySem PySem.Spec PyProof.Rows
theorem mk_funD {K : PySem.W.Frag} {x qual : Str} {st : Stmt} {f T : Addr} {oc : Value} {od an dT : Option Addr} {osl slT : Array (Option Value)} {kV doc pm cdv ct cT : Value} {v : V} {u : Value} {n : Nat}
    (l : K.lookup f = some ⟨oc, od, .func (PySem.W.fnOf x qual (defArgs st) (defBody st) (defScope st) (.ref T) kV doc pm an cdv ct), osl⟩) (c : PySem.W.codeIn K cdv qual = true) (k : PySem.W.keepIn K (.ref f) = true) (lT : K.lookup T = some ⟨cT, dT, .seq [u].toArray n, slT⟩) (r : RelV v u) :
    FunD K x qual (defArgs st) (defBody st) (defScope st) [v] [] f (PySem.W.fnOf x qual (defArgs st) (defBody st) (defScope st) (.ref T) kV doc pm an cdv ct) :=
  ⟨⟨oc, od, .ref T, kV, doc, pm, an, cdv, ct, osl, rfl, l, c, .inr ⟨by simp, T, _, [u], n, rfl, lT, rfl, .cons r .nil⟩, .inl rfl⟩, k⟩
section
variable {P : Program} {K : PySem.W.Frag} {x qual : Str} {st : Stmt} {f cda cc D : Addr} {oc : Value} {od an oc1 oc2 oD : Option Addr} {osl sl1 sl2 slD : Array (Option Value)} {kV doc pm ct c1 c2 cD : Value} {vs : Array Value} {file : Str} {tf : Tok} {cd : ClassData}
theorem mk_funS (l : K.lookup f = some ⟨oc, od, .func (PySem.W.fnX x qual (defArgs st) (defBody st) (defScope st) [("__class__", cc)] .none kV doc pm an (.ref cda) ct), osl⟩) (c : PySem.W.codeIn K (.ref cda) qual = true) (lc : K.lookup cda = some ⟨c1, oc1, .fields vs, sl1⟩) (hv : vs[2]? = some (.str file tf)) (hf : ((P.main.file : Str) == file) = true)
    (lx : K.lookup cc = some ⟨c2, oc2, .cell (some (.ref D)), sl2⟩) (lD : K.lookup D = some ⟨cD, oD, .cls cd, slD⟩) (k : PySem.W.keepIn K (.ref f) = true) (fi : PySem.W.fnIn K f = true) (ty : PySem.W.typeIn K (.ref f) = some (.type "function")) {kws : List (Str × V)} (hk : KwdV K kV kws) :
    FunSD P K x qual st [] kws f (PySem.W.fnX x qual (defArgs st) (defBody st) (defScope st) [("__class__", cc)] .none kV doc pm an (.ref cda) ct) D :=
  ⟨⟨oc, od, .none, kV, doc, pm, an, cda, ct, osl, cc, _, vs, file, tf, c2, oc2, sl2, rfl, l, c, lc, rfl, hv, hf, lx, .inl ⟨rfl, rfl⟩, hk⟩, ⟨_, _, lD, rfl⟩, k, fi, ty⟩
theorem mk_exi {mg : Str → Option Value} {nm txt : Str} {B newId initId : String} {C : Addr} (hc : ExC K C B newId) (iC : PySem.W.findIn K (.ref C) "__init__" = some (some (.ref f))) (tI : PySem.W.typeIn K (.ref f) = some (.type "function")) (noN : PySem.W.findIn K (.ref C) nm = some none) (supI : PySem.W.ks_superIn K C C "__init__" = some (some (.builtin initId)))
    (mroC : PySem.W.mroIn K C (.ref C) = some true) (mgS : mg "super" = none) (opq : PySem.W.nsIn K cStatics "thirdparty.any" = some none) (top0 : (P.main.scope.names.lookup ("super" : Str)).isSome = false)
    (l : K.lookup f = some ⟨oc, od, .func (PySem.W.fnX "__init__" qual (defArgs st) (defBody st) (defScope st) [("__class__", cc)] .none .none doc pm an (.ref cda) ct), osl⟩) (c : PySem.W.codeIn K (.ref cda) qual = true) (lc : K.lookup cda = some ⟨c1, oc1, .fields vs, sl1⟩) (hv : vs[2]? = some (.str file tf)) (hf : ((P.main.file : Str) == file) = true)
    (lx : K.lookup cc = some ⟨c2, oc2, .cell (some (.ref C)), sl2⟩)
    (hb : ∃ txt j a b c d e f g h i k, defBody st = xBody nm txt j a b c d e f g h i k ∧ (∀ env, xPlain txt j a b c d e env) ∧ (∀ env l, swapsWith (.Call (.Attribute (.Call (.Name "super" a) [] [] b) "__init__" c) [.Constant (.str txt) j d] [] e) none l env = pure false) ∧ ∀ env l, swapsWith (.Name nm i) (some (.Attribute (.Name "self" g) nm h)) l env = pure false)
    (hs : (defScope st).kind = .function ∧ (defScope st).isCoroutine = false ∧ (defScope st).isGenerator = false ∧ (∀ x ∈ (defScope st).names, x.2 ≠ NameKind.cell))
    (hn : (defScope st).names.lookup ("self" : Str) = some .local ∧ (defScope st).names.lookup nm = some .local ∧ (defScope st).names.lookup ("__class__" : Str) = some .free ∧ (defScope st).names.lookup ("super" : Str) = some .globalImplicit)
    (ha : ∃ a, ((defArgs st).posonlyargs ++ (defArgs st).args).head? = some a ∧ a.arg = ("self" : Str)) (h1 : nm ≠ ("self" : Str)) (h2 : (nm == ("__debug__" : Str)) = false)
    (hB : ∀ (fd : FuncData) (s : Shared) (x v : Value), fd.params = defArgs st → fd.scope = defScope st → fd.defaults = .none → fd.kwdefaults = .none → BindsTo s fd ⟨[x, v], []⟩ [("self", x), (nm, v)]) : ExI P K mg C f nm B newId initId :=
  ⟨hc, iC, tI, noN, supI, mroC, mgS, opq, top0, st, qual, oc, od, doc, pm, an, cda, ct, osl, cc, _, vs, file, tf, _, l, c, lc, rfl, hv, hf, lx, rfl, hb, hs, hn, ha, h1, h2, hB⟩
end
theorem kwd_none {K : PySem.W.Frag} {kV : Value} : KwdV K kV [] := .inl rfl
theorem kwd_one {K : PySem.W.Frag} {D : Addr} {x : Str} {v : V} {u : Value} (h : PySem.W.nsIn K D x = some (some u)) (r : RelV v u) : KwdV K (.ref D) [(x, v)] := .inr ⟨D, rfl, fun q hq => by
  obtain rfl : q = (x, v) := by simpa using hq
  exact ⟨u, h, r⟩⟩
end L2.DS
/-! Own errors as values. -/
namespace L2.DS
open PySem PySem.Spec PyProof.Rows
/-- an error of the class at C stands at e, its dict at d (or none) -/
def ErO (C : Addr) (d : Option Addr) (e : Addr) : HO := .ext fun h => ∃ (oe : Obj) (vs : Array Value), h.get? e = some oe ∧ Zc (.ref C) d oe ∧ oe.data = .fields vs
/-! ### what evaluates to an error -/
def IsEr (C : Addr) (nm : Str) (v : V) : HR := fun u G => ∃ e dd, u = .ref e ∧ G e = some (ErO C (some dd) e) ∧ G dd = some (.xd [(nm, v)])
def IsEr0 (C : Addr) : HR := fun u G => ∃ e, u = .ref e ∧ G e = some (ErO C none e)
instance (C nm v) : Mon (IsEr C nm v) := ⟨fun s ⟨e, dd, a, b, c⟩ => ⟨e, dd, a, s _ _ b, s _ _ c⟩⟩
instance (C) : Mon (IsEr0 C) := ⟨fun s ⟨e, a, b⟩ => ⟨e, a, s _ _ b⟩⟩
/-- an error of the class at C, with a field or none -/
def IsErA (C : Addr) : HR := fun u G => ∃ e d, u = .ref e ∧ G e = some (ErO C d e) ∧ (d = none ∨ ∃ dd fs, d = some dd ∧ G dd = some (.xd fs))
theorem IsEr.any {C : Addr} {nm : Str} {v u : V} {G : Hp} (h : IsEr C nm v u G) : IsErA C u G := let ⟨e, dd, a, b, c⟩ := h; ⟨e, _, a, b, .inr ⟨dd, _, rfl, c⟩⟩
theorem IsEr0.any {C : Addr} {u : V} {G : Hp} (h : IsEr0 C u G) : IsErA C u G := let ⟨e, a, b⟩ := h; ⟨e, _, a, b, .inl rfl⟩
instance (C) : Mon (IsErA C) := ⟨fun s ⟨e, d, a, b, c⟩ => ⟨e, d, a, s _ _ b, c.imp id fun ⟨dd, fs, x, y⟩ => ⟨dd, fs, x, s _ _ y⟩⟩⟩
/-- a list of things as RA tells -/
def IsLX (RA : HRs) : HR := fun v G => ∃ p xs, v = .ref p ∧ G p = some (.lst xs) ∧ RA xs G
instance (RA) [Mons RA] : Mon (IsLX RA) := ⟨fun s ⟨p, xs, e, h, r⟩ => ⟨p, xs, e, s _ _ h, Mons.mon s r⟩⟩
/-- an error told by its class and its field -/
def IsErS (s : Addr × Option (Str × V)) : HR := fun u G => match s.2 with
  | none => IsEr0 s.1 u G
  | some p => IsEr s.1 p.1 p.2 u G
instance (s) : Mon (IsErS s) := ⟨fun {u G G'} t h => by
  obtain ⟨C, o⟩ := s
  cases o with
  | none => exact (Mon.mon t (show IsEr0 C u G from h) : IsEr0 C u G')
  | some p => exact (Mon.mon t (show IsEr C p.1 p.2 u G from h) : IsEr C p.1 p.2 u G')⟩
theorem IsErS.any {s : Addr × Option (Str × V)} {u : V} {G : Hp} (h : IsErS s u G) : IsErA s.1 u G := by
  obtain ⟨C, o⟩ := s
  cases o with
  | none => exact (show IsEr0 C u G from h).any
  | some p => exact (show IsEr C p.1 p.2 u G from h).any
def RE : List (Addr × Option (Str × V)) → HRs
  | [] => RNil
  | s :: r => RCons (IsErS s) (RE r)
theorem re_mon : ∀ {ss : List (Addr × Option (Str × V))} {vs : List V} {G G' : Hp}, Same G G' → RE ss vs G → RE ss vs G'
  | [], _, _, _, _, h => h
  | s :: r, _, _, _, t, ⟨v, w, e, h, h'⟩ => ⟨v, w, e, Mon.mon t h, re_mon t h'⟩
instance (ss) : Mons (RE ss) := ⟨re_mon⟩
section
variable {S : SR} {n k ka kb : Nat} {t ta : TA} {te : TE} {σ : L2.St} {G H : Hp} {K : PySem.W.Frag} {C e : Addr} {nm : Str} {v c : V} {cv : Value} {b : Bool} {RA RB : HRs} {p q : Addr} {xs ys : List V}
theorem ev_lstX (st : Stab S) [Mons RA] (h : EvA S n k t σ G RA) (hl : ∀ vs G', RA vs G' → vs.length ≤ 100000) : Ev S n k (tLst t) σ G (IsLX RA) := fun G1 H1 s0 s Q q =>
  h G1 H1 s0 s _ fun vs G2 H2 s2 e => ⟨Nat.le_trans (hl vs G2 e) (by decide), fun p hp => by
    have g := st.new (o := .lst vs) s2.s hp
    exact q (.ref p) _ _ (s2.trans g) ⟨p, vs, rfl, upd_same, Mons.mon g.g e⟩⟩
end
/-! ### texts and lists several times -/
def IsBl (L : List V) : HR := fun v G' => ∃ p, v = .ref p ∧ G' p = some (.lst L)
instance (L) : Mon (IsBl L) := ⟨fun s ⟨p, e, h⟩ => ⟨p, e, s _ _ h⟩⟩
end L2.DS
/-! Lists told thing by thing; comprehensions of two loops, over pairs. -/
namespace L2.DS
open PySem PySem.Spec PyProof.Rows
section
variable {α : Type} {R : α → HR}
/-- one thing behind the other, as R tells each -/
def RL (R : α → HR) : List α → HRs
  | [] => RNil
  | a :: r => RCons (R a) (RL R r)
theorem rl_mon [∀ a, Mon (R a)] : ∀ {ss : List α} {vs : List V} {G G' : Hp}, Same G G' → RL R ss vs G → RL R ss vs G'
  | [], _, _, _, _, h => h
  | s :: r, _, _, _, t, ⟨v, w, e, h, h'⟩ => ⟨v, w, e, Mon.mon t h, rl_mon t h'⟩
instance [∀ a, Mon (R a)] (ss : List α) : Mons (RL R ss) := ⟨rl_mon⟩
theorem rl_len : ∀ {ss : List α} {vs : List V} {G : Hp}, RL R ss vs G → vs.length = ss.length
  | [], _, _, h => by rw [show _ = [] from h]; rfl
  | s :: r, _, _, ⟨v, w, e, _, h⟩ => by rw [e, List.length_cons, List.length_cons, rl_len h]
theorem rl_app : ∀ {ss ts : List α} {vs ws : List V} {G : Hp}, RL R ss vs G → RL R ts ws G → RL R (ss ++ ts) (vs ++ ws) G
  | [], _, _, _, _, h, h' => by
    obtain rfl := (show _ = [] from h)
    exact h'
  | s :: r, _, _, _, _, ⟨v, w, e, a, b⟩, h' => ⟨v, w ++ _, by rw [e]; rfl, a, rl_app b h'⟩
theorem rl_one {a : α} {v : V} {G : Hp} (h : R a v G) : RL R [a] [v] G := ⟨v, [], rfl, h, rfl⟩
theorem rl_get : ∀ {ss : List α} {vs : List V} {G : Hp} {i : Nat} {s : α}, RL R ss vs G → ss[i]? = some s → ∃ v, vs[i]? = some v ∧ R s v G
  | [], _, _, i, s, _, e => by simp at e
  | t :: r, _, _, 0, s, ⟨v, w, e, a, b⟩, h => by
    cases h
    exact ⟨v, by rw [e]; rfl, a⟩
  | t :: r, _, _, i + 1, s, ⟨v, w, e, a, b⟩, h => by
    obtain ⟨u, h1, h2⟩ := rl_get (i := i) b h
    exact ⟨u, by rw [e]; exact h1, h2⟩
theorem rl_vals {g : α → V} : ∀ {ss : List α} {vs : List V} {G : Hp}, RL (fun a => IsV (g a)) ss vs G → vs = ss.map g
  | [], _, _, h => h
  | s :: r, _, _, ⟨v, w, e, a, b⟩ => by rw [e, show v = g s from a, rl_vals b]; rfl
/-- a list newly made -/
def IsNX (F : Hp) (RA : HRs) : HR := fun v G => ∃ p xs, v = .ref p ∧ F p = none ∧ G p = some (.lst xs) ∧ RA xs G
instance (F RA) [Mons RA] : Mon (IsNX F RA) := ⟨fun s ⟨p, xs, e, f, h, r⟩ => ⟨p, xs, e, f, s _ _ h, Mons.mon s r⟩⟩
/-- the list at D grows -/
def LcQ (S : SR) (G2 H2 : Hp) (n : Nat) (D : Addr) (R : α → HR) (ss : List α) (J : Hp) : Prop := ∃ G3 acc, Stp S n G2 H2 G3 J ∧ G3 D = none ∧ J D = some (.lst acc) ∧ RL R ss acc G3
variable {S : SR} {n k c1 : Nat} {te el : TE} {σ : L2.St} {G : Hp} {K : PySem.W.Frag}
theorem lcq_start (st : Stab S) {G2 H2 : Hp} {D : Addr} (a : S n G2 H2) (hD : H2 D = none) : LcQ S G2 H2 n D R [] (upd H2 D (.lst [])) := by
  have gD : G2 D = none := (st.sub a).free hD
  exact ⟨G2, [], ⟨Same.refl _, kp_new (Kp.refl H2) hD, st.chg a hD a gD, fun _ _ h => .inl h⟩, gD, upd_same, rfl⟩
theorem lcq_end (st : Stab S) [∀ a, Mon (R a)] {G1 H1 G2 H2 H : Hp} {D : Addr} {ss : List α} {Q : VK} (a : Stp S n G1 H1 G2 H2) (hD : H2 D = none) (h : LcQ S G2 H2 n D R ss H)
    (q : ∀ v G' H', Stp S n G1 H1 G' H' → IsNX G1 (RL R ss) v G' → Q v H') : Q (.ref D) H := by
  obtain ⟨G3, acc, s3, c, d, r⟩ := h
  have t := a.trans s3
  have g4 : Same G3 (upd G3 D (.lst acc)) := fun y o z => by
    rw [upd_ne (ne_of_none z c)]
    exact z
  refine q (.ref D) _ H ⟨t.g.trans g4, t.k, st.pub a.s hD s3.s c d, fun b o e => ?_⟩ ⟨D, acc, rfl, t.g.free c, upd_same, rl_mon g4 r⟩
  by_cases hb : b = D
  · rw [hb]
    exact .inr (a.k.v D hD)
  · rw [upd_ne hb] at e
    exact t.n b o e
/-- one more thing -/
theorem lcq_step (st : Stab S) [∀ a, Mon (R a)] {G2 H2 J : Hp} {D : Addr} {ss : List α} {x : α} {Nx : Hp → Prop} (a : S n G2 H2) (hD : H2 D = none) (h : LcQ S G2 H2 n D R ss J) (hl : ss.length < 100000)
    (hs : ∀ G', Same G2 G' → Ev S n 0 el σ G' (R x)) (hN : ∀ J', LcQ S G2 H2 n D R (ss ++ [x]) J' → Nx J') :
    el σ J fun y H4 => ∃ acc, H4 D = some (.lst acc) ∧ acc.length < sizeLine ∧ Nx (upd H4 D (.lst (acc ++ [y]))) := by
  obtain ⟨G3, acc, s3, c, d, r⟩ := h
  refine hs G3 s3.g G3 J (Same.refl _) s3.s _ fun y G4 J4 s4 ry => ?_
  have d4 : J4 D = some (.lst acc) := s4.k.k D _ (st.fre a hD) d
  have c4 : G4 D = none := by
    cases e : G4 D with
    | none => rfl
    | some o =>
      rcases s4.n D o e with q | q
      · rw [c] at q
        cases q
      · rw [d] at q
        cases q
  have t : Stp S n G2 H2 G4 J4 := s3.trans s4
  have ll := rl_len r
  refine ⟨acc, d4, Nat.lt_of_lt_of_le (show acc.length < 100000 by omega) (by decide), hN _ ⟨G4, acc ++ [y], ⟨t.g, kp_new t.k hD, st.chg a hD t.s c4, t.n⟩, c4, upd_same, rl_app (rl_mon s4.g r) (rl_one ry)⟩⟩
theorem lcq_move (st : Stab S) [∀ a, Mon (R a)] {G2 H2 J G3 G4 H4 : Hp} {D : Addr} {ss : List α} {acc : List V} (a : S n G2 H2) (hD : H2 D = none) (s3 : Stp S n G2 H2 G3 J) (c : G3 D = none) (d : J D = some (.lst acc)) (r : RL R ss acc G3) (s4 : Stp S n G3 J G4 H4) : LcQ S G2 H2 n D R ss H4 := by
  have c4 : G4 D = none := by
    cases e : G4 D with
    | none => rfl
    | some o =>
      rcases s4.n D o e with q | q
      · rw [c] at q
        cases q
      · rw [d] at q
        cases q
  exact ⟨G4, acc, s3.trans s4, c4, s4.k.k D _ (st.fre a hD) d, rl_mon s4.g r⟩
/-- [el for x in xs], any target -/
theorem ev_lcG (st : Stab S) [∀ a, Mon (R a)] {g : TG} {vs : List Nat} {p : Addr} {xs : List V} {ss : List α} {σf : Nat → L2.St} (e : Ev S n k te σ G (IsV (.ref p))) (hq : SqL K G p xs) (hx : xs.length = ss.length) (hl : xs.length ≤ 100000)
    (hg : ∀ j x G' J, xs[j]? = some x → Same G G' → Same G' J → ∀ Q : L2.St → Hp → Prop, Q (σf j) J → g x (wipe σ vs) J Q) (hw : ∀ j, wipe (σf j) vs = wipe σ vs)
    (hs : ∀ j x s G', xs[j]? = some x → ss[j]? = some s → Same G G' → Ev S (n + k) 0 el (σf j) G' (R s)) : Ev S n k (tLc (iList K te) g tYes el vs) σ G (IsNX G (RL R ss)) := fun G1 H1 s0 s Q q =>
  e G1 H1 s0 s _ fun v G2 H2 s2 ev => ⟨p, ev, ⟨xs, Same.seq (s0.trans (s2.g.trans (st.sub s2.s))) hq⟩, fun D hD =>
    lc_list (K := K) (a := p) (xs := xs) (fun j J => j ≤ xs.length ∧ LcQ S G2 H2 (n + k) D R (ss.take j) J) ⟨Nat.zero_le _, lcq_start st s2.s hD⟩ (fun j J _ ⟨_, G3, acc, a, _⟩ => ((s0.trans s2.g).trans (a.g.trans (st.sub a.s))).seq hq)
      (fun j x J hx' ⟨_, h⟩ => by
        have hj : j < xs.length := (List.getElem?_eq_some_iff.mp hx').1
        obtain ⟨G3, acc, a, b⟩ := id h
        refine hg j x G3 J hx' ((s0.trans s2.g).trans a.g) (st.sub a.s) _ ⟨hw j, tYes_run (iteT ?_)⟩
        have hsj : ss[j]? = some ss[j] := List.getElem?_eq_getElem (by omega)
        refine lcq_step (x := ss[j]) (Nx := fun J => j + 1 ≤ xs.length ∧ LcQ S G2 H2 (n + k) D R (ss.take (j + 1)) J) st s2.s hD h (by rw [List.length_take]; omega) (fun G' g' => hs j x _ G' hx' hsj ((s0.trans s2.g).trans g')) fun J' h' => ⟨hj, ?_⟩
        rw [List.take_succ_eq_append_getElem (by omega)]
        exact h')
      fun J ⟨_, h⟩ => by
        rw [hx, List.take_length] at h
        exact lcq_end st s2 hD h fun v G' H' a ⟨p, xs, e, f, r⟩ => q v G' H' a ⟨p, xs, e, s0.free f, r⟩⟩
end
end L2.DS
/-! Scales of spans. -/
namespace L2.DS
open PySem PySem.Spec PyProof.Rows
/-- the tuple of two whole numbers -/
def IsPr (s : Int × Int) : HR := fun v G => ∃ p, v = .ref p ∧ G p = some (.tup [.int s.1, .int s.2])
instance (s) : Mon (IsPr s) := ⟨fun t ⟨p, e, h⟩ => ⟨p, e, t _ _ h⟩⟩
def spansL (m : Nat) : List (Int × Int) := (List.range (m + 1)).flatMap fun a => (List.range (((m : Int) + 1) - (a : Nat)).toNat).map fun t => (((a : Nat) : Int), ((a : Nat) : Int) + (t : Nat))
/-- the place of a span behind never -/
def spl (m : Nat) (s : Int × Int) : Nat := (spansL m).idxOf s + 1
end L2.DS
/-! Growing lists told thing by thing; loops with free invariants; l.index. -/
namespace L2.DS
open PySem PySem.Spec PyProof.Rows
section
variable {α : Type} {R : α → HR} {S : SR} {n n0 k : Nat} {te : TE} {t : TA} {tb u : TS} {σ : L2.St} {G H G1 H1 J : Hp} {nx bk ct : L2.St → Hp → Prop} {rt : VK} {i j : Nat} {K : PySem.W.Frag} {D p : Addr} {ss : List α} {x : α} {xs : List V}
/-- x = [..], a list that shall grow -/
theorem q_newX (st : Stab S) [∀ a, Mon (R a)] (s : S n G H) (e : EvA S n k t σ G (RL R ss)) (hl : ss.length ≤ 100000)
    (h : ∀ D G1 H1 J, Stp S (n + k) G H G1 H1 → H1 D = none → LcQ S G1 H1 (n + k) D R ss J → u (Ends.mk nx rt bk ct) (σ.set i (some (.ref D))) J) :
    tSeq (tAsg (tLst t) (gName i)) u (Ends.mk nx rt bk ct) σ H := e G H (Same.refl _) s _ fun ws G1 H1 s1 ev => by
  refine ⟨by rw [rl_len ev]; exact Nat.le_trans hl (by decide), fun D hD => ?_⟩
  have gD : G1 D = none := (st.sub s1.s).free hD
  exact h D G1 H1 _ s1 hD ⟨G1, ws, ⟨Same.refl _, kp_new (Kp.refl H1) hD, st.chg s1.s hD s1.s gD, fun _ _ h => .inl h⟩, gD, upd_same, ev⟩
theorem LcQ.sub (st : Stab S) (h : LcQ S G1 H1 n D R ss J) : ∃ G3, Same G1 G3 ∧ S n G3 J := by
  obtain ⟨G3, acc, s3, _⟩ := h
  exact ⟨G3, s3.g, s3.s⟩
/-- the list is done -/
theorem LcQ.pub (st : Stab S) [∀ a, Mon (R a)] (a : S n0 G1 H1) (hn : n0 ≤ n) (hD : H1 D = none) (h : LcQ S G1 H1 n D R ss J) : ∃ G', Stp S n G1 H1 G' J ∧ IsNX G1 (RL R ss) (.ref D) G' :=
  lcq_end (Q := fun v H => ∃ G', Stp S n G1 H1 G' H ∧ IsNX G1 (RL R ss) v G') st (Stp.refl (st.wk a hn)) hD h fun v G' H' s r => ⟨G', s, r⟩
end
end L2.DS
/-! Spans as the law tells them: lists, the empty one is never. -/
namespace L2.DS
open PySem PySem.Spec PyProof.Rows
abbrev OS := Option (Int × Int)
def lsv : OS → List V
  | none => [] | some s => [.int s.1, .int s.2]
def IsLs (o : OS) : HR := fun v G => ∃ p, v = .ref p ∧ G p = some (.lst (lsv o))
instance (o) : Mon (IsLs o) := ⟨fun t ⟨p, e, h⟩ => ⟨p, e, t _ _ h⟩⟩
end L2.DS
/-! A scale of any family, made and asked. -/
namespace L2.DS
open PySem PySem.Spec PyProof.Rows
def metF : List Str := ["then_at", "join_at", "within_at", "name_at", "at_name"]
/-- a scale of the class at C stands at x -/
def ScC (C x : Addr) (label : Str) (names : List Str) (nv sl dep : Int) (th jn : Nat → Nat → Int) (G : Hp) : Prop := ∃ dx fs, G x = some (.ins C dx fs) ∧ ScIs label names nv sl dep th jn fs G ∧ ∀ f ∈ metF, fs.lookup f = none
section
variable {C x : Addr} {label : Str} {names : List Str} {nv sl dep : Int} {th jn : Nat → Nat → Int} {G G' : Hp} {K : PySem.W.Frag}
theorem ScC.mono (h : ScC C x label names nv sl dep th jn G) (s : Same G G') : ScC C x label names nv sl dep th jn G' :=
  let ⟨dx, fs, a, b, c⟩ := h
  ⟨dx, fs, s _ _ a, b.mono s, c⟩
theorem ScC.sc (h : ScC C x label names nv sl dep th jn G) (hC : Cls K C) (hN : ∀ f ∈ scF, NoAttr K C f) : ScAt K label names nv sl dep th jn x G :=
  let ⟨dx, fs, a, b, _⟩ := h
  ⟨C, dx, fs, a, hC, hN, b⟩
theorem ScC.of {R : OR} {v : V} (h : IsO C R v G) (i : ∀ a b fs' G', R a b fs' G' → ScIs label names nv sl dep th jn fs' G' ∧ ∀ f ∈ metF, fs'.lookup f = none) : ∃ x, v = .ref x ∧ ScC C x label names nv sl dep th jn G := by
  obtain ⟨x, dx, fs, G', rfl, gx, s, a⟩ := h
  have s' : Same G' G := fun c o e => s c o (by rw [upd_ne (ne_of_none e gx)]; exact e)
  obtain ⟨b, c⟩ := i _ _ _ _ a
  exact ⟨x, rfl, dx, fs, s _ _ upd_same, b.mono s', c⟩
variable {S : SR} {n k ka kb : Nat} {ta tb : TE} {σ : L2.St} {i : Nat} {P : Program} {w : World} {mg : Str → Option Value} {base : Heap}
end
end L2.DS
/-! Loops whose turns leave the heap; comprehensions with tests; readings of several kinds; bits. -/
namespace L2.DS
open PySem PySem.Spec PyProof.Rows
section
variable {α : Type} {R : α → HR} {S : SR} {n n0 k c1 : Nat} {te el : TE} {tt : TT} {t ta : TA} {tb u : TS} {σ : L2.St} {G H G1 H1 J : Hp} {nx bk ct : L2.St → Hp → Prop} {rt : VK} {i j : Nat} {K : PySem.W.Frag} {D p : Addr} {ss : List α} {x : α} {xs : List V} {vs : List Nat} {g : TG}
theorem et_yes : EvT S n 0 tYes σ G (fun c => c = true) := fun G1 H1 _ s Q q => tYes_run (q true G1 H1 (Stp.refl s) rfl)
theorem Stp.go {H' : Hp} (a : Stp S n0 G H G J) (k : Kp S J H') (s : S n G H') : Stp S n G H G H' := ⟨Same.refl _, a.k.trans k, s, fun _ _ h => .inl h⟩
theorem Stp.go0 {H' : Hp} (k : Kp S H H') (s : S n G H') : Stp S n G H G H' := ⟨Same.refl _, k, s, fun _ _ h => .inl h⟩
/-- for x in range(m): the turns change locals alone -/
theorem q_forP {m : Int} (st : Stab S) (s : S n G H) (e : EvA S n k ta σ G (IsVs [.int m])) (h1 : -(2 ^ 62) ≤ m) (h2 : m < 2 ^ 62) (Pv : Nat → L2.St → Prop) (h0 : Pv 0 σ)
    (hs : ∀ (j : Nat) σ' J, (j : Int) < m → Pv j σ' → Stp S (n + k) G H G J → tb (Ends.mk (fun τ J => Pv (j + 1) τ ∧ Stp S (n + k) G H G J) rt (u (Ends.mk nx rt bk ct)) (fun τ J => Pv (j + 1) τ ∧ Stp S (n + k) G H G J)) (σ'.set i (some (.int j))) J)
    (hd : ∀ σ' J, Pv m.toNat σ' → Stp S (n + k) G H G J → u (Ends.mk nx rt bk ct) σ' J) : tSeq (tFor (iRng1 ta) (gName i) tb) u (Ends.mk nx rt bk ct) σ H := by
  refine e G H (Same.refl _) s _ fun v G1 H1 s1 ev => ⟨m, ev, h1, h2, for_range (lo := 0) (n := m.toNat) (fun j τ J => Pv j τ ∧ Stp S (n + k) G H G J) ⟨h0, Stp.go0 s1.k (st.anti s s1.s s1.g)⟩ (fun j τ J hx hp => ?_) fun τ J hp => hd τ J hp.1 hp.2⟩
  show tb _ (τ.set i (some (.int (0 + j)))) J
  rw [Int.zero_add]
  exact hs j τ J (by omega) hp.1 hp.2
/-- for .. in e, e a list that is made for it: G2 tells what stands behind it -/
theorem q_forPX {RA : HRs} [Mons RA] (st : Stab S) (s : S n G H) (e : Ev S n k te σ G (IsLX RA)) (Pv : Nat → L2.St → Prop) (h0 : Pv 0 σ)
    (hb : ∀ p xs G2 H2, Stp S (n + k) G H G2 H2 → G2 p = some (.lst xs) → RA xs G2 →
    (∀ (j : Nat) x σ' J, xs[j]? = some x → Pv j σ' → Stp S (n + k) G2 H2 G2 J → g x σ' J fun σ2 J2 => tb (Ends.mk (fun τ J => Pv (j + 1) τ ∧ Stp S (n + k) G2 H2 G2 J) rt (u (Ends.mk nx rt bk ct)) (fun τ J => Pv (j + 1) τ ∧ Stp S (n + k) G2 H2 G2 J)) σ2 J2) ∧
    ∀ σ' J, Pv xs.length σ' → Stp S (n + k) G2 H2 G2 J → u (Ends.mk nx rt bk ct) σ' J) : tSeq (tFor (iList K te) g tb) u (Ends.mk nx rt bk ct) σ H := by
  refine e G H (Same.refl _) s _ fun v G1 H1 s1 ev => ?_
  obtain ⟨p, xs, rfl, gp, ra⟩ := ev
  obtain ⟨hs, hd⟩ := hb p xs G1 H1 s1 gp ra
  have hq : SqL K G1 p xs := SqL.of gp
  refine ⟨p, rfl, ⟨xs, Same.seq (st.sub s1.s) hq⟩, for_list (K := K) (a := p) (xs := xs) (fun j τ J => Pv j τ ∧ Stp S (n + k) G1 H1 G1 J) ⟨h0, Stp.refl s1.s⟩ (fun j τ J _ hp => (st.sub hp.2.s).seq hq) (fun j x τ J hx hp => hs j x τ J hx hp.1 hp.2) fun τ J hp => hd τ J hp.1 hp.2⟩
/-- a turn of a comprehension with a test -/
theorem lcq_test (st : Stab S) [∀ a, Mon (R a)] {G2 H2 J : Hp} {D : Addr} {ss : List α} {x : α} {b : Bool} {Nx : Hp → Prop} (a : S n G2 H2) (hD : H2 D = none) (h : LcQ S G2 H2 n D R ss J) (hl : ss.length < 100000)
    (ht : ∀ G', Same G2 G' → EvT S n 0 tt σ G' (fun c => c = b)) (hs : b = true → ∀ G', Same G2 G' → Ev S n 0 el σ G' (R x)) (hN : ∀ J', LcQ S G2 H2 n D R (if b then ss ++ [x] else ss) J' → Nx J') :
    tt σ J fun b H3 => if b = true then el σ H3 fun y H4 => ∃ acc, H4 D = some (.lst acc) ∧ acc.length < sizeLine ∧ Nx (upd H4 D (.lst (acc ++ [y]))) else Nx H3 := by
  obtain ⟨G3, acc, s3, c, d, r⟩ := id h
  refine ht G3 s3.g G3 J (Same.refl _) s3.s _ fun c' G4 H4 s4 e => ?_
  have e : c' = b := e
  subst e
  have h4 : LcQ S G2 H2 n D R ss H4 := lcq_move st a hD s3 c d r s4
  cases c' with
  | true => exact iteT (lcq_step st a hD h4 hl (hs rfl) hN)
  | false => exact iteF (hN _ h4)
theorem filt_step {b : Nat → Bool} {sj : Nat → α} (j : Nat) : ((List.range (j + 1)).filter b).map sj = if b j then ((List.range j).filter b).map sj ++ [sj j] else ((List.range j).filter b).map sj := by
  rw [List.range_succ, List.filter_append, List.map_append]
  by_cases h : b j
  · rw [if_pos h, List.filter_cons_of_pos h]
    rfl
  · rw [if_neg h, List.filter_cons_of_neg h]
    simp
theorem filt_len {b : Nat → Bool} {sj : Nat → α} (j : Nat) : (((List.range j).filter b).map sj).length ≤ j := by
  rw [List.length_map]
  have := List.length_filter_le b (List.range j)
  rw [List.length_range] at this
  exact this
/-- [el for .. in xs if tt], any target -/
theorem ev_lcF (st : Stab S) [∀ a, Mon (R a)] {b : Nat → Bool} {sj : Nat → α} {σf : Nat → L2.St} (e : Ev S n k te σ G (IsV (.ref p))) (hq : SqL K G p xs) (hl : xs.length ≤ 100000)
    (hg : ∀ j x G' J, xs[j]? = some x → Same G G' → Same G' J → ∀ Q : L2.St → Hp → Prop, Q (σf j) J → g x (wipe σ vs) J Q) (hw : ∀ j, wipe (σf j) vs = wipe σ vs)
    (ht : ∀ j x G', xs[j]? = some x → Same G G' → EvT S (n + k) 0 tt (σf j) G' (fun c => c = b j))
    (hs : ∀ j x G', xs[j]? = some x → b j = true → Same G G' → Ev S (n + k) 0 el (σf j) G' (R (sj j))) : Ev S n k (tLc (iList K te) g tt el vs) σ G (IsNX G (RL R (((List.range xs.length).filter b).map sj))) := fun G1 H1 s0 s Q q =>
  e G1 H1 s0 s _ fun v G2 H2 s2 ev => ⟨p, ev, ⟨xs, Same.seq (s0.trans (s2.g.trans (st.sub s2.s))) hq⟩, fun D hD =>
    lc_list (K := K) (a := p) (xs := xs) (fun j J => LcQ S G2 H2 (n + k) D R (((List.range j).filter b).map sj) J) (lcq_start st s2.s hD) (fun j J _ ⟨G3, acc, a, _⟩ => ((s0.trans s2.g).trans (a.g.trans (st.sub a.s))).seq hq)
      (fun j x J hx' h => by
        have hj : j < xs.length := (List.getElem?_eq_some_iff.mp hx').1
        obtain ⟨G3, acc, a, _⟩ := id h
        refine hg j x G3 J hx' ((s0.trans s2.g).trans a.g) (st.sub a.s) _ ⟨hw j, ?_⟩
        have hll := filt_len (b := b) (sj := sj) j
        refine lcq_test (b := b j) (x := sj j) (Nx := fun J => LcQ S G2 H2 (n + k) D R (((List.range (j + 1)).filter b).map sj) J) st s2.s hD h (by omega) (fun G' g' => ht j x G' hx' ((s0.trans s2.g).trans g')) (fun hb G' g' => hs j x G' hx' hb ((s0.trans s2.g).trans g')) fun J' h' => ?_
        rw [filt_step]
        exact h')
      fun J h => by
        refine lcq_end st s2 hD h fun v G' H' s' r => q v G' H' s' ?_
        obtain ⟨p', ys, e1, e2, e3, e4⟩ := r
        exact ⟨p', ys, e1, s0.free e2, e3, e4⟩⟩
/-- [el for x in range(m) if tt] -/
theorem ev_lcFR (st : Stab S) [∀ a, Mon (R a)] {m : Int} {b : Nat → Bool} {sj : Nat → α} {σf : Nat → L2.St} (e : EvA S n k ta σ G (IsVs [.int m])) (h1 : -(2 ^ 62) ≤ m) (hl : m ≤ 100000)
    (hg : ∀ j J, ∀ Q : L2.St → Hp → Prop, Q (σf j) J → g (.int (j : Nat)) (wipe σ vs) J Q) (hw : ∀ j, wipe (σf j) vs = wipe σ vs)
    (ht : ∀ (j : Nat) G', (j : Int) < m → Same G G' → EvT S (n + k) 0 tt (σf j) G' (fun c => c = b j))
    (hs : ∀ (j : Nat) G', (j : Int) < m → b j = true → Same G G' → Ev S (n + k) 0 el (σf j) G' (R (sj j))) : Ev S n k (tLc (iRng1 ta) g tt el vs) σ G (IsNX G (RL R (((List.range m.toNat).filter b).map sj))) := fun G1 H1 s0 s Q q =>
  e G1 H1 s0 s _ fun v G2 H2 s2 ev => ⟨m, ev, h1, by omega, fun D hD =>
    lc_range (lo := 0) (n := m.toNat) (fun j J => LcQ S G2 H2 (n + k) D R (((List.range j).filter b).map sj) J) (lcq_start st s2.s hD)
      (fun j J hx' h => by
        show g (.int (0 + (j : Nat))) _ _ _
        rw [Int.zero_add]
        refine hg j J _ ⟨hw j, ?_⟩
        have hll := filt_len (b := b) (sj := sj) j
        refine lcq_test (b := b j) (x := sj j) (Nx := fun J => LcQ S G2 H2 (n + k) D R (((List.range (j + 1)).filter b).map sj) J) st s2.s hD h (by omega) (fun G' g' => ht j G' (by omega) ((s0.trans s2.g).trans g')) (fun hb G' g' => hs j G' (by omega) hb ((s0.trans s2.g).trans g')) fun J' h' => ?_
        rw [filt_step]
        exact h')
      fun J h => by
        refine lcq_end st s2 hD h fun v G' H' s' r => q v G' H' s' ?_
        obtain ⟨p', ys, e1, e2, e3, e4⟩ := r
        exact ⟨p', ys, e1, s0.free e2, e3, e4⟩⟩
/-- values alone -/
theorem isNX_V {F : Hp} {f : α → V} {v : V} (h : IsNX F (RL (fun a => IsV (f a)) ss) v G) : IsNew F (.lst (ss.map f)) v G := by
  obtain ⟨p, xs, e, a, b, r⟩ := h
  rw [rl_vals r] at b
  exact ⟨p, e, a, b⟩
theorem filt_true {m : Nat} {sj : Nat → α} : ((List.range m).filter fun _ => true).map sj = (List.range m).map sj := by
  rw [List.filter_eq_self.mpr fun _ _ => rfl]
/-- [el for x in range(m)], values -/
theorem ev_lcV (st : Stab S) {m : Int} {f : Nat → V} (e : EvA S n k ta σ G (IsVs [.int m])) (h1 : -(2 ^ 62) ≤ m) (hl : m ≤ 100000) (hw : ∀ x : V, wipe ((wipe σ vs).set i (some x)) vs = wipe σ vs)
    (hs : ∀ (j : Nat) G', (j : Int) < m → Same G G' → Ev S (n + k) 0 el ((wipe σ vs).set i (some (.int j))) G' (IsV (f j))) : Ev S n k (tLc (iRng1 ta) (gName i) tYes el vs) σ G (IsNew G (.lst ((List.range m.toNat).map f))) := by
  refine (ev_lcFR (R := fun v : V => IsV v) (b := fun _ => true) (sj := f) (σf := fun j => (wipe σ vs).set i (some (.int j))) st e h1 hl (fun j J Q q => q) (fun j => hw _) (fun j G' _ _ => et_yes) (fun j G' hj _ s' => hs j G' hj s')).imp fun v G' _ h => ?_
  rw [filt_true] at h
  have z := isNX_V (f := fun v : V => v) h
  rw [List.map_id'] at z
  exact z
/-- [el for x in xs], values -/
theorem ev_lcVL (st : Stab S) {f : V → V} (e : Ev S n k te σ G (IsV (.ref p))) (hq : SqL K G p xs) (hl : xs.length ≤ 100000) (hw : ∀ x : V, wipe ((wipe σ vs).set i (some x)) vs = wipe σ vs)
    (hs : ∀ (j : Nat) x G', xs[j]? = some x → Same G G' → Ev S (n + k) 0 el ((wipe σ vs).set i (some x)) G' (IsV (f x))) : Ev S n k (tLc (iList K te) (gName i) tYes el vs) σ G (IsNew G (.lst (xs.map f))) := by
  refine (ev_lcF (R := fun v : V => IsV v) (b := fun _ => true) (sj := fun j => f (xs.getD j .non)) (σf := fun j => (wipe σ vs).set i (some (xs.getD j .non))) st e hq hl (fun j x G' J hx _ _ Q q => ?_) (fun j => hw _) (fun j x G' _ _ => et_yes) (fun j x G' hx _ s' => ?_)).imp fun v G' _ h => ?_
  · have e : xs.getD j .non = x := by rw [List.getD_eq_getElem?_getD, hx]; rfl
    rw [e] at q
    exact q
  · have e : xs.getD j .non = x := by rw [List.getD_eq_getElem?_getD, hx]; rfl
    rw [e]
    exact hs j x G' hx s'
  · rw [filt_true] at h
    have z := isNX_V (f := fun v : V => v) h
    rw [List.map_id'] at z
    have e : (List.range xs.length).map (fun j => f (xs.getD j .non)) = xs.map f := by
      refine List.ext_getElem? fun j => ?_
      rw [List.getElem?_map, List.getElem?_map]
      by_cases hj : j < xs.length
      · rw [List.getElem?_range hj, List.getElem?_eq_getElem hj]
        show some (f (xs.getD j .non)) = _
        rw [List.getD_eq_getElem?_getD, List.getElem?_eq_getElem hj]
        rfl
      · rw [List.getElem?_eq_none (by rw [List.length_range]; omega), List.getElem?_eq_none (by omega)]
        rfl
    rw [e] at z
    exact z
theorem ev_eq {y z : V} (h : y = z) (e : Ev S n k te σ G (IsV y)) : Ev S n k te σ G (IsV z) := h ▸ e
theorem map_get {β : Type} {f : α → β} {xs : List α} {j : Nat} {y : β} (h : (xs.map f)[j]? = some y) : ∃ hj : j < xs.length, y = f xs[j] := by
  rw [List.getElem?_map] at h
  cases e : xs[j]? with
  | none => rw [e] at h; cases h
  | some x =>
    rw [e] at h
    obtain ⟨hj, hx⟩ := List.getElem?_eq_some_iff.mp e
    exact ⟨hj, by rw [hx]; exact (Option.some.inj h).symm⟩
end
/-! ### readings of one of two kinds -/
/-! ### bits -/
section
variable {S : SR} {n k : Nat} {te ta : TE} {σ : L2.St} {K : PySem.W.Frag} {G : Hp} {i j : Int}
theorem v_shr (st : Stab S) (h : 0 ≤ j) : RV S (rI (fun _ j => 0 ≤ j) fun i j => .int (i / 2 ^ j.toNat)) (.int i) (.int j) G (IsV (.int (i / 2 ^ j.toNat))) := rv_I st h
theorem v_band (st : Stab S) : RV S (rI0 fun i j => .int (Builtin.bitAnd i j)) (.int i) (.int j) G (IsV (.int (Builtin.bitAnd i j))) := rv_I0 st
theorem v_bor (st : Stab S) : RV S (rI0 fun i j => .int (Builtin.bitOr i j)) (.int i) (.int j) G (IsV (.int (Builtin.bitOr i j))) := rv_I0 st
end
/-! ### str.join -/
def rJoinK (K : PySem.W.Frag) : V → List V → Hp → VK → Prop := fun x xs H Q => ∃ a p, ∃ ys : List Str, x = .str a ∧ xs = [.ref p] ∧ (SqL K H p (ys.map V.str) ∨ SqT K H p (ys.map V.str)) ∧ (ys.map (·.length)).sum + ys.length * a.length ≤ 16777216 ∧ Q (.str (Txt.join a ys)) H
theorem pe_joinK {X : Cx} (K : PySem.W.Frag) {o e : Expr} {to te : TE} {apos pos : Pos} (ho : PE X o to) (he : PE X e te) (hs : starEach [e] X.env = [(false, eval e X.env)] := by rfl) (hbase : attributeBase o "join" X.env (eval o X.env) = eval o X.env := by rfl) (hline : (apos.endLine == pos.line) = true := by rfl) (hK : X.K = K := by rfl) :
    PE X (.Call (.Attribute o "join" apos) [e] [] pos) (tM1 (rJoinK K) to te) := by
  subst hK
  exact pe_join ho he hs hbase hline
section
variable {S : SR} {n k ka kb : Nat} {to te : TE} {σ : L2.St} {K : PySem.W.Frag} {G : Hp} {a : Str} {ys : List Str}
theorem ev_join (st : Stab S) (ho : Ev S n ka to σ G (IsV (.str a))) (he : Ev S (n + ka) kb te σ G (IsL K (ys.map V.str))) (hl : (ys.map (·.length)).sum + ys.length * a.length ≤ 16777216) : Ev S n (ka + kb) (tM1 (rJoinK K) to te) σ G (IsV (.str (Txt.join a ys))) := fun G1 H1 s0 s Q q =>
  ho G1 H1 s0 s _ fun v G2 H2 s2 e => ⟨⟨a, e⟩, he G2 H2 (s0.trans s2.g) s2.s _ fun w G3 H3 s3 ⟨p, e', hp⟩ => by
    obtain rfl : v = _ := e
    subst e'
    exact ⟨a, p, ys, rfl, rfl, .inl ((st.sub s3.s).seq hp), hl, q _ G3 H3 (s2.trans s3).up rfl⟩⟩
end
/-- a scale of the class at C -/
def IsSc (C : Addr) (label : Str) (names : List Str) (nv sl dep : Int) (th jn : Nat → Nat → Int) : HR := fun v G => ∃ x, v = .ref x ∧ ScC C x label names nv sl dep th jn G
instance (C label names nv sl dep th jn) : Mon (IsSc C label names nv sl dep th jn) := ⟨fun s ⟨x, e, h⟩ => ⟨x, e, h.mono s⟩⟩
end L2.DS
/-! Scales of sets and of relations; bits as the law tells them. -/
namespace L2.DS
open PySem PySem.Spec PyProof.Rows
/-- digits_of(number, width) -/
def digs : Nat → Int → Str
  | 0, _ => ("" : Str)
  | w + 1, n => (toString (Builtin.bitAnd (n / 2 ^ w) 1) : Str) ++ digs w n
def joinS (may : Bool) : Str := if may then "may" else "must"
/-- scales of sets -/
def tth (a b : Nat) : Int := if a = 0 ∨ b = 0 then 0 else Builtin.bitOr ((a : Int) - 1) ((b : Int) - 1) + 1
def teit (may : Bool) (x y : Int) : Int := if may then Builtin.bitOr x y else Builtin.bitAnd x y
def tjn (may : Bool) (a b : Nat) : Int := if a = 0 ∨ b = 0 then (a : Int) + b else teit may ((a : Int) - 1) ((b : Int) - 1) + 1
def twords (c : Nat) : List Str := (List.range (2 ^ c)).map fun i => digs c (i : Nat)
def tlabel (c : Int) (may : Bool) : Str := (((("(set " : Str) ++ (toString c : Str)) ++ (" " : Str)) ++ joinS may) ++ (")" : Str)
theorem twords_nodup : ∀ c, c < 6 → (("never" : Str) :: twords c).Nodup := by decide +kernel
theorem tlabel_len : ∀ c : Nat, c < 6 → ∀ may, (("(set " : Str) ++ (toString ((c : Nat) : Int) : Str)).length ≤ 100 ∧ ((("(set " : Str) ++ (toString ((c : Nat) : Int) : Str)) ++ (" " : Str)).length ≤ 100 ∧ (((("(set " : Str) ++ (toString ((c : Nat) : Int) : Str)) ++ (" " : Str)) ++ joinS may).length ≤ 100 ∧ (tlabel (c : Nat) may).length ≤ 100 := by decide +kernel
theorem bor_lt : ∀ c, c < 6 → ∀ x, x < 2 ^ c → ∀ y, y < 2 ^ c → 0 ≤ Builtin.bitOr (x : Nat) (y : Nat) ∧ Builtin.bitOr (x : Nat) (y : Nat) < 2 ^ c := by decide +kernel
theorem band_lt : ∀ c, c < 6 → ∀ x, x < 2 ^ c → ∀ y, y < 2 ^ c → 0 ≤ Builtin.bitAnd (x : Nat) (y : Nat) ∧ Builtin.bitAnd (x : Nat) (y : Nat) < 2 ^ c := by decide +kernel
/-! scales of relations -/
def arr (s : Nat) (p : Int) : List (Int × Int) := ((List.range (s * s)).filter fun c => decide (Builtin.bitAnd (p / 2 ^ (((s : Int) * s - 1 - (c : Nat)).toNat)) 1 = 1)).map fun c => (((c : Nat) : Int) / (s : Nat), ((c : Nat) : Int) % (s : Nat))
def wput (s : Nat) (f : Int) (p q : Int × Int) : Int := if p.2 = q.1 then Builtin.bitOr f (1 * 2 ^ (((s : Int) * s - 1 - p.1 * s - q.2).toNat)) else f
def wth (s a b : Nat) : Int := (arr s a).foldl (fun f p => (arr s b).foldl (fun f q => wput s f p q) f) 0
def wjn (a b : Nat) : Int := Builtin.bitOr (a : Nat) (b : Nat)
def wwords (s : Nat) : List Str := (List.range (2 ^ (s * s))).map fun i => digs (s * s) (i : Nat)
def wstill (s : Nat) : Int := ((List.range s).map fun k => (1 * 2 ^ (((s : Int) * s - 1 - (k : Nat) * ((s : Int) + 1)).toNat) : Int)).sum
def wlabel (s : Int) : Str := (("(watch " : Str) ++ (toString s : Str)) ++ (")" : Str)
theorem wwords_nodup : ∀ s, s < 3 → (wwords s).Nodup := by decide +kernel
theorem wlabel_len : ∀ s : Nat, s < 3 → (("(watch " : Str) ++ (toString ((s : Nat) : Int) : Str)).length ≤ 100 ∧ (wlabel (s : Nat)).length ≤ 100 := by decide +kernel
/-! the law's own bits -/
end L2.DS
/-! Tables: texts sign by sign, all and any, dicts of places; lists that are changed behind what stands. -/
namespace L2.DS
open PySem PySem.Spec PyProof.Rows
/-! ### texts -/
theorem lc_str {x : Str} {g : TG} {tt : TT} {te : TE} {vs : List Nat} {σ : L2.St} {H1 : Hp} {D : Addr} {Qd : Hp → Prop} (Pv : Nat → Hp → Prop) (h0 : Pv 0 (upd H1 D (.lst [])))
    (hs : ∀ (i : Nat) c H, x.cps[i]? = some c → Pv i H → g (.str ⟨#[c]⟩) (wipe σ vs) H fun σ2 H2 => wipe σ2 vs = wipe σ vs ∧ tt σ2 H2 fun b H3 =>
      if b = true then te σ2 H3 fun y H4 => ∃ acc, H4 D = some (.lst acc) ∧ acc.length < sizeLine ∧ Pv (i + 1) (upd H4 D (.lst (acc ++ [y]))) else Pv (i + 1) H3) (hd : ∀ H, Pv x.cps.size H → Qd H) :
    ∃ W : Nat → Nat → Hp → Prop, (∃ m, W 0 m (upd H1 D (.lst []))) ∧ ∀ i m H, W i m H →
      ((Its x).stop i H ∧ Qd H) ∨ ((Its x).go i H ∧ ∃ Nx : Hp → Prop, (∀ H', Nx H' → ∃ m', m' < m ∧ W (i + 1) m' H') ∧ ∀ v H', (Its x).yld i H v H' → g v (wipe σ vs) H' fun σ2 H2 => wipe σ2 vs = wipe σ vs ∧ tt σ2 H2 fun b H3 =>
        if b = true then te σ2 H3 fun y H4 => ∃ acc, H4 D = some (.lst acc) ∧ acc.length < sizeLine ∧ Nx (upd H4 D (.lst (acc ++ [y]))) else Nx H3) := by
  refine ⟨fun i m H => m = x.cps.size - i ∧ i ≤ x.cps.size ∧ Pv i H, ⟨x.cps.size, by simp, Nat.zero_le _, h0⟩, ?_⟩
  rintro i m H ⟨rfl, hi, p⟩
  by_cases hlt : i < x.cps.size
  · refine .inr ⟨hlt, Pv (i + 1), fun H' p' => ⟨x.cps.size - (i + 1), by omega, rfl, hlt, p'⟩, fun v H' y => ?_⟩
    obtain ⟨rfl, c, hc, rfl⟩ := y
    exact hs i c _ hc p
  · have e : i = x.cps.size := by omega
    subst e
    exact .inl ⟨Nat.le_refl _, hd H p⟩
section
variable {S : SR} {n k ka kb : Nat} {te el ta : TE} {t : TA} {σ : L2.St} {G : Hp} {K : PySem.W.Frag} {i j : Nat} {z : Str} {vs : List Nat} {p : Addr} {xs : List V}
/-- [el for c in z], values -/
theorem ev_lcS (st : Stab S) {f : Nat → V} (e : Ev S n k te σ G (IsV (.str z))) (hl : z.length ≤ 100000) (hw : ∀ x : V, wipe ((wipe σ vs).set i (some x)) vs = wipe σ vs)
    (hs : ∀ c G', c ∈ z.cps.toList → Same G G' → Ev S (n + k) 0 el ((wipe σ vs).set i (some (.str ⟨#[c]⟩))) G' (IsV (f c))) : Ev S n k (tLc (iStr te) (gName i) tYes el vs) σ G (IsNew G (.lst (z.cps.toList.map f))) := fun G1 H1 s0 s Q q =>
  e G1 H1 s0 s _ fun v G2 H2 s2 ev => ⟨z, ev, fun D hD =>
    lc_str (x := z) (fun j J => LcQ S G2 H2 (n + k) D (fun v : V => IsV v) ((z.cps.toList.take j).map f) J) (lcq_start st s2.s hD)
      (fun j c J hc h => by
        have hj : j < z.cps.size := (Array.getElem?_eq_some_iff.mp hc).1
        have hcl : z.cps.toList[j]? = some c := by rw [Array.getElem?_toList]; exact hc
        refine ⟨hw _, tYes_run (iteT ?_)⟩
        refine lcq_step (x := f c) (Nx := fun J => LcQ S G2 H2 (n + k) D (fun v : V => IsV v) ((z.cps.toList.take (j + 1)).map f) J) st s2.s hD h (by rw [List.length_map, List.length_take]; have : z.cps.toList.length = z.length := rfl; have : z.cps.size = z.length := rfl; omega) (fun G' g' => hs c G' (List.mem_of_getElem? hcl) ((s0.trans s2.g).trans g')) fun J' h' => ?_
        rw [List.take_succ, hcl, List.map_append]
        exact h')
      fun J h => by
        rw [show z.cps.size = z.cps.toList.length from rfl, List.take_length] at h
        refine lcq_end st s2 hD h fun v G' H' s' r => q v G' H' s' ?_
        obtain ⟨p', ys, e1, e2, e3, e4⟩ := r
        rw [rl_vals (g := fun v : V => v) e4, List.map_id'] at e3
        exact ⟨p', e1, s0.free e2, e3⟩⟩
theorem v_inS (st : Stab S) {y : Str} : RV S (fun x y H Q => ∃ i j, x = .str i ∧ y = .str j ∧ Q (.bl (!(Builtin.Str.occurrences j i 0 j.length 1).isEmpty)) H) (.str y) (.str z) G (IsV (.bl (!(Builtin.Str.occurrences z y 0 z.length 1).isEmpty))) := rv_val (fun H _ Q q => ⟨y, z, rfl, rfl, q⟩) st
theorem c_all (st : Stab S) {bs : List Bool} (h : SqL K G p (bs.map V.bl)) : RC S (rAll K) [.ref p] G (IsV (.bl (bs.all id))) := rc_val (fun H s Q q => ⟨p, bs, rfl, s.seq h, q⟩) st
theorem c_any (st : Stab S) {bs : List Bool} (h : SqL K G p (bs.map V.bl)) : RC S (rAny K) [.ref p] G (IsV (.bl (bs.any id))) := rc_val (fun H s Q q => ⟨p, bs, rfl, s.seq h, q⟩) st
theorem c_lenD (st : Stab S) {kvs : List (Key × V)} (h : G p = some (.dK kvs)) : RC S (rLenA K) [.ref p] G (IsV (.int kvs.length)) := rc_val (fun H s Q q => .inr (.inr ⟨p, kvs, rfl, s _ _ h, q⟩)) st
theorem v_inD (st : Stab S) {neg : Bool} {kvs : List (Key × V)} {key : Key} (h : G p = some (.dK kvs)) : RV S (rInA K neg) (kV key) (.ref p) G (IsV (.bl (if neg then !(valV kvs key).isSome else (valV kvs key).isSome))) := rv_r (rv_val (fun H s Q q => ⟨p, _, rfl, DGet.k (s _ _ h), q⟩) st)
theorem c_listN (st : Stab S) (hq : SqL K G p xs) : RC S (rListQ K) [.ref p] G (IsNew G (.lst xs)) := fun n G1 H1 s0 s Q q =>
  ⟨p, xs, rfl, .inl ((s0.trans (st.sub s)).seq hq), fun l hl => q (.ref l) _ _ (st.new s hl) ⟨l, rfl, (s0.trans (st.sub s)).free hl, upd_same⟩⟩
end
section
variable {S : SR} {n k : Nat} {te : TE} {tb u : TS} {σ : L2.St} {G H : Hp} {nx bk ct : L2.St → Hp → Prop} {rt : VK} {K : PySem.W.Frag} {g : TG}
/-- for .. in e, e a list that is made for it, any invariant -/
theorem q_forIX {RA : HRs} [Mons RA] (st : Stab S) (s : S n G H) (e : Ev S n k te σ G (IsLX RA)) (Pv : Addr → Nat → L2.St → Hp → Prop)
    (hb : ∀ p xs G2 H2, Stp S (n + k) G H G2 H2 → G2 p = some (.lst xs) → RA xs G2 → (∀ j τ J, Pv p j τ J → SqL K J p xs) ∧ Pv p 0 σ H2 ∧
    (∀ (j : Nat) x σ' J, xs[j]? = some x → Pv p j σ' J → g x σ' J fun σ2 J2 => tb (Ends.mk (fun τ J => Pv p (j + 1) τ J) rt (u (Ends.mk nx rt bk ct)) (fun τ J => Pv p (j + 1) τ J)) σ2 J2) ∧
    ∀ σ' J, Pv p xs.length σ' J → u (Ends.mk nx rt bk ct) σ' J) : tSeq (tFor (iList K te) g tb) u (Ends.mk nx rt bk ct) σ H := by
  refine e G H (Same.refl _) s _ fun v G1 H1 s1 ev => ?_
  obtain ⟨p, xs, rfl, gp, ra⟩ := ev
  obtain ⟨hh, h0, hs, hd⟩ := hb p xs G1 H1 s1 gp ra
  exact ⟨p, rfl, ⟨xs, hh _ _ _ h0⟩, for_list (K := K) (a := p) (xs := xs) (fun j τ J => Pv p j τ J) h0 (fun j τ J _ hp => hh _ _ _ hp) (fun j x τ J hx hp => hs j x τ J hx hp) fun τ J hp => hd τ J hp⟩
end
/-! ### name = {..} on one line -/
section
variable {X : Cx} {i : Nat} {yn : Str} {yp cp sp0 : Pos} {ek ev eg ei : Expr} {fs : List Expr} {sc : Scope} {own : List (Str × Nat)} {wi : TI} {g : TG} {tt : TT} {tk tv : TE}
theorem sw_dc {l : Nat} {env : Env} {gs : List Comprehension} (h1 : env.scope.kind = .function) (h2 : env.scope.names.lookup yn = some .local) (h3 : (yp.line == cp.line) = true)
    (h4 : (sc.names.any fun (n, k) => n == yn && (k == .local || k == .cell)) = false) : swapsWith (.DictComp ek ev gs sc cp) (some (.Name yn yp)) l env = pure true := by
  have a1 : env.kindOf yn = some .local := h2
  have a2 : env.blockKind = .function := by unfold Env.blockKind; rw [h1]; rfl
  unfold swapsWith
  simp only [a2, a1, h4, Expr.pos, h3]
  rfl
theorem ps_setDc (cm : X.calm = true) (nd : X.N.Nodup) (hy : X.N[i]? = some yn) (hl : X.env.scope.names.lookup yn = some .local) (sw : swapsWith (.DictComp ek ev [⟨eg, ei, fs, 0⟩] sc cp) (some (.Name yn yp)) sp0.line X.env = pure true) (hi : PI X eg ei wi) (ok : BlkOk X.N X.env.scope sc own)
    (hg : ∀ (u : Shared) (J : Hp) (C : Addr) (cl : List (Str × Addr)) (fp : List Addr), PG (X.blk u J sc (compEnvC sc cl C X.env) fp) eg g) (ht : ∀ (u : Shared) (J : Hp) (C : Addr) (cl : List (Str × Addr)) (fp : List Addr), PTs (X.blk u J sc (compEnvC sc cl C X.env) fp) fs tt)
    (hk : ∀ (u : Shared) (J : Hp) (C : Addr) (cl : List (Str × Addr)) (fp : List Addr), PE (X.blk u J sc (compEnvC sc cl C X.env) fp) ek tk) (hv : ∀ (u : Shared) (J : Hp) (C : Addr) (cl : List (Str × Addr)) (fp : List Addr), PE (X.blk u J sc (compEnvC sc cl C X.env) fp) ev tv)
    (hs : ∀ x, foldedSetIterable ei X.env x = pure x := by intro _; rfl) : PS X (.Assign [.Name yn yp] (.DictComp ek ev [⟨eg, ei, fs, 0⟩] sc cp) sp0) (tAsg (tDc wi g tt tk tv (own.map (·.2))) (gName i)) := by
  constructor
  intro qs u σ J Ed I h
  have h : tDc wi g tt tk tv (own.map (·.2)) σ J (fun x J1 => gName i x σ J1 Ed.nx) := h
  rw [exec_Assign_Name_used _ _ _ _ sw]
  refine wpAny_bind (wpAny_standAt (wpAny_bind ?_))
  refine wpAny_bind (thn (dc_core (use := some (assign (.Name yn yp) X.env)) (Qf := fun _ z => SP X qs Ed .next z) cm nd I hi ok hg ht hk hv hs h fun L C z m J' I' q hn f => ?_) fun _ z hq => wpAny_pure (wpAny_pure hq))
  refine wpAny_assign_Name (store_ok2 (v := V.ref L) I' nd hy (.inl hl) rfl (fun z2 I2 ⟨a, sb, ha⟩ => ?_) (.inr hl))
  obtain ⟨f0, f1, f2, f3, f4, f5⟩ := f
  have ne : C ≠ a := ha.elim (fun z => by rw [z]; exact f1) fun z e => f4 yn a z e.symm
  exact ⟨m, hn.sameBut sb ne, fun z3 sb3 => ⟨_, J', I2.turned (t' := z2.toks) (fun b o hb e => (sb3.2 b hb).trans e) f0 f1 f3 f4 f5, q⟩⟩
end
section
variable {α : Type} {R : α → HR} {S : SR} {n n0 k : Nat} {t : TA} {u : TS} {σ : L2.St} {G1 H1 J : Hp} {nx bk ct : L2.St → Hp → Prop} {rt : VK} {j : Nat} {K : PySem.W.Frag} {D : Addr} {ss : List α} {x : α}
/-- p.append(x): all else stays -/
theorem q_appX2 (st : Stab S) [∀ a, Mon (R a)] (a : S n0 G1 H1) (hD : H1 D = none) (h : LcQ S G1 H1 n D R ss J) (hl : ss.length < 100000) (hv : σ[j]? = some (some (.ref D))) (e : ∀ G', Same G1 G' → EvA S n k t σ G' (RL R [x]))
    (hN : ∀ J', LcQ S G1 H1 (n + k) D R (ss ++ [x]) J' → (∀ b o, ¬ S.m b → b ≠ D → J b = some o → J' b = some o) → u (Ends.mk nx rt bk ct) σ J') : tSeq (tDrop (tBM K "list" rAppend (tVar j) t)) u (Ends.mk nx rt bk ct) σ J := by
  obtain ⟨G3, acc, s3, c, d, r⟩ := h
  refine ⟨_, hv, .inl ⟨rfl, _, SqL.of d⟩, e G3 s3.g G3 J (Same.refl _) s3.s _ fun ws G4 H4 s4 ev => ?_⟩
  obtain ⟨y, _, rfl, ry, rn⟩ := ev
  obtain rfl := (show _ = [] from rn)
  have d4 : H4 D = some (.lst acc) := s4.k.k D _ (st.fre a hD) d
  have c4 : G4 D = none := by
    cases e : G4 D with
    | none => rfl
    | some o =>
      rcases s4.n D o e with q | q
      · rw [c] at q
        cases q
      · rw [d] at q
        cases q
  have t := s3.trans s4
  have la := rl_len r
  exact ⟨D, acc, y, rfl, rfl, d4, Nat.lt_of_lt_of_le (show acc.length < 100000 by omega) (by decide), hN _ ⟨G4, acc ++ [y], ⟨t.g, kp_new t.k hD, st.chg a hD t.s c4, t.n⟩, c4, upd_same, rl_app (rl_mon s4.g r) ⟨y, [], rfl, ry, rfl⟩⟩ fun b o hb ne e => by
    rw [upd_ne ne]
    exact s4.k.k b o hb e⟩
theorem LcQ.step2 (st : Stab S) [∀ a, Mon (R a)] (a : S n0 G1 H1) (hD : H1 D = none) (h : LcQ S G1 H1 n D R ss J) : ∃ G3, Same G1 G3 ∧ S n G3 J ∧ ∀ {m G4 H4}, Stp S m G3 J G4 H4 → LcQ S G1 H1 m D R ss H4 ∧ G4 D = none := by
  obtain ⟨G3, acc, s3, c, d, r⟩ := h
  refine ⟨G3, s3.g, s3.s, fun {m G4 H4} s4 => ?_⟩
  have c4 : G4 D = none := by
    cases e : G4 D with
    | none => rfl
    | some o =>
      rcases s4.n D o e with q | q
      · rw [c] at q
        cases q
      · rw [d] at q
        cases q
  exact ⟨⟨G4, acc, s3.trans s4, c4, s4.k.k D _ (st.fre a hD) d, rl_mon s4.g r⟩, c4⟩
end
/-! ### all that stands but some lists -/
noncomputable def cut (G : Hp) (X : Addr → Prop) : Hp := fun b => open Classical in if X b then none else G b
theorem cut_in {G : Hp} {X : Addr → Prop} {b : Addr} (h : X b) : cut G X b = none := if_pos h
theorem cut_out {G : Hp} {X : Addr → Prop} {b : Addr} (h : ¬ X b) : cut G X b = G b := if_neg h
theorem cut_same {G : Hp} {X : Addr → Prop} : Same (cut G X) G := fun b o e => by
  by_cases h : X b
  · rw [cut_in h] at e
    cases e
  · rw [cut_out h] at e
    exact e
def LstX (G : Hp) (X : Addr → Prop) : Prop := ∀ b, X b → ∃ xs, G b = some (.lst xs)
theorem LstX.keep {G : Hp} {X : Addr → Prop} (h : LstX G X) {b : Addr} {o : HO} (e : G b = some o) (n : ∀ xs, o ≠ .lst xs) : cut G X b = some o := by
  rw [cut_out]
  · exact e
  · intro z
    obtain ⟨xs, hx⟩ := h b z
    rw [hx] at e
    exact n xs (Option.some.inj e).symm
theorem src_cut {st cl : Addr} {n : Nat} {G H : Hp} {X : Addr → Prop} (h : Src st cl n G H) : Src st cl n (cut G X) H := by
  obtain ⟨a, b, c, d⟩ := h
  have k : ∀ {b : Addr}, G b = none → cut G X b = none := fun {b} e => by
    by_cases z : X b
    · exact cut_in z
    · rw [cut_out z]; exact e
  exact ⟨cut_same.trans a, k b, k c, d⟩
/-! ### statements that change a list -/
end L2.DS
/-! Scales of tables: what the tables tell. -/
namespace L2.DS
open PySem PySem.Spec PyProof.Rows
def signsL : Str := "abcdefghijklmnopqrstuvwxyz0123456789"
def sgn (c : Nat) : Bool := !(Builtin.Str.occurrences signsL ⟨#[c]⟩ 0 signsL.length 1).isEmpty
def okNm (nm : Str) : Bool := (decide ((1 : Int) ≤ nm.length) && decide ((nm.length : Int) ≤ 12)) && (nm.cps.toList.map sgn).all id
theorem okNm_len {nm : Str} (h : okNm nm = true) : 1 ≤ nm.length ∧ nm.length ≤ 12 := by
  unfold okNm at h
  rw [Bool.and_eq_true, Bool.and_eq_true] at h
  have h1 := of_decide_eq_true h.1.1
  have h2 := of_decide_eq_true h.1.2
  omega
def joinR (rows : List (List Str)) : Str := Txt.join (" " : Str) (rows.map fun r => Txt.join (" " : Str) r)
def tbLab (names : List Str) (never still : Str) (joins products : List (List Str)) : Str :=
  ("(table (" : Str) ++ Txt.join (" " : Str) names ++ (") " : Str) ++ (never ++ (" " : Str) ++ still) ++ (" (" : Str) ++ joinR joins ++ (") (" : Str) ++ joinR products ++ ("))" : Str)
structure TbOk (names : List Str) (joins products : List (List Str)) (never still : Str) : Prop where
  l1 : 1 ≤ names.length
  l2 : names.length ≤ 16
  nd : names.Nodup
  ok : ∀ nm ∈ names, okNm nm = true
  nv : never ∈ names
  sl : still ∈ names
  jl : joins.length = names.length
  jr : ∀ r ∈ joins, r.length = names.length ∧ ∀ e ∈ r, e ∈ names
  pl : products.length = names.length
  pr : ∀ r ∈ products, r.length = names.length ∧ ∀ e ∈ r, e ∈ names
def idxT (names : List Str) (rows : List (List Str)) (a b : Nat) : Int := ((names.idxOf ((rows.getD a []).getD b ("" : Str)) : Nat) : Int)
/-- a list of texts, of places -/
def IsSR (row : List Str) : HR := fun v G => ∃ p, v = .ref p ∧ G p = some (.lst (row.map V.str))
instance (row) : Mon (IsSR row) := ⟨fun s ⟨p, e, h⟩ => ⟨p, e, s _ _ h⟩⟩
def IsIR (names row : List Str) : HR := fun v G => ∃ p, v = .ref p ∧ G p = some (.lst (row.map fun e => V.int (names.idxOf e : Nat)))
instance (names row) : Mon (IsIR names row) := ⟨fun s ⟨p, e, h⟩ => ⟨p, e, s _ _ h⟩⟩
def TabS (G : Hp) (p : Addr) (rows : List (List Str)) : Prop := ∃ vs, G p = some (.lst vs) ∧ RL IsSR rows vs G
theorem TabS.mono {G G' : Hp} {p : Addr} {rows : List (List Str)} (h : TabS G p rows) (s : Same G G') : TabS G' p rows := let ⟨vs, a, b⟩ := h; ⟨vs, s _ _ a, rl_mon s b⟩
def TabI (names : List Str) (G : Hp) (p : Addr) (rows : List (List Str)) : Prop := ∃ vs, G p = some (.lst vs) ∧ RL (IsIR names) rows vs G
theorem TabI.mono {names : List Str} {G G' : Hp} {p : Addr} {rows : List (List Str)} (h : TabI names G p rows) (s : Same G G') : TabI names G' p rows := let ⟨vs, a, b⟩ := h; ⟨vs, s _ _ a, rl_mon s b⟩
theorem idx_get {names : List Str} {e : Str} (h : e ∈ names) : names[names.idxOf e]? = some e := by
  have hj : names.idxOf e < names.length := List.idxOf_lt_length_iff.mpr h
  rw [List.getElem?_eq_getElem hj, List.getElem_idxOf hj]
/-! lengths -/
theorem join_len (ys : List Str) (L : Nat) (h : ∀ y ∈ ys, y.length ≤ L) : (ys.map (·.length)).sum + ys.length * 1 ≤ ys.length * (L + 1) ∧ (Txt.join (" " : Str) ys).length ≤ ys.length * (L + 1) := by
  have h1 : (ys.map (·.length)).sum + ys.length * 1 ≤ ys.length * (L + 1) := by
    induction ys with
    | nil => simp
    | cons y r ih =>
      have := ih fun z hz => h z (List.mem_cons_of_mem _ hz)
      have hy := h y List.mem_cons_self
      simp only [List.map_cons, List.sum_cons, List.length_cons, Nat.succ_mul]
      omega
  refine ⟨h1, ?_⟩
  have h2 := StrLaws.join_length_le (" " : Str) ys
  have e : (" " : Str).length = 1 := by decide +kernel
  rw [e] at h2
  show (Builtin.Str.glued (" " : Str) ys).length ≤ _
  rw [StrLaws.glued_eq_join]
  omega
theorem rows_len {names : List Str} {rows : List (List Str)} (hn : ∀ nm ∈ names, okNm nm = true) (h2 : names.length ≤ 16) (hl : rows.length = names.length) (hr : ∀ r ∈ rows, r.length = names.length ∧ ∀ e ∈ r, e ∈ names) : ∀ r ∈ rows, (r.map (·.length)).sum + r.length * 1 ≤ 208 ∧ (Txt.join (" " : Str) r).length ≤ 208 := by
  intro r hr'
  obtain ⟨a, b⟩ := hr r hr'
  have j := join_len r 12 fun y hy => (okNm_len (hn y (b y hy))).2
  omega
theorem joinR_len {names : List Str} {rows : List (List Str)} (hn : ∀ nm ∈ names, okNm nm = true) (h2 : names.length ≤ 16) (hl : rows.length = names.length) (hr : ∀ r ∈ rows, r.length = names.length ∧ ∀ e ∈ r, e ∈ names) :
    ((rows.map fun r => Txt.join (" " : Str) r).map (·.length)).sum + (rows.map fun r => Txt.join (" " : Str) r).length * 1 ≤ 16777216 ∧ (joinR rows).length ≤ 3344 := by
  have j := join_len (rows.map fun r => Txt.join (" " : Str) r) 208 fun y hy => by
    obtain ⟨r, hr', rfl⟩ := List.mem_map.mp hy
    exact (rows_len hn h2 hl hr r hr').2
  rw [List.length_map] at j ⊢
  unfold joinR
  omega
theorem names_join {names : List Str} (hn : ∀ nm ∈ names, okNm nm = true) (h2 : names.length ≤ 16) : (names.map (·.length)).sum + names.length * 1 ≤ 16777216 ∧ (Txt.join (" " : Str) names).length ≤ 208 := by
  have j := join_len names 12 fun y hy => (okNm_len (hn y hy)).2
  omega
/-! promises -/
def PIsN : List V → Hp → HR → Prop := fun vs _ R => ∃ nm : Str, vs = [.str nm] ∧ nm.length ≤ 1000 ∧ R = IsV (.bl (okNm nm))
def PTp : List V → Hp → HR → Prop := fun vs G R => ∃ (pd pt : Addr) (names : List Str) (rows : List (List Str)), vs = [.ref pd, .ref pt] ∧ G pd = some (.dK (plc names 0)) ∧ names.Nodup ∧ names.length ≤ 100 ∧ TabS G pt rows ∧ rows.length = names.length ∧ (∀ r ∈ rows, r.length = names.length ∧ ∀ e ∈ r, e ∈ names) ∧
  R = fun v G' => ∃ p, v = .ref p ∧ TabI names G' p rows
def PTbM (C0 : Addr) (fld : Str) : List V → Hp → HR → Prop := fun vs G R => ∃ (x dx p : Addr) (fs : List (Str × V)) (names : List Str) (rows : List (List Str)) (a b : Nat), vs = [.ref x, .int (a : Nat), .int (b : Nat)] ∧ G x = some (.ins C0 dx fs) ∧ fs.lookup fld = some (.ref p) ∧ TabI names G p rows ∧ a < rows.length ∧ (∀ r ∈ rows, b < r.length) ∧ R = IsV (.int (idxT names rows a b))
def tbF : List Str := ["written_joins", "written_products"]
def PTbI (C0 : Addr) : Addr → List (Str × V) → List V → Hp → OR → Prop := fun C fs rest G R => C = C0 ∧ fs = [] ∧ ∃ (pn pj pp : Addr) (names : List Str) (joins products : List (List Str)) (never still : Str),
  rest = [.ref pn, .ref pj, .ref pp, .str never, .str still] ∧ G pn = some (.lst (names.map V.str)) ∧ TabS G pj joins ∧ TabS G pp products ∧ TbOk names joins products never still ∧
  R = fun _ _ fs' G' => ScIs (tbLab names never still joins products) names (names.idxOf never : Nat) (names.idxOf still : Nat) 1 (idxT names products) (idxT names joins) fs' G' ∧ (∀ f, f ∉ scF → f ∉ tbF → fs'.lookup f = none)
end L2.DS
/-! The laws' own tables: drawn names, their places, data of tables. -/
namespace L2.DS
open PySem PySem.Spec PyProof.Rows
/-! names that are drawn -/
/-- a row of names -/
def IsRw (names : List Str) : HR := fun v G => ∃ row : List Str, IsSR row v G ∧ row.length = names.length ∧ ∀ e ∈ row, e ∈ names
instance (names) : Mon (IsRw names) := ⟨fun s ⟨row, a, b⟩ => ⟨row, Mon.mon s a, b⟩⟩
/-- rows newly made -/
def IsSRn (F : Hp) (row : List Str) : HR := IsNew F (.lst (row.map V.str))
instance (F row) : Mon (IsSRn F row) := inferInstanceAs (Mon (IsNew _ _))
/-! tables as data -/
def rowD (row : List Str) : PyData := .list (row.map PyData.str)
theorem dp_strs {K : PySem.W.Frag} {G : Hp} : ∀ xs : List Str, DpAll K G (xs.map V.str) (xs.map PyData.str)
  | [] => .nil
  | a :: r => .cons (.str a) (dp_strs r)
end L2.DS
/-! Scales of any of some classes; defs with a star parameter; pairs of ranges. -/
namespace L2.DS
open PySem PySem.Spec PyProof.Rows
/-- o.m(..), o of one of some classes -/
def tMethA (Cs : List Addr) (m : Str) (sp : Sp) (dvs : List V) (E : XK) (ta : TE) (t : TA) : TE := fun σ H Q => ∃ C ∈ Cs, tMeth C m sp dvs E ta t σ H Q
section
variable {X : Cx} {CX : CXT} {k : Nat} {ps : List Str} {dvs : List V} {sp : Sp} {E : XK} {x m : Str} {Cs : List Addr} {e o : Expr} {es : List Expr} {t : TA} {ta : TE} {p pos apos : Pos}
theorem pe_methA {pl : Sem Bool} (c : ∀ C ∈ Cs, Method X.prog X.w X.K X.mg X.base C m CX k ps dvs sp) (hr : Room k X.A) (hx : Passes CX X E) (ho : PE X o ta) (ha : PA X (e :: es) t)
    (hst : starEach (e :: es) X.env = (false, eval e X.env) :: starEach es X.env := by rfl) (hpl : (backTo pos (starEach es X.env)).any (·.1) = false := by rfl)
    (ht : eval (.Call (.Attribute o m apos) (e :: es) [] pos) X.env = (do
      let ov ← eval o X.env
      standAt apos.atName
      let (f, first) ← holding [ov] (getMethod ov m pl)
      callWith pos f first (backTo pos (starEach (e :: es) X.env)) (backToKw pos (keywordEach [] X.env))) := by rfl) :
    PE X (.Call (.Attribute o m apos) (e :: es) [] pos) (tMethA Cs m sp dvs E ta t) :=
  ⟨fun pins s σ H Q I ⟨C, hC, q⟩ => (pe_methC (c C hC) hr hx ho ha hst hpl ht).run pins s σ H Q I q⟩
/-- a def of the top with a star parameter, by its name -/
def CalleeR (P : Program) (w : World) (K : PySem.W.Frag) (mg : Str → Option Value) (base : Heap) (x : Str) (CX : CXT) (k : Nat) (sp : Sp) : Prop :=
  ∃ f : Addr, mg x = some (.ref f) ∧ PySem.W.keepIn K (.ref f) = true ∧ FnR P w K mg base CX k f sp
theorem pe_callRC (c : CalleeR X.prog X.w X.K X.mg X.base x CX k sp) (hr : Room k X.A) (hx : Passes CX X E) (ha : PA X (e :: es) t) (hg : Gl X x := by rfl) (hdb : (x == ("__debug__" : Str)) = false := by decide)
    (he : starEach (e :: es) X.env = (false, eval e X.env) :: starEach es X.env := by rfl) (hpl : (backTo pos (starEach es X.env)).any (·.1) = false := by rfl) : PE X (.Call (.Name x p) (e :: es) [] pos) (tCall sp [] E t) := by
  obtain ⟨f, hm, hk, F⟩ := c
  constructor
  intro pn u τ J Qv I h
  refine wpAny_Call_Name_kw (ld_glob I hg hm (PySem.W.callWith_K (h₀ := X.base) I.ok.mod.kin hk (thn (ha.run pos pn u τ J _ I h) fun us u1 ⟨vs, J1, I1, r, z⟩ => ⟨I1.kIn, ?_⟩) he hpl) hdb)
  have z : sp (vs ++ []) J1 Qv E := z
  rw [List.append_nil] at z
  exact wpAny_call (run_fnR F hr hx I1 r z)
end
/-! ### scales -/
structure SD where
  label : Str
  names : List Str
  nv : Int
  sl : Int
  dep : Int
  th : Nat → Nat → Int
  jn : Nat → Nat → Int
structure ClsOk (K : PySem.W.Frag) (C : Addr) : Prop where
  c : Cls K C
  n : ∀ f ∈ scF, NoAttr K C f
def ScD (K : PySem.W.Frag) (Cs : List Addr) (d : SD) (x : Addr) (G : Hp) : Prop := ∃ C ∈ Cs, ClsOk K C ∧ ScC C x d.label d.names d.nv d.sl d.dep d.th d.jn G
theorem ScD.mono {K : PySem.W.Frag} {Cs : List Addr} {d : SD} {x : Addr} {G G' : Hp} (h : ScD K Cs d x G) (s : Same G G') : ScD K Cs d x G' := let ⟨C, a, b, c⟩ := h; ⟨C, a, b, c.mono s⟩
def IsScD (K : PySem.W.Frag) (Cs : List Addr) (d : SD) : HR := fun v G => ∃ x, v = .ref x ∧ ScD K Cs d x G
instance (K Cs d) : Mon (IsScD K Cs d) := ⟨fun s ⟨x, e, h⟩ => ⟨x, e, h.mono s⟩⟩
section
variable {S : SR} {n k ka kb : Nat} {te ta tb : TE} {t : TA} {σ : L2.St} {G : Hp} {K : PySem.W.Frag} {Cs : List Addr} {d : SD} {x : Addr} {E : XK}
theorem ev_sF (st : Stab S) (h : ScD K Cs d x G) (e : Ev S n k te σ G (IsV (.ref x))) :
    Ev S n k (tFld K te "size") σ G (IsV (.int (d.names.length : Nat))) ∧ Ev S n k (tFld K te "never_at") σ G (IsV (.int d.nv)) ∧ Ev S n k (tFld K te "still_at") σ G (IsV (.int d.sl)) ∧ Ev S n k (tFld K te "label") σ G (IsV (.str d.label)) ∧ Ev S n k (tFld K te "depth") σ G (IsV (.int d.dep)) := by
  obtain ⟨C, _, hk, dx, fs, hx, hI, _⟩ := h
  exact ⟨ev_fld st e hx hk.c (hk.n _ (by decide)) hI.siz, ev_fld st e hx hk.c (hk.n _ (by decide)) hI.nev, ev_fld st e hx hk.c (hk.n _ (by decide)) hI.sti, ev_fld st e hx hk.c (hk.n _ (by decide)) hI.lab, ev_fld st e hx hk.c (hk.n _ (by decide)) hI.dep⟩
/-- then_at, join_at, within_at -/
theorem ev_sAt (st : Stab S) {m : Str} {pk : (Nat → Nat → Int) → (Nat → Nat → Int) → Nat → Nat → V} {a b : Nat} (h : ScD K Cs d x G) (hm : m ∈ metF) (e : Ev S n k te σ G (IsV (.ref x))) (ea : EvA S (n + k) ka t σ G (IsVs [.int (a : Nat), .int (b : Nat)])) (ha : a < d.names.length) (hb : b < d.names.length) :
    Ev S n (k + ka) (tMethA Cs m (spP (PAt K pk)) [] E te t) σ G (IsV (pk d.th d.jn a b)) := by
  obtain ⟨C, hC, hk, hs⟩ := h
  have hsc := hs.sc hk.c hk.n
  obtain ⟨dx, fs, hx, hI, hoff⟩ := hs
  have z := ev_meth (S := S) (n := n) (E := E) (R := IsV (pk d.th d.jn a b)) (P := PAt K pk) (dvs := []) st e hx (hoff _ hm) ea fun vs G9 s9 ev => by
    obtain rfl := (show vs = _ from ev)
    exact ⟨_, _, _, _, _, _, _, x, a, b, rfl, hsc.mono s9, ha, hb, rfl⟩
  exact fun G1 H1 s0 s Q q => ⟨C, hC, z G1 H1 s0 s Q q⟩
theorem ev_sNm (st : Stab S) {a : Nat} {nm : Str} (h : ScD K Cs d x G) (e : Ev S n k te σ G (IsV (.ref x))) (ea : EvA S (n + k) ka t σ G (IsVs [.int (a : Nat)])) (ha : d.names[a]? = some nm) : Ev S n (k + ka) (tMethA Cs "name_at" (spP (PName K)) [] E te t) σ G (IsV (.str nm)) := by
  obtain ⟨C, hC, hk, hs⟩ := h
  have hsc := hs.sc hk.c hk.n
  obtain ⟨dx, fs, hx, hI, hoff⟩ := hs
  have z := ev_meth (S := S) (n := n) (E := E) (R := IsV (.str nm)) (P := PName K) (dvs := []) st e hx (hoff "name_at" (by decide)) ea fun vs G9 s9 ev => by
    obtain rfl := (show vs = _ from ev)
    exact ⟨_, _, _, _, _, _, _, x, a, nm, rfl, hsc.mono s9, ha, rfl⟩
  exact fun G1 H1 s0 s Q q => ⟨C, hC, z G1 H1 s0 s Q q⟩
end
/-! ### a, b = f(..) -/
/-! ### [el for i in range(m) for j in range(c)] -/
/-! ### defs with a star parameter -/
theorem okStar {P : Program} {w : World} {K : PySem.W.Frag} {mg : Str → Option Value} {base : Heap} {x qual : Str} {stm : Stmt} {f : Addr} {fd : FuncData} {N ps : List Str} {pv : Str} {k : Nat} {sp0 : Sp} (F : Fun K x qual stm f fd) (S : FnScope N (ps ++ [pv]) (defScope stm))
    (hb : ∀ (kV doc pm : Value) (an : Option Addr) (cdv ct : Value) (us rest : List Value), us.length = ps.length → bindArgs (PySem.W.fnOf x qual (defArgs stm) (defBody stm) (defScope stm) .none kV doc pm an cdv ct) ⟨us ++ rest, []⟩ = (newTuple rest >>= fun t => pure (ps.zip us ++ [(pv, t)])))
    (hbody : ∀ (cdv : Value) (A : Around) (outer : List Env) (s : Shared) (H : Hp) (vs : List V) (Q : VK) (E : XK), Room k (A.deeper (envOfC qual (defScope stm) s.heap.objs.size f cdv)) → sp0 vs H Q E →
      ∃ t, PSs (cxOf CX0 P w K mg base N qual (defScope stm) f cdv A outer s H E).nox (defBody stm) t ∧ t { nx := fun _ H' => Q .non H', rt := Q } (start N vs) H) :
    FnR P w K mg base CX0 (k + 1) f (fun vs H Q E => ∃ ws rest, vs = ws ++ rest ∧ ws.length = ps.length ∧ rest.length ≤ sizeLine ∧ ∀ p, H p = none → sp0 (ws ++ [V.ref p]) (upd H p (.tup rest)) Q E) := by
  obtain ⟨oc, od, kV, doc, pm, an, cdv, ct, osl, rfl, lk, hcd⟩ := F.ex
  refine StX.fn_star lk hcd S StX.cxUp_none (hb kV doc pm an cdv ct) fun A outer s H vs Q E hr hsp => ?_
  obtain ⟨t, h, q⟩ := hbody cdv A outer s H vs Q E hr hsp
  exact ⟨t, h.nox, q⟩
section
variable {S : SR} {n k : Nat} {te : TE} {tb u : TS} {σ : L2.St} {G H : Hp} {nx bk ct : L2.St → Hp → Prop} {rt : VK} {K : PySem.W.Frag} {g : TG} {p : Addr} {xs : List V}
/-- for .. in a tuple: the turns change locals alone -/
theorem q_forPT (st : Stab S) (s : S n G H) (e : Ev S n k te σ G (IsV (.ref p))) (hq : SqT K G p xs) (Pv : Nat → L2.St → Prop) (h0 : Pv 0 σ)
    (hs : ∀ (j : Nat) x σ' J, xs[j]? = some x → Pv j σ' → Stp S (n + k) G H G J → g x σ' J fun σ2 J2 => tb (Ends.mk (fun τ J => Pv (j + 1) τ ∧ Stp S (n + k) G H G J) rt (u (Ends.mk nx rt bk ct)) (fun τ J => Pv (j + 1) τ ∧ Stp S (n + k) G H G J)) σ2 J2)
    (hd : ∀ σ' J, Pv xs.length σ' → Stp S (n + k) G H G J → u (Ends.mk nx rt bk ct) σ' J) : tSeq (tFor (iTup K te) g tb) u (Ends.mk nx rt bk ct) σ H := by
  refine e G H (Same.refl _) s _ fun v G1 H1 s1 ev => ?_
  have z := st.anti s s1.s s1.g
  refine ⟨p, ev, ⟨xs, same_t (st.sub z) hq⟩, for_tup (K := K) (a := p) (xs := xs) (fun j τ J => Pv j τ ∧ Stp S (n + k) G H G J) ⟨h0, Stp.go0 s1.k z⟩ (fun j τ J _ hp => same_t (st.sub hp.2.s) hq) (fun j x τ J hx hp => hs j x τ J hx hp.1 hp.2) fun τ J hp => hd τ J hp.1 hp.2⟩
end
end L2.DS
/-! Scales of pairs, turned scales. -/
namespace L2.DS
open PySem PySem.Spec PyProof.Rows
/-- the depth above some scales -/
def depL (ds : List SD) : Int := ds.foldl (fun m d => if d.dep ≥ m then d.dep + 1 else m) 1
def turnSD (d : SD) : SD where
  label := ("(turned " : Str) ++ d.label ++ (")" : Str)
  names := d.names
  nv := d.nv
  sl := d.sl
  dep := depL [d]
  th := fun a b => d.th b a
  jn := d.jn
/-- what is known of a scale beside what it holds -/
structure SdOk (d : SD) : Prop where
  nd : d.names.Nodup
  l1 : 1 ≤ d.names.length
  l2 : d.names.length ≤ 64
  sh : ∀ nm ∈ d.names, nm.length ≤ 100000
  ll : d.label.length ≤ 1000000
  nv : 0 ≤ d.nv ∧ d.nv < d.names.length
  sl : 0 ≤ d.sl ∧ d.sl < d.names.length
  th : ∀ a b, a < d.names.length → b < d.names.length → 0 ≤ d.th a b ∧ d.th a b < d.names.length
  jn : ∀ a b, a < d.names.length → b < d.names.length → 0 ≤ d.jn a b ∧ d.jn a b < d.names.length
theorem getD_names {d : SD} {a : Nat} (h : a < d.names.length) : d.names[a]? = some (d.names.getD a ("" : Str)) := by
  rw [List.getD_eq_getElem?_getD, List.getElem?_eq_getElem h]
  rfl
/-! promises -/
def PDep (K : PySem.W.Frag) (Cs : List Addr) : List V → Hp → HR → Prop := fun vs G R => ∃ (size : Int) (p : Addr) (xs : List V) (ds : List SD), vs = [.int size, .ref p] ∧ G p = some (.tup xs) ∧ RL (IsScD K Cs) ds xs G ∧ size ≤ 64 ∧ depL ds ≤ 10 ∧ R = IsV (.int (depL ds))
def PDepC (K : PySem.W.Frag) (Cs : List Addr) : List V → Hp → HR → Prop := fun vs G R => ∃ (size : Int) (xs : List V) (ds : List SD), vs = .int size :: xs ∧ xs.length ≤ 100 ∧ RL (IsScD K Cs) ds xs G ∧ size ≤ 64 ∧ depL ds ≤ 10 ∧ R = IsV (.int (depL ds))
def PTuM (K : PySem.W.Frag) (Cs : List Addr) (C0 : Addr) (pk : SD → Nat → Nat → Int) : List V → Hp → HR → Prop := fun vs G R => ∃ (x dx l : Addr) (fs : List (Str × V)) (d : SD) (a b : Nat), vs = [.ref x, .int (a : Nat), .int (b : Nat)] ∧ G x = some (.ins C0 dx fs) ∧ fs.lookup ("inner" : Str) = some (.ref l) ∧
  ScD K Cs d l G ∧ a < d.names.length ∧ b < d.names.length ∧ R = IsV (.int (pk (turnSD d) a b))
def ScI (d : SD) (fs : List (Str × V)) (G : Hp) : Prop := ScIs d.label d.names d.nv d.sl d.dep d.th d.jn fs G
def PTuI (K : PySem.W.Frag) (Cs : List Addr) (C0 : Addr) : Addr → List (Str × V) → List V → Hp → OR → Prop := fun C fs rest G R => C = C0 ∧ fs = [] ∧ ∃ (l : Addr) (d : SD), rest = [.ref l] ∧ ScD K Cs d l G ∧ SdOk d ∧ depL [d] ≤ 10 ∧
  R = fun _ _ fs' G' => ScI (turnSD d) fs' G' ∧ (∀ f, f ∉ scF → f ≠ ("inner" : Str) → fs'.lookup f = none) ∧ fs'.lookup ("inner" : Str) = some (.ref l)
end L2.DS
/-! The law's own rows of pairs and turned scales. -/
namespace L2.DS
open PySem PySem.Spec PyProof.Rows
/-- a table of whole numbers -/
def IsIRow (n : Nat) (f : Nat → Int) : HR := fun v G => ∃ q, v = .ref q ∧ G q = some (.lst ((List.range n).map fun b => V.int (f b)))
instance (n f) : Mon (IsIRow n f) := ⟨fun s ⟨q, e, h⟩ => ⟨q, e, s _ _ h⟩⟩
def TabN (G : Hp) (p : Addr) (n : Nat) (f : Nat → Nat → Int) : Prop := ∃ vs, G p = some (.lst vs) ∧ RL (fun a => IsIRow n (f a)) (List.range n) vs G
theorem TabN.mono {G G' : Hp} {p : Addr} {n : Nat} {f : Nat → Nat → Int} (h : TabN G p n f) (s : Same G G') : TabN G' p n f := let ⟨vs, a, b⟩ := h; ⟨vs, s _ _ a, rl_mon s b⟩
theorem TabN.at {G : Hp} {p : Addr} {n : Nat} {f : Nat → Nat → Int} (h : TabN G p n f) : ∃ vs, G p = some (.lst vs) ∧ vs.length = n ∧ ∀ a, a < n → ∃ q, vs[a]? = some (.ref q) ∧ G q = some (.lst ((List.range n).map fun b => V.int (f a b))) := by
  obtain ⟨vs, hp, rl⟩ := h
  have lv := rl_len rl
  rw [List.length_range] at lv
  refine ⟨vs, hp, lv, fun a ha => ?_⟩
  obtain ⟨u, hu, q, rfl, hq⟩ := rl_get rl (List.getElem?_range ha)
  exact ⟨q, hu, hq⟩
theorem rowAt {n : Nat} {f : Nat → Int} {b : Nat} (hb : b < n) : atI ((List.range n).map fun b => V.int (f b)) ((b : Nat) : Int) = some (.int (f b)) := atI_nat (by rw [List.getElem?_map, List.getElem?_range hb]; rfl)
/-- the rows of a scale as the law holds them -/
def RowsAt (G : Hp) (p : Addr) (d : SD) : Prop := ∃ pn pj pp, G p = some (.lst [.ref pn, .ref pj, .ref pp, .int d.nv, .int d.sl]) ∧ G pn = some (.lst (d.names.map V.str)) ∧ TabN G pj d.names.length d.jn ∧ TabN G pp d.names.length d.th
theorem RowsAt.mono {G G' : Hp} {p : Addr} {d : SD} (h : RowsAt G p d) (s : Same G G') : RowsAt G' p d := let ⟨a, b, c, h1, h2, h3, h4⟩ := h; ⟨a, b, c, s _ _ h1, s _ _ h2, h3.mono s, h4.mono s⟩
def IsRows (d : SD) : HR := fun v G => ∃ p, v = .ref p ∧ RowsAt G p d
instance (d) : Mon (IsRows d) := ⟨fun s ⟨p, e, h⟩ => ⟨p, e, h.mono s⟩⟩
def rnames (sign : Str) (m : Nat) : List Str := (List.range m).map fun k => sign ++ (toString (((m : Nat) : Int) - (k : Nat)) : Str)
/-- rows drawn for m names -/
structure RowOk (sign : Str) (m : Nat) (d : SD) : Prop where
  nm : d.names = rnames sign m
  nv : 0 ≤ d.nv ∧ d.nv < m
  sl : 0 ≤ d.sl ∧ d.sl < m
  th : ∀ a b, a < m → b < m → 0 ≤ d.th a b ∧ d.th a b < m
  jn : ∀ a b, a < m → b < m → 0 ≤ d.jn a b ∧ d.jn a b < m
/-- two scales' rows told alike -/
structure Tells (ds dr : SD) (turned : Bool) : Prop where
  nm : ds.names = dr.names
  nv : ds.nv = dr.nv
  sl : ds.sl = dr.sl
  th : ∀ a b, a < dr.names.length → b < dr.names.length → ds.th a b = if turned then dr.th b a else dr.th a b
  jn : ∀ a b, a < dr.names.length → b < dr.names.length → ds.jn a b = dr.jn a b
theorem SdOk.turn {d : SD} (o : SdOk d) (h : d.label.length ≤ 900000) : SdOk (turnSD d) := by
  refine ⟨o.nd, o.l1, o.l2, o.sh, ?_, o.nv, o.sl, fun a b ha hb => o.th b a hb ha, o.jn⟩
  show (("(turned " : Str) ++ d.label ++ (")" : Str)).length ≤ _
  have c1 : ("(turned " : Str).length = 8 ∧ (")" : Str).length = 1 := by decide +kernel
  rw [Str.length_append, Str.length_append]
  omega
/-! the table scale made of rows -/
def rowsS (names : List Str) (f : Nat → Nat → Int) : List (List Str) := (List.range names.length).map fun a => (List.range names.length).map fun b => names.getD (f a b).toNat ("" : Str)
theorem rowsS_ok {names : List Str} {f : Nat → Nat → Int} (h : ∀ a b, a < names.length → b < names.length → 0 ≤ f a b ∧ f a b < names.length) : (rowsS names f).length = names.length ∧ ∀ r ∈ rowsS names f, r.length = names.length ∧ ∀ e ∈ r, e ∈ names := by
  unfold rowsS
  refine ⟨by rw [List.length_map, List.length_range], fun r hr => ?_⟩
  obtain ⟨a, ha, rfl⟩ := List.mem_map.mp hr
  have ha := List.mem_range.mp ha
  refine ⟨by rw [List.length_map, List.length_range], fun e he => ?_⟩
  obtain ⟨b, hb, rfl⟩ := List.mem_map.mp he
  have hb := List.mem_range.mp hb
  have := h a b ha hb
  have hi : (f a b).toNat < names.length := by omega
  rw [List.getD_eq_getElem?_getD, List.getElem?_eq_getElem hi]
  exact List.getElem_mem hi
theorem idx_getD {names : List Str} (nd : names.Nodup) {i : Nat} (h : i < names.length) : names.getD i ("" : Str) ∈ names ∧ names.idxOf (names.getD i ("" : Str)) = i := by
  have e : names.getD i ("" : Str) = names[i] := by rw [List.getD_eq_getElem?_getD, List.getElem?_eq_getElem h]; rfl
  rw [e]
  exact ⟨List.getElem_mem h, nd.idxOf_getElem i h⟩
theorem idxT_rows {names : List Str} {f : Nat → Nat → Int} (nd : names.Nodup) (h : ∀ a b, a < names.length → b < names.length → 0 ≤ f a b ∧ f a b < names.length) {a b : Nat} (ha : a < names.length) (hb : b < names.length) : idxT names (rowsS names f) a b = f a b := by
  unfold idxT rowsS
  have := h a b ha hb
  have e : (((List.range names.length).map fun a => (List.range names.length).map fun b => names.getD (f a b).toNat ("" : Str)).getD a []).getD b ("" : Str) = names.getD (f a b).toNat ("" : Str) := by
    rw [List.getD_eq_getElem?_getD, List.getD_eq_getElem?_getD, List.getElem?_map, List.getElem?_range ha]
    show (((List.range names.length).map fun b => names.getD (f a b).toNat ("" : Str))[b]?).getD _ = _
    rw [List.getElem?_map, List.getElem?_range hb]
    rfl
  rw [e, (idx_getD nd (show (f a b).toNat < names.length by omega)).2]
  omega
/-! promises -/
/-- rows drawn -/
def IsTabl (sign : Str) : HR := fun v G => ∃ (m : Nat) (d : SD), 1 ≤ m ∧ m < 5 ∧ IsRows d v G ∧ RowOk sign m d
instance (sign) : Mon (IsTabl sign) := ⟨fun s ⟨m, d, a, b, h, o⟩ => ⟨m, d, a, b, Mon.mon s h, o⟩⟩
theorem rl_of_get {α : Type} {R : α → HR} {G : Hp} : ∀ {ss : List α} {ys : List V}, ys.length = ss.length → (∀ (i : Nat) s y, ss[i]? = some s → ys[i]? = some y → R s y G) → RL R ss ys G
  | [], ys, h, _ => by
    cases ys with
    | nil => rfl
    | cons a r => cases h
  | s :: r, ys, h, hr => by
    cases ys with
    | nil => cases h
    | cons y ys => exact ⟨y, ys, rfl, hr 0 s y rfl rfl, rl_of_get (by simpa using h) fun i s' y' a b => hr (i + 1) s' y' a b⟩
def IsRI (m : Nat) : HR := fun v G => ∃ fr : Nat → Int, IsIRow m fr v G ∧ ∀ b, b < m → 0 ≤ fr b ∧ fr b < m
instance (m) : Mon (IsRI m) := ⟨fun s ⟨fr, a, b⟩ => ⟨fr, Mon.mon s a, b⟩⟩
section
variable {S : SR} {n ka kb : Nat} {t tk : TA} {σ : L2.St} {G : Hp} {R : OR} {C : Addr} {E : XK} {zs : List V} {m1 m2 : Nat} {gV : List V → List V → List V} {RA : HRs}
/-- C(.., k = v), the positional arguments as RA tells -/
theorem ev_makeKR (st : Stab S) [Mons RA] {P : Addr → List (Str × V) → List V → Hp → OR → Prop} (h : EvA S n ka t σ G RA) (hk : EvA S (n + ka) kb tk σ G (IsVs zs)) (l1 : ∀ vs G', RA vs G' → vs.length = m1) (l2 : zs.length = m2)
    (hp : ∀ vs G', Same G G' → RA vs G' → ∃ rest, (∀ x, gV (.ref x :: vs) zs = .ref x :: rest) ∧ P C [] rest G' R) : Ev S n (ka + kb) (tMakeK C m1 m2 (spI P) gV E t tk) σ G (IsO C R) := fun G1 H1 s0 s Q q =>
  h G1 H1 s0 s _ fun vs G2 H2 s2 e => hk G2 H2 (s0.trans s2.g) s2.s _ fun us G3 H3 s3 e' => by
    obtain rfl : us = zs := e'
    have e3 := Mons.mon (R := RA) s3.g e
    obtain ⟨rest, hg, hP⟩ := hp vs G3 ((s0.trans s2.g).trans s3.g) e3
    refine ⟨l1 vs G2 e, l2, fun x dx hx hd nd => ?_⟩
    obtain ⟨a, b⟩ := made_start (C := C) (x := x) (dx := dx) st s3.s hx hd
    refine ⟨x, C, dx, [], rest, G3, R, hg x, upd_same, a, b, hP, fun fs' G' H' w r => ⟨rfl, ?_⟩⟩
    exact q (.ref x) _ H' ((s2.trans s3).trans (made_stp st s3.s hx hd nd w)).up ⟨x, dx, fs', G', rfl, w.2.1, Same.refl _, r⟩
end
section
variable {S : SR} {n k ka : Nat} {te : TE} {t : TA} {σ : L2.St} {G : Hp} {K : PySem.W.Frag} {Cs : List Addr} {d : SD} {x U : Addr} {E : XK}
theorem ev_sAtN (st : Stab S) {a : Nat} {nm : Str} (h : ScD K Cs d x G) (nd : d.names.Nodup) (e : Ev S n k te σ G (IsV (.ref x))) (hj : d.names[a]? = some nm) (ea : EvA S (n + k) ka t σ G (IsVs [.str nm])) : Ev S n (k + ka) (tMethA Cs "at_name" (sp_at_name K U) [] E te t) σ G (IsV (.int (a : Nat))) := by
  obtain ⟨C, hC, hk, hs⟩ := h
  have hsc := hs.sc hk.c hk.n
  obtain ⟨dx, fs, hx, hI, hoff⟩ := hs
  have z := ev_at_name (E := E) (U := U) st e hx (hoff "at_name" (by decide)) hsc nd hj ea
  exact fun G1 H1 s0 s Q q => ⟨C, hC, z G1 H1 s0 s Q q⟩
end
theorem Tells.turn {ds dr : SD} {t : Bool} (h : Tells ds dr t) : Tells (turnSD ds) dr (!t) := by
  refine ⟨h.nm, h.nv, h.sl, fun a b ha hb => ?_, h.jn⟩
  show ds.th b a = _
  rw [h.th b a hb ha]
  cases t <;> rfl
section
variable {K : PySem.W.Frag} {Cs : List Addr} {C : Addr} {G : Hp} {v : V} {d d1 d2 : SD} {l r : Addr}
theorem ScI.to {fs : List (Str × V)} {x dx : Addr} (hCs : C ∈ Cs) (hC : ClsOk K C) (hx : G x = some (.ins C dx fs)) (h : ScI d fs G) (hm : ∀ f ∈ metF, fs.lookup f = none) : ScD K Cs d x G := ⟨C, hCs, hC, dx, fs, hx, h, hm⟩
theorem ScI.mono' {fs : List (Str × V)} {G G' : Hp} (h : ScI d fs G) (s : Same G G') : ScI d fs G' := ScIs.mono h s
end
end L2.DS
/-! Scales of heaps. -/
namespace L2.DS
open PySem PySem.Spec PyProof.Rows
/-- the places that a number tells -/
def bitsOf (n : Nat) (a : Nat) : List Nat := (List.range n).filter fun k => decide (Builtin.bitAnd (((a : Nat) : Int) / 2 ^ k) 1 = 1)
def heapName (names : List Str) (a : Nat) : Str := ("{" : Str) ++ Txt.join ("," : Str) ((bitsOf names.length a).map fun k => names.getD k ("" : Str)) ++ ("}" : Str)
def heapNames (names : List Str) : List Str := (List.range (2 ^ names.length)).map (heapName names)
/-! bits -/
theorem bor_nat (x y : Nat) : Builtin.bitOr (x : Nat) (y : Nat) = ((x ||| y : Nat) : Int) := by
  have e : ∀ z : Nat, decide ((0 : Int) ≤ Builtin.bitNot (z : Nat)) = false := fun z => by
    unfold Builtin.bitNot
    exact decide_eq_false (by omega)
  have e2 : ∀ z : Nat, (Builtin.bitNot (Builtin.bitNot ((z : Nat) : Int))).toNat = z := fun z => by
    unfold Builtin.bitNot
    omega
  unfold Builtin.bitOr Builtin.bitAnd
  rw [e, e]
  show Builtin.bitNot (Builtin.bitNot ((((Builtin.bitNot (Builtin.bitNot ((x : Nat) : Int))).toNat ||| (Builtin.bitNot (Builtin.bitNot ((y : Nat) : Int))).toNat : Nat)) : Int)) = _
  rw [e2, e2]
  unfold Builtin.bitNot
  omega
/-- a list of places -/
def IsIL (L : List Nat) : HR := fun v G => ∃ q, v = .ref q ∧ G q = some (.lst (L.map fun k => V.int (k : Nat)))
instance (L) : Mon (IsIL L) := ⟨fun s ⟨q, e, h⟩ => ⟨q, e, s _ _ h⟩⟩
def HeapsAt (n : Nat) (G : Hp) (p : Addr) : Prop := ∃ hs, G p = some (.lst hs) ∧ RL (fun a => IsIL (bitsOf n a)) (List.range (2 ^ n)) hs G
theorem HeapsAt.mono {n : Nat} {G G' : Hp} {p : Addr} (h : HeapsAt n G p) (s : Same G G') : HeapsAt n G' p := let ⟨hs, a, b⟩ := h; ⟨hs, s _ _ a, rl_mon s b⟩
theorem HeapsAt.at {n : Nat} {G : Hp} {p : Addr} (h : HeapsAt n G p) : ∃ hs, G p = some (.lst hs) ∧ hs.length = 2 ^ n ∧ ∀ a, a < 2 ^ n → ∃ q, hs[a]? = some (.ref q) ∧ G q = some (.lst ((bitsOf n a).map fun k => V.int (k : Nat))) := by
  obtain ⟨hs, hp, rl⟩ := h
  have lv := rl_len rl
  rw [List.length_range] at lv
  refine ⟨hs, hp, lv, fun a ha => ?_⟩
  obtain ⟨u, hu, q, rfl, hq⟩ := rl_get rl (List.getElem?_range ha)
  exact ⟨q, hu, hq⟩
end L2.DS
/-! The law's own rows of heaps. -/
namespace L2.DS
open PySem PySem.Spec PyProof.Rows
/-- rows of a scale as the law holds them -/
def InnAt (K : PySem.W.Frag) (Cs : List Addr) (d : SD) (G : Hp) (p : Addr) : Prop := ∃ x pn pp, G p = some (.lst [.ref x, .ref pn, .ref pp, .int d.sl]) ∧ ScD K Cs d x G ∧ G pn = some (.lst (d.names.map V.str)) ∧ TabN G pp d.names.length d.th
theorem InnAt.mono {K : PySem.W.Frag} {Cs : List Addr} {d : SD} {G G' : Hp} {p : Addr} (h : InnAt K Cs d G p) (s : Same G G') : InnAt K Cs d G' p := let ⟨x, a, b, h1, h2, h3, h4⟩ := h; ⟨x, a, b, s _ _ h1, h2.mono s, s _ _ h3, h4.mono s⟩
def IsInn (K : PySem.W.Frag) (Cs : List Addr) (d : SD) : HR := fun v G => ∃ p, v = .ref p ∧ InnAt K Cs d G p
instance (K Cs d) : Mon (IsInn K Cs d) := ⟨fun s ⟨p, e, h⟩ => ⟨p, e, h.mono s⟩⟩
structure InOk (d : SD) : Prop where
  ok : SdOk d
  n5 : d.names.length ≤ 5
  d0 : 1 ≤ d.dep
  dp : d.dep ≤ 4
  ll : d.label.length ≤ 60000
  hn : (heapNames d.names).Nodup
  sh : ∀ nm ∈ d.names, nm.length ≤ 100
structure FreeOk (sign : Str) (m : Nat) (d : SD) : Prop where
  nm : d.names = rnames sign m
  ok : InOk d
  dp : d.dep = 1
  ll : d.label.length ≤ 20000
def IsFree (K : PySem.W.Frag) (Cs : List Addr) (sign : Str) (mx : Nat) : HR := fun v G => ∃ (m : Nat) (d : SD), 1 ≤ m ∧ m ≤ mx ∧ IsInn K Cs d v G ∧ FreeOk sign m d
instance (K Cs sign mx) : Mon (IsFree K Cs sign mx) := ⟨fun s ⟨m, d, a, b, h, o⟩ => ⟨m, d, a, b, Mon.mon s h, o⟩⟩
def IsInner (K : PySem.W.Frag) (Cs : List Addr) : HR := fun v G => ∃ d : SD, IsInn K Cs d v G ∧ InOk d
instance (K Cs) : Mon (IsInner K Cs) := ⟨fun s ⟨d, h, o⟩ => ⟨d, Mon.mon s h, o⟩⟩
/-! promises -/
theorem TabN.congr {G : Hp} {p : Addr} {n : Nat} {f g : Nat → Nat → Int} (h : TabN G p n f) (e : ∀ a b, a < n → b < n → f a b = g a b) : TabN G p n g := by
  obtain ⟨vs, hp, lv, hat⟩ := h.at
  refine ⟨vs, hp, rl_of_get (by rw [lv, List.length_range]) fun i s y hs hy => ?_⟩
  have hi : i < n := by
    have := (List.getElem?_eq_some_iff.mp hs).1
    rw [List.length_range] at this
    exact this
  rw [List.getElem?_range hi] at hs
  obtain rfl := Option.some.inj hs
  obtain ⟨q, hq, gq⟩ := hat i hi
  rw [hq] at hy
  obtain rfl := Option.some.inj hy
  refine ⟨q, rfl, ?_⟩
  rw [gq]
  exact congrArg (fun z => some (HO.lst z)) (List.map_congr_left fun b hb => by rw [e i b hi (List.mem_range.mp hb)])
/-- the tables of a table scale -/
theorem tbl_sd {names : List Str} {joins : List (List Str)} {th : Nat → Nat → Int} {low : Str} {u : Nat} (T : TbOk names joins (rowsS names th) low (names.getD u ("" : Str))) (hu : u < names.length) (bt : ∀ a b, a < names.length → b < names.length → 0 ≤ th a b ∧ th a b < names.length) :
    SdOk ⟨tbLab names low (names.getD u ("" : Str)) joins (rowsS names th), names, (names.idxOf low : Nat), (names.idxOf (names.getD u ("" : Str)) : Nat), 1, idxT names (rowsS names th), idxT names joins⟩ ∧ (tbLab names low (names.getD u ("" : Str)) joins (rowsS names th)).length ≤ 20000 := by
  have nj := names_join T.ok T.l2
  have jj := joinR_len T.ok T.l2 T.jl T.jr
  have jp := joinR_len T.ok T.l2 T.pl T.pr
  have lf := okNm_len (T.ok _ T.nv)
  have ls := okNm_len (T.ok _ T.sl)
  have hlab : (tbLab names low (names.getD u ("" : Str)) joins (rowsS names th)).length ≤ 20000 := by
    have c1 : ("(table (" : Str).length = 8 ∧ (") " : Str).length = 2 ∧ (" (" : Str).length = 2 ∧ (") (" : Str).length = 3 ∧ ("))" : Str).length = 2 ∧ (" " : Str).length = 1 := by decide +kernel
    unfold tbLab
    simp only [Str.length_append]
    omega
  have ix : ∀ e ∈ names, 0 ≤ ((names.idxOf e : Nat) : Int) ∧ ((names.idxOf e : Nat) : Int) < ((names.length : Nat) : Int) := fun e he => by
    have := List.idxOf_lt_length_iff.mpr he
    omega
  refine ⟨⟨T.nd, T.l1, by have := T.l2; show names.length ≤ 64; omega, fun nm h => by have := okNm_len (T.ok nm h); omega, Nat.le_trans hlab (by decide), ix _ T.nv, ix _ T.sl, fun a b ha hb => ?_, fun a b ha hb => ?_⟩, hlab⟩
  · show 0 ≤ idxT names (rowsS names th) a b ∧ idxT names (rowsS names th) a b < ((names.length : Nat) : Int)
    rw [idxT_rows T.nd bt ha hb]
    exact bt a b ha hb
  · have ha : a < names.length := ha
    have hb : b < names.length := hb
    have haj : a < joins.length := by rw [T.jl]; exact ha
    have e1 : joins[a]? = some joins[a] := List.getElem?_eq_getElem haj
    obtain ⟨r1, r2⟩ := T.jr _ (List.mem_of_getElem? e1)
    have hbr : b < (joins[a]).length := by rw [r1]; exact hb
    refine ix _ ?_
    rw [List.getD_eq_getElem?_getD, List.getD_eq_getElem?_getD, e1]
    show ((joins[a])[b]?).getD _ ∈ names
    rw [List.getElem?_eq_getElem hbr]
    exact r2 _ (List.getElem_mem hbr)
end L2.DS
/-! The inner scales of the law of heaps; tables by two comprehensions. -/
namespace L2.DS
open PySem PySem.Spec PyProof.Rows
theorem cwords_len (t : Nat) : (("never" : Str) :: cwords t).length = t + 2 := by
  unfold cwords
  rw [List.length_cons, List.length_map, List.length_range]
/-! the law's tables -/
/-- a list of whole numbers -/
def IsIV (L : List Int) : HR := fun v G => ∃ q, v = .ref q ∧ G q = some (.lst (L.map V.int))
instance (L) : Mon (IsIV L) := ⟨fun s ⟨q, e, h⟩ => ⟨q, e, s _ _ h⟩⟩
/-- the scale that stands first in a row -/
def IsFrS (K : PySem.W.Frag) (Cs : List Addr) (sign : Str) (m : Nat) : HR := fun v G => ∃ d, IsScD K Cs d v G ∧ FreeOk sign m d
instance (K Cs sign m) : Mon (IsFrS K Cs sign m) := ⟨fun s ⟨d, h, o⟩ => ⟨d, Mon.mon s h, o⟩⟩
section
variable {S : SR} {n k : Nat} {t : TA} {σ : L2.St} {G : Hp} {RA : HRs} {R : OR} {C : Addr} {dvs : List V} {E : XK}
/-- C(..), what is promised told more weakly -/
theorem ev_makeW (st : Stab S) {P : Addr → List (Str × V) → List V → Hp → OR → Prop} (h : EvA S n k t σ G RA) (hp : ∀ vs G', Same G G' → RA vs G' → ∃ R0 : OR, P C [] (vs ++ dvs) G' R0 ∧ ∀ a b fs G, R0 a b fs G → R a b fs G) : Ev S n k (tMake C (spI P) dvs E t) σ G (IsO C R) := fun G1 H1 s0 s Q q =>
  h G1 H1 s0 s _ fun vs G2 H2 s2 e x dx hx hd nd => by
    obtain ⟨a, b⟩ := made_start (C := C) (x := x) (dx := dx) st s2.s hx hd
    obtain ⟨R0, hp0, hw⟩ := hp vs G2 (s0.trans s2.g) e
    refine ⟨x, C, dx, [], vs ++ dvs, G2, R0, rfl, upd_same, a, b, hp0, fun fs' G' H' w r => ⟨rfl, ?_⟩⟩
    exact q (.ref x) _ H' (s2.trans (made_stp st s2.s hx hd nd w)) ⟨x, dx, fs', G', rfl, w.2.1, Same.refl _, hw _ _ _ _ r⟩
end
/-! the law's products -/
end L2.DS
/-! Regular scales: the rules of joins and products, kept by pairs, turned scales and heaps. -/
namespace L2.DS
open PySem PySem.Spec PyProof.Rows
structure RegF (n : Nat) (t j : Nat → Nat → Nat) (z u : Nat) : Prop where
  zn : z < n
  un : u < n
  tb : ∀ {a b}, a < n → b < n → t a b < n
  jb : ∀ {a b}, a < n → b < n → j a b < n
  jj : ∀ {a}, a < n → j a a = a
  jc : ∀ {a b}, a < n → b < n → j a b = j b a
  ja : ∀ {a b c}, a < n → b < n → c < n → j (j a b) c = j a (j b c)
  jz : ∀ {a}, a < n → j a z = a
  ta : ∀ {a b c}, a < n → b < n → c < n → t (t a b) c = t a (t b c)
  tu : ∀ {a}, a < n → t u a = a ∧ t a u = a
  tz : ∀ {a}, a < n → t z a = z ∧ t a z = z
  dl : ∀ {a b c}, a < n → b < n → c < n → t a (j b c) = j (t a b) (t a c)
  dr : ∀ {a b c}, a < n → b < n → c < n → t (j a b) c = j (t a c) (t b c)
def SD.T (d : SD) (a b : Nat) : Nat := (d.th a b).toNat
def SD.J (d : SD) (a b : Nat) : Nat := (d.jn a b).toNat
def Reg (d : SD) : Prop := RegF d.names.length d.T d.J d.nv.toNat d.sl.toNat
/-- by what the places stand for -/
theorem RegF.rep {X : Type} {n : Nat} {t j : Nat → Nat → Nat} {z u : Nat} (f : Nat → X) (T J : X → X → X) (inj : ∀ {a b}, a < n → b < n → f a = f b → a = b) (zn : z < n) (un : u < n) (tb : ∀ {a b}, a < n → b < n → t a b < n) (jb : ∀ {a b}, a < n → b < n → j a b < n)
    (ht : ∀ {a b}, a < n → b < n → f (t a b) = T (f a) (f b)) (hj : ∀ {a b}, a < n → b < n → f (j a b) = J (f a) (f b)) (jj : ∀ {a}, a < n → J (f a) (f a) = f a) (jc : ∀ {a b}, a < n → b < n → J (f a) (f b) = J (f b) (f a))
    (ja : ∀ {a b c}, a < n → b < n → c < n → J (J (f a) (f b)) (f c) = J (f a) (J (f b) (f c))) (jz : ∀ {a}, a < n → J (f a) (f z) = f a) (ta : ∀ {a b c}, a < n → b < n → c < n → T (T (f a) (f b)) (f c) = T (f a) (T (f b) (f c)))
    (tu : ∀ {a}, a < n → T (f u) (f a) = f a ∧ T (f a) (f u) = f a) (tz : ∀ {a}, a < n → T (f z) (f a) = f z ∧ T (f a) (f z) = f z) (dl : ∀ {a b c}, a < n → b < n → c < n → T (f a) (J (f b) (f c)) = J (T (f a) (f b)) (T (f a) (f c)))
    (dr : ∀ {a b c}, a < n → b < n → c < n → T (J (f a) (f b)) (f c) = J (T (f a) (f c)) (T (f b) (f c))) : RegF n t j z u where
  zn := zn
  un := un
  tb := tb
  jb := jb
  jj ha := inj (jb ha ha) ha (by rw [hj ha ha, jj ha])
  jc ha hb := inj (jb ha hb) (jb hb ha) (by rw [hj ha hb, hj hb ha, jc ha hb])
  ja ha hb hc := inj (jb (jb ha hb) hc) (jb ha (jb hb hc)) (by rw [hj (jb ha hb) hc, hj ha hb, hj ha (jb hb hc), hj hb hc, ja ha hb hc])
  jz ha := inj (jb ha zn) ha (by rw [hj ha zn, jz ha])
  ta ha hb hc := inj (tb (tb ha hb) hc) (tb ha (tb hb hc)) (by rw [ht (tb ha hb) hc, ht ha hb, ht ha (tb hb hc), ht hb hc, ta ha hb hc])
  tu ha := ⟨inj (tb un ha) ha (by rw [ht un ha, (tu ha).1]), inj (tb ha un) ha (by rw [ht ha un, (tu ha).2])⟩
  tz ha := ⟨inj (tb zn ha) zn (by rw [ht zn ha, (tz ha).1]), inj (tb ha zn) zn (by rw [ht ha zn, (tz ha).2])⟩
  dl ha hb hc := inj (tb ha (jb hb hc)) (jb (tb ha hb) (tb ha hc)) (by rw [ht ha (jb hb hc), hj hb hc, hj (tb ha hb) (tb ha hc), ht ha hb, ht ha hc, dl ha hb hc])
  dr ha hb hc := inj (tb (jb ha hb) hc) (jb (tb ha hc) (tb hb hc)) (by rw [ht (jb ha hb) hc, hj ha hb, hj (tb ha hc) (tb hb hc), ht ha hc, ht hb hc, dr ha hb hc])
/-- a family with never: what stands behind it has its own joins and products -/
theorem RegF.opt {n : Nat} {TT JJ : Nat → Nat → Nat} (n0 : 0 < n) (tb : ∀ {x y}, x < n → y < n → TT x y < n) (jb : ∀ {x y}, x < n → y < n → JJ x y < n) (jj : ∀ {x}, x < n → JJ x x = x) (jc : ∀ {x y}, x < n → y < n → JJ x y = JJ y x) (ja : ∀ {x y z}, x < n → y < n → z < n → JJ (JJ x y) z = JJ x (JJ y z))
    (ta : ∀ {x y z}, x < n → y < n → z < n → TT (TT x y) z = TT x (TT y z)) (tu : ∀ {x}, x < n → TT 0 x = x ∧ TT x 0 = x) (dl : ∀ {x y z}, x < n → y < n → z < n → TT x (JJ y z) = JJ (TT x y) (TT x z)) (dr : ∀ {x y z}, x < n → y < n → z < n → TT (JJ x y) z = JJ (TT x z) (TT y z)) :
    RegF (n + 1) (fun a b => if a = 0 ∨ b = 0 then 0 else TT (a - 1) (b - 1) + 1) (fun a b => if a = 0 ∨ b = 0 then a + b else JJ (a - 1) (b - 1) + 1) 0 1 where
  zn := by omega
  un := by omega
  tb {a b} ha hb := by
    rcases a with _ | a <;> rcases b with _ | b <;> simp
    exact tb (by omega) (by omega)
  jb {a b} ha hb := by
    rcases a with _ | a <;> rcases b with _ | b <;> simp <;> try omega
    exact jb (by omega) (by omega)
  jj {a} ha := by
    rcases a with _ | a <;> simp
    exact jj (by omega)
  jc {a b} ha hb := by
    rcases a with _ | a <;> rcases b with _ | b <;> simp
    exact jc (by omega) (by omega)
  ja {a b c} ha hb hc := by
    rcases a with _ | a <;> rcases b with _ | b <;> rcases c with _ | c <;> simp
    exact ja (by omega) (by omega) (by omega)
  jz {a} ha := by
    rcases a with _ | a <;> simp
  ta {a b c} ha hb hc := by
    rcases a with _ | a <;> rcases b with _ | b <;> rcases c with _ | c <;> simp
    exact ta (by omega) (by omega) (by omega)
  tu {a} ha := by
    rcases a with _ | a <;> simp
    exact tu (by omega)
  tz {a} ha := by
    rcases a with _ | a <;> simp
  dl {a b c} ha hb hc := by
    rcases a with _ | a <;> rcases b with _ | b <;> rcases c with _ | c <;> simp
    exact dl (by omega) (by omega) (by omega)
  dr {a b c} ha hb hc := by
    rcases a with _ | a <;> rcases b with _ | b <;> rcases c with _ | c <;> simp
    exact dr (by omega) (by omega) (by omega)
/-! counts -/
def cntSD (t : Nat) (up : Bool) : SD := ⟨clabel (t : Nat) up, ("never" : Str) :: cwords t, 0, 1, 1, cth (t : Nat), cjn up⟩
theorem cth_N (t : Nat) : (fun a b => (cth (t : Nat) a b).toNat) = fun a b => if a = 0 ∨ b = 0 then 0 else min ((a - 1) + (b - 1)) t + 1 := by
  funext a b
  unfold cth cthen
  split
  · rfl
  · split <;> omega
theorem cjn_N (up : Bool) : (fun a b => (cjn up a b).toNat) = fun a b => if a = 0 ∨ b = 0 then a + b else (if up then max (a - 1) (b - 1) else min (a - 1) (b - 1)) + 1 := by
  funext a b
  unfold cjn ceit
  split
  · omega
  · cases up
    · by_cases h : b < a
      · rw [if_neg (by simp; omega), if_neg (by decide)]
        omega
      · rw [if_pos (by simp; omega), if_neg (by decide)]
        omega
    · by_cases h : b < a
      · rw [if_pos (by simp; omega), if_pos rfl]
        omega
      · rw [if_neg (by simp; omega), if_pos rfl]
        omega
theorem count_reg (t : Nat) (up : Bool) : Reg (cntSD t up) := by
  show RegF (("never" : Str) :: cwords t).length (fun a b => (cth (t : Nat) a b).toNat) (fun a b => (cjn up a b).toNat) 0 1
  rw [cwords_len, cth_N, cjn_N]
  cases up
  · exact RegF.opt (n := t + 1) (TT := fun x y => min (x + y) t) (JJ := fun x y => min x y) (by omega) (by intros; omega) (by intros; omega) (by intros; omega) (by intros; omega) (by intros; omega) (by intros; omega) (by intros; omega) (by intros; omega) (by intros; omega)
  · exact RegF.opt (n := t + 1) (TT := fun x y => min (x + y) t) (JJ := fun x y => max x y) (by omega) (by intros; omega) (by intros; omega) (by intros; omega) (by intros; omega) (by intros; omega) (by intros; omega) (by intros; omega) (by intros; omega) (by intros; omega)
/-! spans -/
/-! sets -/
def stSD (c : Nat) (may : Bool) : SD := ⟨tlabel (c : Nat) may, ("never" : Str) :: twords c, 0, 1, 1, tth, tjn may⟩
theorem band_nat (x y : Nat) : Builtin.bitAnd (x : Nat) (y : Nat) = ((x &&& y : Nat) : Int) := by
  unfold Builtin.bitAnd
  rw [decide_eq_true (Int.natCast_nonneg x), decide_eq_true (Int.natCast_nonneg y)]
  rfl
theorem tth_N : (fun a b => (tth a b).toNat) = fun a b => if a = 0 ∨ b = 0 then 0 else ((a - 1) ||| (b - 1)) + 1 := by
  funext a b
  unfold tth
  split
  · rfl
  · rw [show ((a : Int) - 1) = ((a - 1 : Nat) : Int) by omega, show ((b : Int) - 1) = ((b - 1 : Nat) : Int) by omega, bor_nat]
    omega
theorem tjn_N (may : Bool) : (fun a b => (tjn may a b).toNat) = fun a b => if a = 0 ∨ b = 0 then a + b else (if may then (a - 1) ||| (b - 1) else (a - 1) &&& (b - 1)) + 1 := by
  funext a b
  unfold tjn teit
  split
  · omega
  · rw [show ((a : Int) - 1) = ((a - 1 : Nat) : Int) by omega, show ((b : Int) - 1) = ((b - 1 : Nat) : Int) by omega, bor_nat, band_nat]
    cases may
    · rw [if_neg (by decide), if_neg (by decide)]
      omega
    · rw [if_pos rfl, if_pos rfl]
      omega
theorem st_len (c : Nat) (may : Bool) : (stSD c may).names.length = 2 ^ c + 1 := by
  show (("never" : Str) :: twords c).length = _
  unfold twords
  rw [List.length_cons, List.length_map, List.length_range]
theorem set_reg (c : Nat) (may : Bool) : Reg (stSD c may) := by
  show RegF (stSD c may).names.length (fun a b => (tth a b).toNat) (fun a b => (tjn may a b).toNat) 0 1
  rw [st_len, tth_N, tjn_N]
  cases may
  · exact RegF.opt (n := 2 ^ c) (TT := fun x y => x ||| y) (JJ := fun x y => x &&& y) Nat.one_le_two_pow (fun hx hy => Nat.or_lt_two_pow hx hy) (fun hx hy => Nat.and_lt_two_pow _ hy) (fun _ => Nat.and_self _) (fun _ _ => Nat.and_comm _ _) (fun _ _ _ => Nat.and_assoc _ _ _) (fun _ _ _ => Nat.or_assoc _ _ _) (fun _ => ⟨Nat.zero_or _, Nat.or_zero _⟩)
      (fun _ _ _ => Nat.or_and_distrib_left _ _ _) (fun _ _ _ => Nat.or_and_distrib_right _ _ _)
  · have e : ∀ x y z : Nat, x ||| (y ||| z) = (x ||| y) ||| (x ||| z) := fun x y z => by
      refine Nat.eq_of_testBit_eq fun i => ?_
      simp only [Nat.testBit_or]
      cases x.testBit i <;> cases y.testBit i <;> cases z.testBit i <;> rfl
    have e2 : ∀ x y z : Nat, (x ||| y) ||| z = (x ||| z) ||| (y ||| z) := fun x y z => by
      refine Nat.eq_of_testBit_eq fun i => ?_
      simp only [Nat.testBit_or]
      cases x.testBit i <;> cases y.testBit i <;> cases z.testBit i <;> rfl
    exact RegF.opt (n := 2 ^ c) (TT := fun x y => x ||| y) (JJ := fun x y => x ||| y) Nat.one_le_two_pow (fun hx hy => Nat.or_lt_two_pow hx hy) (fun hx hy => Nat.or_lt_two_pow hx hy) (fun _ => Nat.or_self _) (fun _ _ => Nat.or_comm _ _) (fun _ _ _ => Nat.or_assoc _ _ _) (fun _ _ _ => Nat.or_assoc _ _ _) (fun _ => ⟨Nat.zero_or _, Nat.or_zero _⟩)
      (fun _ _ _ => e _ _ _) (fun _ _ _ => e2 _ _ _)
/-! relations -/
def wtSD (s : Nat) : SD := ⟨wlabel (s : Nat), wwords s, 0, wstill s, 1, wth s, wjn⟩
def wtab : Nat := ((List.range 256).foldr (fun k acc => acc * 16 + (wth 2 (k / 16) (k % 16)).toNat) 0)
def wlk (W a b : Nat) : Nat := (W >>> (4 * (16 * a + b))) % 16
def regB (n u : Nat) (f : Nat → Nat → Nat) : Bool := (List.range n).all fun a => (f u a == a && f a u == a && f 0 a == 0 && f a 0 == 0) && (List.range n).all fun b => Nat.blt (f a b) n && (List.range n).all fun c => f (f a b) c == f a (f b c) && f a (b ||| c) == (f a b ||| f a c) && f (a ||| b) c == (f a c ||| f b c)
theorem regB_is {k u : Nat} {f : Nat → Nat → Nat} (hu : u < 2 ^ k) (h : regB (2 ^ k) u f = true) : RegF (2 ^ k) f (fun a b => a ||| b) 0 u := by
  unfold regB at h
  simp only [List.all_eq_true, List.mem_range, Bool.and_eq_true, beq_iff_eq, Nat.blt_eq] at h
  exact ⟨Nat.one_le_two_pow, hu, fun ha hb => ((h _ ha).2 _ hb).1, fun ha hb => Nat.or_lt_two_pow ha hb, fun _ => Nat.or_self _, fun _ _ => Nat.or_comm _ _, fun _ _ _ => Nat.or_assoc _ _ _, fun _ => Nat.or_zero _, fun ha hb hc => (((h _ ha).2 _ hb).2 _ hc).1.1,
    fun ha => ⟨(h _ ha).1.1.1.1, (h _ ha).1.1.1.2⟩, fun ha => ⟨(h _ ha).1.1.2, (h _ ha).1.2⟩, fun ha hb hc => (((h _ ha).2 _ hb).2 _ hc).1.2, fun ha hb hc => (((h _ ha).2 _ hb).2 _ hc).2⟩
theorem wreg_b : regB (2 ^ 4) 9 (wlk wtab) = true := by decide +kernel
theorem wreg_1 : regB (2 ^ 1) 1 (fun a b => (wth 1 a b).toNat) = true := by decide +kernel
theorem wtab_is : ∀ a, a < 16 → ∀ b, b < 16 → (wth 2 a b).toNat = wlk wtab a b := by decide +kernel
theorem wt_len (s : Nat) : (wtSD s).names.length = 2 ^ (s * s) := by
  show (wwords s).length = _
  unfold wwords
  rw [List.length_map, List.length_range]
theorem wjn_N : (fun a b => (wjn a b).toNat) = fun a b => a ||| b := by
  funext a b
  unfold wjn
  rw [bor_nat, Int.toNat_natCast]
/-- tables that agree on the places -/
theorem RegF.congr {n z u : Nat} {t t' j : Nat → Nat → Nat} (r : RegF n t j z u) (h : ∀ {a b}, a < n → b < n → t' a b = t a b) : RegF n t' j z u := by
  refine ⟨r.zn, r.un, fun ha hb => by rw [h ha hb]; exact r.tb ha hb, r.jb, r.jj, r.jc, r.ja, r.jz, fun ha hb hc => ?_, fun ha => ?_, fun ha => ?_, fun ha hb hc => ?_, fun ha hb hc => ?_⟩
  · rw [h ha hb, h hb hc, h (r.tb ha hb) hc, h ha (r.tb hb hc)]
    exact r.ta ha hb hc
  · rw [h r.un ha, h ha r.un]
    exact r.tu ha
  · rw [h r.zn ha, h ha r.zn]
    exact r.tz ha
  · rw [h ha (r.jb hb hc), h ha hb, h ha hc]
    exact r.dl ha hb hc
  · rw [h (r.jb ha hb) hc, h ha hc, h hb hc]
    exact r.dr ha hb hc
theorem watch_reg {s : Nat} (hs : s = 1 ∨ s = 2) : Reg (wtSD s) := by
  show RegF (wtSD s).names.length (fun a b => (wth s a b).toNat) (fun a b => (wjn a b).toNat) 0 (wstill s).toNat
  have w : (wstill 1).toNat = 1 ∧ (wstill 2).toNat = 9 := by decide +kernel
  rw [wt_len, wjn_N]
  rcases hs with rfl | rfl
  · rw [w.1]
    exact regB_is (k := 1) (by decide) wreg_1
  · rw [w.2]
    exact (regB_is (k := 4) (by decide) wreg_b).congr fun ha hb => wtab_is _ ha _ hb
/-! turned scales, pairs, heaps -/
end L2.DS
/-! Names of pairs and heaps are told apart: words with brackets. -/
namespace L2.DS
open PySem PySem.Spec PyProof.Rows
def opnC (c : Nat) : Bool := c == 60 || c == 123
def clsC (c : Nat) : Bool := c == 62 || c == 125
def sepC (c : Nat) : Bool := c == 44 || c == 47
def scanW : Nat → List Nat → Option Nat
  | d, [] => some d
  | d, c :: r => if opnC c then scanW (d + 1) r else if clsC c then (match d with | 0 => none | e + 1 => scanW e r) else if sepC c then (match d with | 0 => none | e + 1 => scanW (e + 1) r) else scanW d r
def okW (s : Str) : Prop := s.cps.toList ≠ [] ∧ scanW 0 s.cps.toList = some 0
instance (s) : Decidable (okW s) := inferInstanceAs (Decidable (_ ∧ _))
theorem str_inj {a b : Str} (h : a.cps.toList = b.cps.toList) : a = b := by
  cases a
  cases b
  congr
  exact Array.toList_inj.mp h
theorem cps_app (a b : Str) : (a ++ b).cps.toList = a.cps.toList ++ b.cps.toList := by
  rw [Str.cps_append]
  simp
/-! pairs -/
/-! heaps -/
end L2.DS
/-! Scales around scales: all that is known of them. -/
namespace L2.DS
open PySem PySem.Spec PyProof.Rows
def nmB (n : Nat) : Nat := 20 * 8 ^ n
def lbB (n : Nat) : Nat := 100 * 3 ^ n
theorem nmB_s (n : Nat) : nmB (n + 1) = nmB n * 8 := by unfold nmB; rw [Nat.pow_succ, Nat.mul_assoc]
theorem lbB_s (n : Nat) : lbB (n + 1) = lbB n * 3 := by unfold lbB; rw [Nat.pow_succ, Nat.mul_assoc]
/-- all that is known of a scale that is n deep at most *above* a family -/
structure TrOk (n : Nat) (d : SD) : Prop where
  ok : SdOk d
  rg : Reg d
  wd : ∀ nm ∈ d.names, okW nm
  nl : ∀ nm ∈ d.names, nm.length ≤ nmB n
  ll : d.label.length ≤ lbB n
  d1 : 1 ≤ d.dep
  d2 : d.dep ≤ n + 1
theorem TrOk.up {n : Nat} {d : SD} (h : TrOk n d) : TrOk (n + 1) d := by
  have e := h.d2
  exact ⟨h.ok, h.rg, h.wd, fun nm m => Nat.le_trans (h.nl nm m) (by rw [nmB_s]; omega), Nat.le_trans h.ll (by rw [lbB_s]; omega), h.d1, by omega⟩
/-! families -/
theorem cnt_ok {t : Nat} (ht : t < 63) (up : Bool) : SdOk (cntSD t up) := by
  have hl : (cntSD t up).names.length = t + 2 := cwords_len t
  have h2 : (cntSD t up).label.length ≤ 100 := (clabel_len t (by omega) up).1
  refine ⟨cwords_nodup t (by omega), by omega, by omega, fun nm h => Nat.le_trans (cwords_short t (by omega) nm h) (by decide), by omega, ?_, ?_, fun a b ha hb => ?_, fun a b ha hb => ?_⟩
  · show (0 : Int) ≤ 0 ∧ (0 : Int) < ((cntSD t up).names.length : Nat)
    omega
  · show (0 : Int) ≤ 1 ∧ (1 : Int) < ((cntSD t up).names.length : Nat)
    omega
  · rw [hl] at ha hb ⊢
    show 0 ≤ cth (t : Nat) a b ∧ cth (t : Nat) a b < ((t + 2 : Nat) : Int)
    unfold cth cthen
    split
    · omega
    · split <;> omega
  · rw [hl] at ha hb ⊢
    show 0 ≤ cjn up a b ∧ cjn up a b < ((t + 2 : Nat) : Int)
    unfold cjn ceit
    split
    · omega
    · split <;> omega
theorem okW_cnt : ∀ t, t < 63 → ∀ nm ∈ (("never" : Str) :: cwords t), okW nm := by decide +kernel
theorem tr_cnt {t : Nat} (ht : t < 63) (up : Bool) : TrOk 0 (cntSD t up) :=
  ⟨cnt_ok ht up, count_reg t up, okW_cnt t ht, fun nm h => Nat.le_trans (cwords_short t (by omega) nm h) (by decide), (clabel_len t (by omega) up).1, Int.le_refl _, by show (1 : Int) ≤ 0 + 1; decide⟩
theorem okW_set : ∀ c, c < 6 → 1 ≤ c → ∀ nm ∈ (("never" : Str) :: twords c), okW nm ∧ nm.length ≤ 20 := by decide +kernel
theorem st_ok {c : Nat} (h0 : 1 ≤ c) (hc : c < 6) (may : Bool) : SdOk (stSD c may) := by
  have hl : (stSD c may).names.length = 2 ^ c + 1 := st_len c may
  have p0 : 1 ≤ 2 ^ c := Nat.one_le_two_pow
  have p5 : 2 ^ c ≤ 2 ^ 5 := Nat.pow_le_pow_right (by decide) (by omega)
  have e2 : (2 : Int) ^ c = ((2 ^ c : Nat) : Int) := by rw [Int.natCast_pow]; rfl
  have h2 : (stSD c may).label.length ≤ 100 := (tlabel_len c hc may).2.2.2
  refine ⟨twords_nodup c hc, by omega, by omega, fun nm h => Nat.le_trans (okW_set c hc h0 nm h).2 (by decide), by omega, ?_, ?_, fun a b ha hb => ?_, fun a b ha hb => ?_⟩
  · show (0 : Int) ≤ 0 ∧ (0 : Int) < ((stSD c may).names.length : Nat)
    omega
  · show (0 : Int) ≤ 1 ∧ (1 : Int) < ((stSD c may).names.length : Nat)
    omega
  · rw [hl] at ha hb ⊢
    show 0 ≤ tth a b ∧ tth a b < _
    unfold tth
    split
    · omega
    · rename_i h
      have := bor_lt c hc (a - 1) (by omega) (b - 1) (by omega)
      rw [e2] at this
      rw [show (a : Int) - 1 = ((a - 1 : Nat) : Int) by omega, show (b : Int) - 1 = ((b - 1 : Nat) : Int) by omega]
      omega
  · rw [hl] at ha hb ⊢
    show 0 ≤ tjn may a b ∧ tjn may a b < _
    unfold tjn teit
    split
    · rename_i h
      omega
    · rename_i h
      rw [show (a : Int) - 1 = ((a - 1 : Nat) : Int) by omega, show (b : Int) - 1 = ((b - 1 : Nat) : Int) by omega]
      have h1 := bor_lt c hc (a - 1) (by omega) (b - 1) (by omega)
      have h2 := band_lt c hc (a - 1) (by omega) (b - 1) (by omega)
      rw [e2] at h1 h2
      split <;> omega
theorem okW_watch : ∀ s, s < 3 → 1 ≤ s → ∀ nm ∈ wwords s, okW nm ∧ nm.length ≤ 20 := by decide +kernel
theorem wstill_bd : ∀ s, s < 3 → 1 ≤ s → 0 ≤ wstill s ∧ wstill s < ((2 ^ (s * s) : Nat) : Int) := by decide +kernel
theorem wth_bd : ∀ s, s < 3 → 1 ≤ s → ∀ a, a < 2 ^ (s * s) → ∀ b, b < 2 ^ (s * s) → 0 ≤ wth s a b ∧ wth s a b < ((2 ^ (s * s) : Nat) : Int) := by decide +kernel
theorem wt_ok {s : Nat} (h : s = 1 ∨ s = 2) : SdOk (wtSD s) := by
  have hs : s < 3 ∧ 1 ≤ s := by omega
  have hl : (wtSD s).names.length = 2 ^ (s * s) := wt_len s
  have p0 : 1 ≤ 2 ^ (s * s) := Nat.one_le_two_pow
  have p5 : 2 ^ (s * s) ≤ 2 ^ 4 := Nat.pow_le_pow_right (by decide) (by rcases h with rfl | rfl <;> decide)
  have h2 : (wtSD s).label.length ≤ 100 := (wlabel_len s hs.1).2
  refine ⟨wwords_nodup s hs.1, by omega, by omega, fun nm h => Nat.le_trans (okW_watch s hs.1 hs.2 nm h).2 (by decide), by omega, ?_, ?_, fun a b ha hb => ?_, fun a b ha hb => ?_⟩
  · show (0 : Int) ≤ 0 ∧ (0 : Int) < ((wtSD s).names.length : Nat)
    omega
  · rw [hl]
    exact wstill_bd s hs.1 hs.2
  · rw [hl] at ha hb ⊢
    exact wth_bd s hs.1 hs.2 a ha b hb
  · rw [hl] at ha hb ⊢
    show 0 ≤ Builtin.bitOr (a : Nat) (b : Nat) ∧ Builtin.bitOr (a : Nat) (b : Nat) < _
    rw [bor_nat]
    have := Nat.or_lt_two_pow ha hb
    omega
/-! scales around scales -/
/-- some scale of that kind -/
def IsTr (K : PySem.W.Frag) (Cs : List Addr) (n : Nat) : HR := fun v G => ∃ d, IsScD K Cs d v G ∧ TrOk n d
instance (K Cs n) : Mon (IsTr K Cs n) := ⟨fun s ⟨d, a, b⟩ => ⟨d, Mon.mon s a, b⟩⟩
end L2.DS
/-! The rules of regular scales as sides; the first fault. -/
namespace L2.DS
open PySem PySem.Spec PyProof.Rows
/-! ### general -/
/-- a tuple of values -/
def IsTup (L : List V) : HR := fun v G => ∃ p, v = .ref p ∧ G p = some (.tup L)
instance (L) : Mon (IsTup L) := ⟨fun s ⟨p, e, h⟩ => ⟨p, e, s _ _ h⟩⟩
/-- a tuple of two data -/
def IsPd (K : PySem.W.Frag) (l r : PyData) : HR := fun v G => ∃ p u w, v = .ref p ∧ SqT K G p [u, w] ∧ Dp K G u l ∧ Dp K G w r
instance (K l r) : Mon (IsPd K l r) := ⟨fun s ⟨p, u, w, e, h, a, b⟩ => ⟨p, u, w, e, same_t s h, dp_mon s a, dp_mon s b⟩⟩
theorem IsPd.dp {K : PySem.W.Frag} {l r : PyData} {v : V} {G : Hp} (h : IsPd K l r v G) : IsD K (.tuple [l, r]) v G := by
  obtain ⟨p, u, w, rfl, h, a, b⟩ := h
  exact .tup h (.cons a (.cons b .nil))
/-! ### sides -/
section
variable {S : SR} {n : Nat} {t0 ta tb : TE} {σ : L2.St} {G : Hp} {K : PySem.W.Frag} {Cs : List Addr} {d : SD} {x : Addr} {E : XK} {a b : Nat}
theorem SdOk.T {d : SD} (o : SdOk d) {a b : Nat} (ha : a < d.names.length) (hb : b < d.names.length) : ((d.T a b : Nat) : Int) = d.th a b ∧ d.T a b < d.names.length := by
  have := o.th a b ha hb
  unfold SD.T
  omega
theorem SdOk.J {d : SD} (o : SdOk d) {a b : Nat} (ha : a < d.names.length) (hb : b < d.names.length) : ((d.J a b : Nat) : Int) = d.jn a b ∧ d.J a b < d.names.length := by
  have := o.jn a b ha hb
  unfold SD.J
  omega
theorem ev_J (st : Stab S) (h : ScD K Cs d x G) (o : SdOk d) (e0 : Ev S n 0 t0 σ G (IsV (.ref x))) (ea : Ev S n 0 ta σ G (IsV (.int (a : Nat)))) (eb : Ev S n 0 tb σ G (IsV (.int (b : Nat)))) (ha : a < d.names.length) (hb : b < d.names.length) :
    Ev S n 0 (tMethA Cs "join_at" (spP (PAt K fun _ jn a b => .int (jn a b))) [] E t0 (tCons ta (tCons tb tNil))) σ G (IsV (.int (d.J a b : Nat))) :=
  ev_eq (congrArg V.int (o.J ha hb).1.symm) (ev_sAt (pk := fun _ jn a b => .int (jn a b)) st h (by decide) e0 (ea_consV ea (ea_consV eb ea_nilV)) ha hb)
theorem ev_T (st : Stab S) (h : ScD K Cs d x G) (o : SdOk d) (e0 : Ev S n 0 t0 σ G (IsV (.ref x))) (ea : Ev S n 0 ta σ G (IsV (.int (a : Nat)))) (eb : Ev S n 0 tb σ G (IsV (.int (b : Nat)))) (ha : a < d.names.length) (hb : b < d.names.length) :
    Ev S n 0 (tMethA Cs "then_at" (spP (PAt K fun th _ a b => .int (th a b))) [] E t0 (tCons ta (tCons tb tNil))) σ G (IsV (.int (d.T a b : Nat))) :=
  ev_eq (congrArg V.int (o.T ha hb).1.symm) (ev_sAt (pk := fun th _ a b => .int (th a b)) st h (by decide) e0 (ea_consV ea (ea_consV eb ea_nilV)) ha hb)
theorem ev_nv (st : Stab S) (h : ScD K Cs d x G) (o : SdOk d) (e0 : Ev S n 0 t0 σ G (IsV (.ref x))) : Ev S n 0 (tFld K t0 "never_at") σ G (IsV (.int (d.nv.toNat : Nat))) := ev_eq (congrArg V.int (by have := o.nv; omega)) (ev_sF st h e0).2.1
theorem ev_sl (st : Stab S) (h : ScD K Cs d x G) (o : SdOk d) (e0 : Ev S n 0 t0 σ G (IsV (.ref x))) : Ev S n 0 (tFld K t0 "still_at") σ G (IsV (.int (d.sl.toNat : Nat))) := ev_eq (congrArg V.int (by have := o.sl; omega)) (ev_sF st h e0).2.2.1
end
/-! ### the first worths for which two sides are not equal -/
def wordsF (i : Nat) : Str := (["join-same", "join-swap", "join-group", "join-never", "then-group", "then-still", "then-never", "spread-left", "spread-right"] : List Str).getD i ("" : Str)
def IsFn : Option (List Nat) → HR
  | none => IsV .non
  | some t => fun v G => ∃ p, v = .ref p ∧ G p = some (.tup (t.map fun k => V.int (k : Nat)))
instance : (o : Option (List Nat)) → Mon (IsFn o)
  | none => inferInstanceAs (Mon (IsV .non))
  | some t => ⟨fun s ⟨p, e, h⟩ => ⟨p, e, s _ _ h⟩⟩
def IsFt (K : PySem.W.Frag) (d : SD) : Option (Nat × List Nat) → HR
  | none => IsV .non
  | some (i, t) => fun v G => ∃ p q, v = .ref p ∧ SqT K G p [.str (wordsF i), .ref q] ∧ G q = some (.tup (t.map fun k => V.str (d.names.getD k ("" : Str))))
instance (K d) : (o : Option (Nat × List Nat)) → Mon (IsFt K d o)
  | none => inferInstanceAs (Mon (IsV .non))
  | some (i, t) => ⟨fun s ⟨p, q, e, h, h'⟩ => ⟨p, q, e, same_t s h, s _ _ h'⟩⟩
theorem Stp.back {S : SR} (st : Stab S) {n m : Nat} {G H J G' J' : Hp} (a : Stp S n G H G J) (b : Stp S m G J G' J') : Stp S m G H G J' := ⟨Same.refl _, a.k.trans b.k, st.anti a.s b.s b.g, fun _ _ h => .inl h⟩
end L2.DS
/-! Scales that a law makes. -/
namespace L2.DS
open PySem PySem.Spec PyProof.Rows
/-- a scale of which P tells -/
def IsScP (K : PySem.W.Frag) (Cs : List Addr) (P : SD → Prop) : HR := fun v G => ∃ d, IsScD K Cs d v G ∧ P d
instance (K Cs P) : Mon (IsScP K Cs P) := ⟨fun s ⟨d, a, b⟩ => ⟨d, Mon.mon s a, b⟩⟩
abbrev ScOR (P : SD → Prop) : OR := fun _ _ fs' G' => ∃ d, P d ∧ ScI d fs' G' ∧ ∀ f ∈ metF, fs'.lookup f = none
section
variable {S : SR} {n ka kb : Nat} {te tk tl tr : TE} {t tks : TA} {σ : L2.St} {G : Hp} {K : PySem.W.Frag} {Cs : List Addr} {C : Addr} {E : XK} {P P1 P2 : SD → Prop} {Pm : Int → Prop} {Ps : Str → Prop} {R : OR} {RA RB : HRs} {v : V} {m1 m2 : Nat} {gV : List V → List V → List V}
theorem scp_of (hCs : C ∈ Cs) (hC : ClsOk K C) (h : IsO C (ScOR P) v G) : IsScP K Cs P v G := by
  obtain ⟨x, dx, fs, G', rfl, gx, s, d, hp, a, b⟩ := h
  have s' : Same G' G := fun c o e => s c o (by rw [upd_ne (ne_of_none e gx)]; exact e)
  have hx := s _ _ upd_same
  exact ⟨d, ⟨x, rfl, ScI.to hCs hC hx (a.mono' s') b⟩, hp⟩
theorem ea_1I (h : Ev S n ka te σ G (IsI Pm)) : EvA S n (ka + 0) (tCons te tNil) σ G (RCons (IsI Pm) RNil) := ea_cons h ea_nil
theorem one_I {vs : List V} (h : RCons (IsI Pm) RNil vs G) : ∃ i, vs = [.int i] ∧ Pm i := by
  obtain ⟨_, _, rfl, ⟨i, hi, rfl⟩, e⟩ := h
  obtain rfl := (show _ = [] from e)
  exact ⟨i, rfl, hi⟩
theorem ev_mkCount0 (st : Stab S) (iC : C ∈ Cs) (oC : ClsOk K C) (e : Ev S n ka te σ G (IsI Pm)) (hm : ∀ m, Pm m → 0 ≤ m ∧ m < 63) (hP : ∀ (m : Nat), Pm (m : Nat) → P (cntSD m true)) :
    Ev S n (ka + 0) (tMake C (spI (PCsI C)) [.str "up"] E (tCons te tNil)) σ G (IsScP K Cs P) :=
  (ev_makeW (R := ScOR P) st (ea_1I e) fun vs G' s' h => by
    obtain ⟨i, rfl, hi⟩ := one_I h
    have hb := hm i hi
    obtain ⟨m, rfl⟩ : ∃ m : Nat, i = (m : Nat) := ⟨i.toNat, by omega⟩
    exact ⟨_, ⟨rfl, rfl, m, true, by omega, rfl, rfl⟩, fun a b fs G h => ⟨cntSD m true, hP m hi, h.1, fun f hf => h.2 f (by revert f; decide +kernel) (by revert f; decide +kernel) (by revert f; decide +kernel)⟩⟩).imp fun v G' s' h => scp_of iC oC h
theorem ev_mkTurn (st : Stab S) (iC : C ∈ Cs) (oC : ClsOk K C) (e : Ev S n ka te σ G (IsScP K Cs P1)) (hm : ∀ d, P1 d → SdOk d ∧ depL [d] ≤ 10) (hP : ∀ d, P1 d → P (turnSD d)) :
    Ev S n (ka + 0) (tMake C (spI (PTuI K Cs C)) [] E (tCons te tNil)) σ G (IsScP K Cs P) :=
  (ev_makeW (R := ScOR P) (RA := RCons (IsScP K Cs P1) RNil) st (ea_cons e ea_nil) fun vs G' s' h => by
    obtain ⟨_, _, rfl, ⟨d, ⟨x, rfl, sd⟩, hd⟩, e⟩ := h
    obtain rfl := (show _ = [] from e)
    exact ⟨_, ⟨rfl, rfl, x, d, rfl, sd, (hm d hd).1, (hm d hd).2, rfl⟩, fun a b fs G h => ⟨turnSD d, hP d hd, h.1, fun f hf => h.2.1 f (by revert f; decide +kernel) (by revert f; decide +kernel)⟩⟩).imp fun v G' s' h => scp_of iC oC h
theorem ev_ScD {d : SD} {x : Addr} (h : ScD K Cs d x G) (e : Ev S n ka te σ G (IsV (.ref x))) : Ev S n ka te σ G (IsScP K Cs fun d' => d' = d) := e.imp fun v G' s' h' => ⟨d, ⟨x, h', h.mono s'⟩, rfl⟩
theorem et_neF {i j : Int} {ta tb : TE} (st : Stab S) (ha : Ev S n ka ta σ G (IsV (.int i))) (hb : Ev S (n + ka) kb tb σ G (IsV (.int j))) (h : i = j) : EvT S n (ka + kb) (tTest (tOp (rNeA K) ta tb)) σ G (fun c => c = false) :=
  (et_testV (ev_opV ha hb (v_neI st))).imp fun b e => by rw [e, decide_eq_true h]; rfl
theorem et_orF {tt tu : TT} (st : Stab S) (h1 : EvT S n ka tt σ G (fun c => c = false)) (h2 : EvT S (n + ka) kb tu σ G (fun c => c = false)) : EvT S n (ka + kb) (tOr tt tu) σ G (fun c => c = false) := et_or (a := false) (b := false) st h1 fun _ => h2
theorem et_notT {tt : TT} (h : EvT S n ka tt σ G (fun c => c = true)) : EvT S n ka (tNot tt) σ G (fun c => c = false) := (et_not h).imp fun b e => e
theorem et_neFS {i j : Str} {ta tb : TE} (st : Stab S) (ha : Ev S n ka ta σ G (IsV (.str i))) (hb : Ev S (n + ka) kb tb σ G (IsV (.str j))) (h : i = j) : EvT S n (ka + kb) (tTest (tOp (rNeA K) ta tb)) σ G (fun c => c = false) :=
  (et_testV (ev_opV ha hb (v_neS st))).imp fun b e => by rw [e, decide_eq_true h]; rfl
end
end L2.DS
/-! Operators of own classes. -/
namespace L2.DS
open PySem PySem.Spec PyProof.Rows
/-! ### x != y by an own __eq__ -/
/-! ### rules -/
section
variable {X : Cx} {CX : CXT} {k : Nat} {C a dx : Addr} {fs : List (Str × V)} {m : Str} {ps : List Str} {sp : Sp} {E : XK} {pins : List (Addr × Obj)} {σ : L2.St} {H : Hp} {s : Shared}
theorem inst_of (I : Inv X pins σ H s) (h : H a = some (.ins C dx fs)) : ∃ ox od, PySem.W.InstAt s.heap a ox C (some od) := by
  obtain ⟨mA, J, _⟩ := ins_get I.hok h
  obtain ⟨od, J, _⟩ := J.look
  exact ⟨_, _, J⟩
/-- x op y, both instances of the class at C, the def of op told by sp -/
def rOwn2 (C : Addr) (sp : Sp) (E : XK) : R2 := fun x y H Q => ∃ a b dx dy fs gs, x = .ref a ∧ y = .ref b ∧ H a = some (.ins C dx fs) ∧ H b = some (.ins C dy gs) ∧ sp [x, y] H Q E
theorem op_binOwn {op : Operator} (c : Method X.prog X.w X.K X.mg X.base C m CX k ps [] sp) (hm : PySem.dunder op.info.2 = m) (hc : PySem.W.selfFirst X.K C = true) (hr : Room k X.A) (hx : Passes CX X E) : OpR X (binaryOp op) (rOwn2 C sp E) := by
  intro pins s σ H x y v u Q I rx ry h
  obtain ⟨a, b, dx, dy, fs, gs, rfl, rfl, ha, hb, q⟩ := h
  cases (show v = Value.ref a from rx)
  cases (show u = Value.ref b from ry)
  obtain ⟨f, fd, ds, hC, M, F, B, V⟩ := c
  obtain ⟨ox, od, J⟩ := inst_of I ha
  obtain ⟨oy, oe, J'⟩ := inst_of I hb
  obtain ⟨m', hF⟩ := I.fr
  refine PySem.W.binop_K hF I.ok.mod.kin J J'.type hc (hm ▸ M.at_) M.fn (wpAny_mono (run_fn (vs := [.ref a, .ref b]) F hr B V hx I (.cons rfl (.cons rfl .nil)) q) (fun w s' z => ?_) fun _ _ x => x)
  obtain ⟨z', H', I', rz, qz⟩ := z
  exact SlX.cmpback rz ⟨z', H', I', rz, qz⟩
theorem op_cmpOwn {op : CmpOp} (c : Method X.prog X.w X.K X.mg X.base C m CX k ps [] sp) (hm : (cmpInfo op).2.1 = m) (hr : Room k X.A) (hx : Passes CX X E) (hop : ∀ a b, compareOp op a b = richCompare op a b := by intro _ _; rfl) : OpR X (compareOp op) (rOwn2 C sp E) := by
  intro pins s σ H x y v u Q I rx ry h
  obtain ⟨a, b, dx, dy, fs, gs, rfl, rfl, ha, hb, q⟩ := h
  cases (show v = Value.ref a from rx)
  cases (show u = Value.ref b from ry)
  obtain ⟨f, fd, ds, hC, M, F, B, V⟩ := c
  obtain ⟨ox, od, J⟩ := inst_of I ha
  obtain ⟨oy, oe, J'⟩ := inst_of I hb
  obtain ⟨m', hF⟩ := I.fr
  rw [hop]
  refine PySem.W.cmp_K (tb := .ref C) hr.units0 hF I.ok.mod.kin J J'.type (by simp [PySem.W.notFirst]) (hm ▸ M.at_) M.fn (wpAny_mono (run_fn (vs := [.ref a, .ref b]) F hr B V hx I (.cons rfl (.cons rfl .nil)) q) (fun w s' z => ?_) fun _ _ x => x)
  obtain ⟨z', H', I', rz, qz⟩ := z
  exact SlX.cmpback rz ⟨z', H', I', rz, qz⟩
theorem fnR_of {P : Program} {w : World} {K : PySem.W.Frag} {mg : Str → Option Value} {base : Heap} {f : Addr} {fd : FuncData} (F : FnOk P w K mg base CX k f fd ps sp) (hb : Binds K fd ps []) : FnR P w K mg base CX k f sp :=
  fun A outer s H us vs Q E hr e0 r h => by
    have hl := F.len _ _ _ _ h
    have b := hb s us (fun a o h => (e0.bs _ _ (e0.mod.kin a o h)).1) (by rw [List.append_nil, ← r.length]; exact hl)
    rw [List.append_nil] at b
    exact F.run A outer s H ⟨us, []⟩ us vs Q E hr e0 b r h
/-- isinstance(x, C), C an own class: x an instance of it or something else -/
def rIsW (K : PySem.W.Frag) (C : Addr) : List V → Hp → VK → Prop := fun xs H Q => (∃ a dx fs, xs = [.ref a, .ref C] ∧ H a = some (.ins C dx fs) ∧ Q (.bl true) H) ∨ rIsi K xs H Q
theorem call_isW {K : PySem.W.Frag} (c : C8.InsC K C) (hK : X.K = K := by rfl) : CallR X (.builtin "isinstance") (rIsW K C) := by
  subst hK
  exact CallR.or (C8.call_isC c) call_isi
/-- C.m(..), a classmethod -/
def ClsmC (P : Program) (w : World) (K : PySem.W.Frag) (mg : Str → Option Value) (base : Heap) (C : Addr) (m : Str) (CX : CXT) (k : Nat) (sp : Sp) : Prop :=
  ∃ (mc : Value) (p g : Addr), ClX.CRead K C mc ∧ ClX.CMet K C mc m p g ∧ FnR P w K mg base CX k g sp
end
/-! ### own errors without an own __init__ -/
/-- .. over ValueError -/
structure Ex0C (K : PySem.W.Frag) (C : Addr) : Prop where
  q : PySem.W.excIn K C (eTail "ValueError") "ValueError.__new__" = true
  kC : PySem.W.keepIn K (.ref C) = true
  b : PySem.W.subIn K (.ref C) (.type "BaseException") = some true
  t : PySem.W.typeIn K (.ref C) = some (.type "type")
/-- C() made to be raised -/
theorem pmk_own0 {X : Cx} {C : Addr} {x : Str} {p pos : Pos} (e : Ex0C X.K C) (gC : X.mg x = some (.ref C)) (hg : Gl X x := by rfl) (hdb : (x == ("__debug__" : Str)) = false := by decide) : L2.PMk X (.Call (.Name x p) [] [] pos) (fun _ H Q => Q (.ref C) none H) := by
  intro pins s σ H Q I h
  refine wpAny_Call_Name_kw (ld_glob I hg gC ?_ hdb)
  refine PySem.W.callWith_K0 I.kIn e.kC ?_
  show wpAny _ _ (call (.ref C) []) _ _ _
  obtain ⟨bm, N, nm, qn, bs, hdct, sn, sub, ab, col, dd, k0, k1, k2, k3, k5, mN, hC, hN, hni, T⟩ := exc_obj I.kIn e.q
  refine wpAny_call_exc_subT PySem.F.excBase_ValueError T hC hN hni (fun h' a hm => ?_) (Nat.zero_le _)
  exact mk_of I hm (raises_own e.b e.t) h (I.hok.gone hm.new)
/-- raise C() -/
def tRaise0 (C : Addr) (W : WX) : TS := fun _ σ H => W (.ref C) none σ H
theorem ps_raise0 {X : Cx} {W : WX} {C : Addr} {x : Str} {p pos pos2 : Pos} (hc : X.calm = true) (e : Ex0C X.K C) (gC : X.mg x = some (.ref C)) (tk : Takes X W) (hg : Gl X x := by rfl) (hdb : (x == ("__debug__" : Str)) = false := by decide) : PS X (.Raise (some (.Call (.Name x p) [] [] pos)) none pos2) (tRaise0 C W) :=
  ps_raise hc tk (pmk_own0 e gC hg hdb)
theorem q_raise0 {W : WX} {C : Addr} {u : TS} {σ : L2.St} {H : Hp} {nx bk ct : L2.St → Hp → Prop} {rt : VK} (h : W (.ref C) none σ H) : tSeq (tRaise0 C W) u (Ends.mk nx rt bk ct) σ H := h
/-! ### while -/
/-! ### errors that go on -/
theorem passE {X : Cx} {E : XK} (tk : Takes X (fun cls d _ H => E cls d H)) : Passes (L2.CX X.prog X.w) X E := fun pins σ H s e s' I c => passAt tk σ pins H s e s' I c
/-- f(..) as a statement -/
theorem q_dropCall {S : SR} {n k : Nat} {t : TA} {u : TS} {σ : L2.St} {G H : Hp} {nx bk ct : L2.St → Hp → Prop} {rt : VK} {sp : Sp} {dvs ws : List V} {E : XK} (s : S n G H) (e : EvA S n k t σ G (IsVs ws))
    (h : ∀ G' H', Stp S (n + k) G H G' H' → sp (ws ++ dvs) H' (fun _ H2 => u (Ends.mk nx rt bk ct) σ H2) E) : tSeq (tDrop (tCall sp dvs E t)) u (Ends.mk nx rt bk ct) σ H :=
  e G H (Same.refl _) s _ fun v G' H' s' e' => by
    obtain rfl := (show _ = _ from e')
    exact h G' H' s'
end L2.DS
/-! Worths: what their defs promise; powers and stars. -/
namespace L2.DS
open PySem PySem.Spec PyProof.Rows
def wtF : List Str := ["scale", "place", "name"]
/-- a worth p of the scale d stands at w -/
def WtAt (K : PySem.W.Frag) (Cs : List Addr) (CW : Addr) (d : SD) (p : Nat) (w : Addr) (G : Hp) : Prop := ∃ dx fs x, G w = some (.ins CW dx fs) ∧ fs.lookup ("scale" : Str) = some (.ref x) ∧ fs.lookup ("place" : Str) = some (.int (p : Nat)) ∧ fs.lookup ("name" : Str) = some (.str (d.names.getD p ("" : Str))) ∧
  ScD K Cs d x G ∧ p < d.names.length ∧ ∀ f, f ∉ wtF → fs.lookup f = none
theorem WtAt.mono {K : PySem.W.Frag} {Cs : List Addr} {CW : Addr} {d : SD} {p : Nat} {w : Addr} {G G' : Hp} (h : WtAt K Cs CW d p w G) (s : Same G G') : WtAt K Cs CW d p w G' := by
  obtain ⟨dx, fs, x, a, b, c, e, f, g⟩ := h
  exact ⟨dx, fs, x, s _ _ a, b, c, e, f.mono s, g⟩
def IsWt (K : PySem.W.Frag) (Cs : List Addr) (CW : Addr) (d : SD) (p : Nat) : HR := fun v G => ∃ w, v = .ref w ∧ WtAt K Cs CW d p w G
instance (K Cs CW d p) : Mon (IsWt K Cs CW d p) := ⟨fun s ⟨w, e, h⟩ => ⟨w, e, h.mono s⟩⟩
/-- what is asked of the class -/
structure WtC (K : PySem.W.Frag) (CW : Addr) : Prop where
  c : Cls K CW
  n : ∀ f ∈ wtF, NoAttr K CW f
section
variable {S : SR} {n k ka kb : Nat} {te ta tb : TE} {t : TA} {σ : L2.St} {G : Hp} {K : PySem.W.Frag} {Cs : List Addr} {CW : Addr} {d : SD} {p : Nat} {w : Addr} {E : XK}
theorem WtAt.at (h : WtAt K Cs CW d p w G) : ∃ dx fs, G w = some (.ins CW dx fs) := by
  obtain ⟨dx, fs, x, a, _⟩ := h
  exact ⟨dx, fs, a⟩
theorem WtAt.lt (h : WtAt K Cs CW d p w G) : p < d.names.length := by
  obtain ⟨dx, fs, x, _, _, _, _, _, a, _⟩ := h
  exact a
theorem ev_wtP (st : Stab S) (c : WtC K CW) (h : WtAt K Cs CW d p w G) (e : Ev S n k te σ G (IsV (.ref w))) : Ev S n k (tFld K te "place") σ G (IsV (.int (p : Nat))) := by
  obtain ⟨dx, fs, x, a, b, c', _⟩ := h
  exact ev_fld st e a c.c (c.n _ (by decide)) c'
theorem ev_wtN (st : Stab S) (c : WtC K CW) (h : WtAt K Cs CW d p w G) (e : Ev S n k te σ G (IsV (.ref w))) : Ev S n k (tFld K te "name") σ G (IsV (.str (d.names.getD p ("" : Str)))) := by
  obtain ⟨dx, fs, x, a, b, _, c', _⟩ := h
  exact ev_fld st e a c.c (c.n _ (by decide)) c'
theorem ev_wtS (st : Stab S) (c : WtC K CW) (h : WtAt K Cs CW d p w G) : ∃ x, ScD K Cs d x G ∧ ∀ {n k : Nat} {te : TE} {σ : L2.St} {G' : Hp}, Same G G' → Ev S n k te σ G' (IsV (.ref w)) → Ev S n k (tFld K te "scale") σ G' (IsV (.ref x)) := by
  obtain ⟨dx, fs, x, a, b, _, _, sd, _⟩ := h
  exact ⟨x, sd, fun s e => ev_fld st e (s _ _ a) c.c (c.n _ (by decide)) b⟩
end
/-! ### promises -/
/-- together: two scales of one label, or the error CM -/
def sp_tog (K : PySem.W.Frag) (Cs : List Addr) (CM : Addr) : Sp := fun vs H Q E => ∃ (x y : Addr) (d e : SD) (G : Hp), vs = [.ref x, .ref y] ∧ Same G H ∧ ScD K Cs d x G ∧ ScD K Cs e y G ∧
  (d.label = e.label → ∀ H', Grow G H G H' → Q .non H') ∧ (d.label ≠ e.label → ∀ H', Grow G H G H' → E (.ref CM) none H')
def PWoI (K : PySem.W.Frag) (Cs : List Addr) (C0 : Addr) : Addr → List (Str × V) → List V → Hp → OR → Prop := fun C fs rest G R => C = C0 ∧ fs = [] ∧ ∃ (x : Addr) (d : SD) (p : Nat), rest = [.ref x, .int (p : Nat)] ∧ ScD K Cs d x G ∧ p < d.names.length ∧
  R = fun _ _ fs' G' => fs'.lookup ("scale" : Str) = some (.ref x) ∧ fs'.lookup ("place" : Str) = some (.int (p : Nat)) ∧ fs'.lookup ("name" : Str) = some (.str (d.names.getD p ("" : Str))) ∧ ScD K Cs d x G' ∧ ∀ f, f ∉ wtF → fs'.lookup f = none
theorem ev_mkWt {S : SR} (st : Stab S) {n k : Nat} {t : TA} {σ : L2.St} {G : Hp} {K : PySem.W.Frag} {Cs : List Addr} {CW x : Addr} {d : SD} {p : Nat} {E : XK} (h : ScD K Cs d x G) (hp : p < d.names.length) (e : EvA S n k t σ G (IsVs [.ref x, .int (p : Nat)])) : Ev S n k (tMake CW (spI (PWoI K Cs CW)) [] E t) σ G (IsWt K Cs CW d p) :=
  (ev_make (R := fun _ _ fs' G' => fs'.lookup ("scale" : Str) = some (.ref x) ∧ fs'.lookup ("place" : Str) = some (.int (p : Nat)) ∧ fs'.lookup ("name" : Str) = some (.str (d.names.getD p ("" : Str))) ∧ ScD K Cs d x G' ∧ ∀ f, f ∉ wtF → fs'.lookup f = none) st e fun vs G' s' e => by
    obtain rfl := (show vs = _ from e)
    exact ⟨rfl, rfl, x, d, p, rfl, h.mono s', hp, rfl⟩).imp fun v G' s' h => by
      obtain ⟨w, dx, fs, G2, rfl, gx, s2, a, b, c, sd, f⟩ := h
      have s3 : Same G2 G' := fun c o e => s2 c o (by rw [upd_ne (ne_of_none e gx)]; exact e)
      exact ⟨w, rfl, dx, fs, x, s2 _ _ upd_same, a, b, c, sd.mono s3, hp, f⟩
/-- a * b and the like: what comes out told by res, or the error CM -/
def sp_wop (K : PySem.W.Frag) (Cs : List Addr) (CW CM : Addr) (res : SD → Nat → Nat → HR) : Sp := fun vs H Q E => ∃ (a b : Addr) (d e : SD) (p q : Nat) (G : Hp), vs = [.ref a, .ref b] ∧ Same G H ∧ WtAt K Cs CW d p a G ∧ WtAt K Cs CW e q b G ∧ SdOk d ∧
  (d.label = e.label → q < d.names.length ∧ ∀ v G' H', Grow G H G' H' → res d p q v G' → Q v H') ∧ (d.label ≠ e.label → ∀ H', Grow G H G H' → E (.ref CM) none H')
def rMulW (K : PySem.W.Frag) (Cs : List Addr) (CW : Addr) : SD → Nat → Nat → HR := fun d p q => IsWt K Cs CW d (d.T p q)
def rOrW (K : PySem.W.Frag) (Cs : List Addr) (CW : Addr) : SD → Nat → Nat → HR := fun d p q => IsWt K Cs CW d (d.J p q)
def rLeW : SD → Nat → Nat → HR := fun d p q => IsV (.bl (decide (d.J p q = q)))
def rLtW : SD → Nat → Nat → HR := fun d p q => IsV (.bl (!decide (p = q) && decide (d.J p q = q)))
/-- == -/
def PEqW (K : PySem.W.Frag) (Cs : List Addr) (CW : Addr) : List V → Hp → HR → Prop := fun vs G R => ∃ (a b : Addr) (d e : SD) (p q : Nat), vs = [.ref a, .ref b] ∧ WtAt K Cs CW d p a G ∧ WtAt K Cs CW e q b G ∧ R = IsV (.bl (decide (d.label = e.label) && decide (p = q)))
/-! ### powers -/
def pw (d : SD) (p : Nat) : Nat → Nat
  | 0 => d.sl.toNat
  | n + 1 => d.T (pw d p n) p
theorem SdOk.sl' {d : SD} (o : SdOk d) : d.sl.toNat < d.names.length := by have := o.sl; omega
theorem SdOk.nv' {d : SD} (o : SdOk d) : d.nv.toNat < d.names.length := by have := o.nv; omega
theorem pw_lt {d : SD} (o : SdOk d) {p : Nat} (hp : p < d.names.length) : ∀ n, pw d p n < d.names.length
  | 0 => o.sl'
  | n + 1 => (o.T (pw_lt o hp n) hp).2
/-- the first L powers are told apart -/
def Dst (d : SD) (p L : Nat) : Prop := ∀ i j, i < j → j < L → pw d p i ≠ pw d p j
/-- .. and the next one is among them, at b -/
structure Orb (d : SD) (p L b : Nat) : Prop where
  ds : Dst d p L
  lt : b < L
  eq : pw d p L = pw d p b
def pwL (d : SD) (p L : Nat) : List Nat := (List.range L).map (pw d p)
theorem pwL_len (d : SD) (p L : Nat) : (pwL d p L).length = L := by unfold pwL; rw [List.length_map, List.length_range]
theorem pwL_mem {d : SD} {p L x : Nat} : x ∈ pwL d p L ↔ ∃ i, i < L ∧ pw d p i = x := by
  unfold pwL
  rw [List.mem_map]
  constructor
  · rintro ⟨i, hi, e⟩
    exact ⟨i, List.mem_range.mp hi, e⟩
  · rintro ⟨i, hi, e⟩
    exact ⟨i, List.mem_range.mpr hi, e⟩
theorem Dst.snoc {d : SD} {p L : Nat} (h : Dst d p L) (n : pw d p L ∉ pwL d p L) : Dst d p (L + 1) := by
  intro i j hij hj e
  by_cases hjl : j = L
  · subst hjl
    exact n (pwL_mem.mpr ⟨i, hij, e⟩)
  · exact h i j hij (by omega) e
/-- boxes and pigeons -/
theorem pig : ∀ (n : Nat) (l : List Nat), l.Nodup → (∀ x ∈ l, x < n) → l.length ≤ n
  | 0, [], _, _ => Nat.le_refl 0
  | 0, a :: _, _, h => absurd (h a List.mem_cons_self) (Nat.not_lt_zero _)
  | n + 1, l, nd, h => by
    have z := pig n (l.erase n) (nd.erase n) fun x hx => by
      have h1 := h x (List.mem_of_mem_erase hx)
      have h2 : x ≠ n := ((List.Nodup.mem_erase_iff nd).mp hx).1
      omega
    by_cases hm : n ∈ l
    · rw [List.length_erase_of_mem hm] at z
      omega
    · rw [List.erase_of_not_mem hm] at z
      omega
theorem Dst.len {d : SD} {p L : Nat} (o : SdOk d) (hp : p < d.names.length) (h : Dst d p L) : L ≤ d.names.length := by
  have z := pig d.names.length (pwL d p L) ?_ fun x hx => by
    obtain ⟨i, _, rfl⟩ := pwL_mem.mp hx
    exact pw_lt o hp i
  · rw [pwL_len] at z
    exact z
  · unfold pwL List.Nodup
    rw [List.pairwise_map]
    refine List.Pairwise.imp_of_mem (fun {x y} hx hy hxy => h x y hxy (List.mem_range.mp hy)) (List.pairwise_lt_range (n := L))
/-! ### stars -/
/-- the join of the powers 0 to n -/
def stj (d : SD) (p : Nat) : Nat → Nat
  | 0 => d.sl.toNat
  | n + 1 => d.J (stj d p n) (pw d p (n + 1))
/-- a.star -/
def IsStar (K : PySem.W.Frag) (Cs : List Addr) (CW : Addr) (d : SD) (p : Nat) : HR := fun v G => ∃ L b, Orb d p L b ∧ IsWt K Cs CW d (stj d p (L - 1)) v G
instance (K Cs CW d p) : Mon (IsStar K Cs CW d p) := ⟨fun s ⟨L, b, o, h⟩ => ⟨L, b, o, Mon.mon s h⟩⟩
theorem dNat (p q : Nat) : decide (((p : Nat) : Int) = (q : Nat)) = decide (p = q) := by
  by_cases h : p = q
  · subst h
    simp
  · have h2 : ¬ ((p : Nat) : Int) = (q : Nat) := by omega
    simp [h, h2]
theorem isW_yes {S : SR} (st : Stab S) {K : PySem.W.Frag} {C a dx : Addr} {fs : List (Str × V)} {G : Hp} (h : G a = some (.ins C dx fs)) : RC S (rIsW K C) [.ref a, .ref C] G (IsV (.bl true)) :=
  rc_val (fun H s Q q => .inl ⟨a, dx, fs, rfl, s _ _ h, q⟩) st
theorem ev_within {S : SR} (st : Stab S) {n : Nat} {t0 ta tb : TE} {σ : L2.St} {G : Hp} {K : PySem.W.Frag} {Cs : List Addr} {d : SD} {x : Addr} {E : XK} {a b : Nat} (h : ScD K Cs d x G) (o : SdOk d) (e0 : Ev S n 0 t0 σ G (IsV (.ref x))) (ea : Ev S n 0 ta σ G (IsV (.int (a : Nat)))) (eb : Ev S n 0 tb σ G (IsV (.int (b : Nat)))) (ha : a < d.names.length) (hb : b < d.names.length) :
    Ev S n 0 (tMethA Cs "within_at" (spP (PAt K fun _ jn a b => .bl (decide (jn a b = (b : Nat))))) [] E t0 (tCons ta (tCons tb tNil))) σ G (IsV (.bl (decide (d.J a b = b)))) :=
  ev_eq (congrArg V.bl (by rw [← (o.J ha hb).1, dNat])) (ev_sAt (pk := fun _ jn a b => .bl (decide (jn a b = (b : Nat)))) st h (by decide) e0 (ea_consV ea (ea_consV eb ea_nilV)) ha hb)
/-! ### lists of places -/
theorem atI_m1 {xs : List V} {L : Nat} {v : V} (h : xs.length = L + 1) (e : xs[L]? = some v) : atI xs (-1) = some v := by
  unfold atI ixN
  rw [if_neg (by decide), if_pos (by omega), h]
  show xs[(-1 + ((L + 1 : Nat) : Int)).toNat]? = _
  rw [show (-1 + ((L + 1 : Nat) : Int)).toNat = L by omega]
  exact e
/-- .. the place as Pp tells -/
theorem ev_mkWtP {S : SR} (st : Stab S) {n k : Nat} {t : TA} {σ : L2.St} {G : Hp} {K : PySem.W.Frag} {Cs : List Addr} {CW x : Addr} {d : SD} {Pp : Int → Prop} {E : XK} (h : ScD K Cs d x G) (hp : ∀ i, Pp i → 0 ≤ i ∧ i < d.names.length) (e : EvA S n k t σ G (RCons (IsV (.ref x)) (RCons (IsI Pp) RNil))) : Ev S n k (tMake CW (spI (PWoI K Cs CW)) [] E t) σ G (fun v G' => ∃ p : Nat, Pp (p : Nat) ∧ IsWt K Cs CW d p v G') :=
  (ev_makeW (R := fun _ _ fs' G' => ∃ p : Nat, Pp (p : Nat) ∧ p < d.names.length ∧ fs'.lookup ("scale" : Str) = some (.ref x) ∧ fs'.lookup ("place" : Str) = some (.int (p : Nat)) ∧ fs'.lookup ("name" : Str) = some (.str (d.names.getD p ("" : Str))) ∧ ScD K Cs d x G' ∧ ∀ f, f ∉ wtF → fs'.lookup f = none) st e fun vs G' s' e => by
    obtain ⟨_, _, rfl, e1, _, _, rfl, ⟨i, hi, rfl⟩, e2⟩ := e
    obtain rfl := (show _ = _ from e1)
    obtain rfl := (show _ = [] from e2)
    obtain ⟨p, rfl⟩ : ∃ p : Nat, i = (p : Nat) := ⟨i.toNat, by have := hp i hi; omega⟩
    have b := hp _ hi
    exact ⟨_, ⟨rfl, rfl, x, d, p, rfl, h.mono s', by omega, rfl⟩, fun a b' fs G h => ⟨p, hi, by omega, h⟩⟩).imp fun v G' s' h => by
      obtain ⟨w, dx, fs, G2, rfl, gx, s2, p, hi, hp', a, b, c, sd, f⟩ := h
      have s3 : Same G2 G' := fun c o e => s2 c o (by rw [upd_ne (ne_of_none e gx)]; exact e)
      exact ⟨p, hi, w, rfl, dx, fs, x, s2 _ _ upd_same, a, b, c, sd.mono s3, hp', f⟩
/-! ### operators by values -/
end L2.DS
/-! The laws' own tables of places, and the table scale made of them. -/
namespace L2.DS
open PySem PySem.Spec PyProof.Rows
/-- the scale that a table of places makes -/
def tabSD (names : List Str) (nv sl : Nat) (th jn : Nat → Nat → Int) : SD := ⟨tbLab names (names.getD nv ("" : Str)) (names.getD sl ("" : Str)) (rowsS names jn) (rowsS names th), names, (nv : Nat), (sl : Nat), 1, th, jn⟩
/-- what is known of such tables -/
structure TbIs (names : List Str) (nv sl : Nat) (th jn : Nat → Nat → Int) : Prop where
  l1 : 1 ≤ names.length
  l2 : names.length ≤ 16
  nd : names.Nodup
  ok : ∀ nm ∈ names, okNm nm = true
  so : ∀ nm ∈ names, PyData.strOk nm = true
  nv : nv < names.length
  sl : sl < names.length
  th : ∀ a b, a < names.length → b < names.length → 0 ≤ th a b ∧ th a b < names.length
  jn : ∀ a b, a < names.length → b < names.length → 0 ≤ jn a b ∧ jn a b < names.length
section
variable {names : List Str} {nv sl : Nat} {th jn : Nat → Nat → Int}
theorem TbIs.tb (h : TbIs names nv sl th jn) : TbOk names (rowsS names jn) (rowsS names th) (names.getD nv ("" : Str)) (names.getD sl ("" : Str)) := by
  have rj := rowsS_ok h.jn
  have rt := rowsS_ok h.th
  exact ⟨h.l1, h.l2, h.nd, h.ok, (idx_getD h.nd h.nv).1, (idx_getD h.nd h.sl).1, rj.1, rj.2, rt.1, rt.2⟩
theorem TbIs.sd (h : TbIs names nv sl th jn) : SdOk (tabSD names nv sl th jn) ∧ (tabSD names nv sl th jn).label.length ≤ 20000 := by
  have z := tbl_sd h.tb h.sl h.th
  have l2 := h.l2
  refine ⟨⟨h.nd, h.l1, by show names.length ≤ 64; omega, fun nm m => by have := okNm_len (h.ok nm m); omega, Nat.le_trans z.2 (by decide), ?_, ?_, h.th, h.jn⟩, z.2⟩
  · have := h.nv
    show (0 : Int) ≤ (nv : Nat) ∧ ((nv : Nat) : Int) < ((names.length : Nat) : Int)
    omega
  · have := h.sl
    show (0 : Int) ≤ (sl : Nat) ∧ ((sl : Nat) : Int) < ((names.length : Nat) : Int)
    omega
theorem ScIs.congr {label : Str} {nv sl dep : Int} {th jn th' jn' : Nat → Nat → Int} {fs : List (Str × V)} {G : Hp} (h : ScIs label names nv sl dep th jn fs G) (e1 : ∀ a b, a < names.length → b < names.length → th a b = th' a b) (e2 : ∀ a b, a < names.length → b < names.length → jn a b = jn' a b) : ScIs label names nv sl dep th' jn' fs G := by
  have tab : ∀ {p : Addr} {f g : Nat → Nat → Int}, (∀ a b, a < names.length → b < names.length → f a b = g a b) → Tab G p names.length f → Tab G p names.length g := by
    intro p f g e ⟨q, ys, e0, gp, l, r⟩
    refine ⟨q, ys, e0, gp, l, fun i y hi => ?_⟩
    obtain ⟨q2, zs, e3, g2, l2, r2⟩ := r i y hi
    refine ⟨q2, zs, e3, g2, l2, fun j z hj => ?_⟩
    have hi' : i < names.length := by have := (List.getElem?_eq_some_iff.mp hi).1; omega
    have hj' : j < names.length := by have := (List.getElem?_eq_some_iff.mp hj).1; omega
    have := r2 j z hj
    rw [show z = _ from this, e i j hi' hj']
    rfl
  obtain ⟨a, b, c, d, e, f, g, ⟨p, hp, hpt⟩, ⟨q, hq, hqt⟩⟩ := h
  exact ⟨a, b, c, d, e, f, g, ⟨p, hp, tab e1 hpt⟩, ⟨q, hq, tab e2 hqt⟩⟩
theorem ScD.congr {K : PySem.W.Frag} {Cs : List Addr} {d d' : SD} {x : Addr} {G : Hp} (h : ScD K Cs d x G) (e1 : d.label = d'.label) (e2 : d.names = d'.names) (e3 : d.nv = d'.nv) (e4 : d.sl = d'.sl) (e5 : d.dep = d'.dep) (e6 : ∀ a b, a < d.names.length → b < d.names.length → d.th a b = d'.th a b) (e7 : ∀ a b, a < d.names.length → b < d.names.length → d.jn a b = d'.jn a b) : ScD K Cs d' x G := by
  obtain ⟨C, hC, oC, dx, fs, gx, hs, hm⟩ := h
  refine ⟨C, hC, oC, dx, fs, gx, ?_, hm⟩
  rw [← e1, ← e2, ← e3, ← e4, ← e5]
  exact hs.congr e6 e7
theorem TbIs.scd {K : PySem.W.Frag} {Cs : List Addr} {x : Addr} {G : Hp} (h : TbIs names nv sl th jn) (s : ScD K Cs ⟨tbLab names (names.getD nv ("" : Str)) (names.getD sl ("" : Str)) (rowsS names jn) (rowsS names th), names, (names.idxOf (names.getD nv ("" : Str)) : Nat), (names.idxOf (names.getD sl ("" : Str)) : Nat), 1, idxT names (rowsS names th), idxT names (rowsS names jn)⟩ x G) : ScD K Cs (tabSD names nv sl th jn) x G :=
  s.congr rfl rfl (by show ((names.idxOf (names.getD nv ("" : Str)) : Nat) : Int) = (nv : Nat); rw [(idx_getD h.nd h.nv).2]) (by show ((names.idxOf (names.getD sl ("" : Str)) : Nat) : Int) = (sl : Nat); rw [(idx_getD h.nd h.sl).2]) rfl (fun a b ha hb => idxT_rows h.nd h.th ha hb) fun a b ha hb => idxT_rows h.nd h.jn ha hb
end
/-- the laws' rows of a table scale: names, joins, products, never, still, the scale -/
def TbAt (K : PySem.W.Frag) (Cs : List Addr) (names : List Str) (nv sl : Nat) (th jn : Nat → Nat → Int) (p : Addr) (G : Hp) : Prop := ∃ pn pj pp x, G p = some (.lst [.ref pn, .ref pj, .ref pp, .int (nv : Nat), .int (sl : Nat), .ref x]) ∧ G pn = some (.lst (names.map V.str)) ∧ TabN G pj names.length jn ∧ TabN G pp names.length th ∧ ScD K Cs (tabSD names nv sl th jn) x G
theorem TbAt.mono {K : PySem.W.Frag} {Cs : List Addr} {names : List Str} {nv sl : Nat} {th jn : Nat → Nat → Int} {p : Addr} {G G' : Hp} (h : TbAt K Cs names nv sl th jn p G) (s : Same G G') : TbAt K Cs names nv sl th jn p G' := by
  obtain ⟨pn, pj, pp, x, a, b, c, d, e⟩ := h
  exact ⟨pn, pj, pp, x, s _ _ a, s _ _ b, c.mono s, d.mono s, e.mono s⟩
def IsTb (K : PySem.W.Frag) (Cs : List Addr) (P : SD → Prop) : HR := fun v G => ∃ (p : Addr) (names : List Str) (nv sl : Nat) (th jn : Nat → Nat → Int), v = .ref p ∧ TbAt K Cs names nv sl th jn p G ∧ TbIs names nv sl th jn ∧ P (tabSD names nv sl th jn)
instance (K Cs P) : Mon (IsTb K Cs P) := ⟨fun s ⟨p, names, nv, sl, th, jn, e, a, b, c⟩ => ⟨p, names, nv, sl, th, jn, e, a.mono s, b, c⟩⟩
section
variable {S : SR} {n m ka kb : Nat} {te tn tj tp t1 t2 el : TE} {t : TA} {σ : L2.St} {G : Hp} {K : PySem.W.Frag} {Cs : List Addr} {CT : Addr} {E : XK} {names : List Str} {i r c ja jb : Nat} {p pn pt : Addr} {ff : Nat → Nat → Int} {nv sl : Nat} {th jn : Nat → Nat → Int}
/-- [[names[k] for k in row] for row in table] -/
theorem ev_names (st : Stab S) (e : Ev S n 0 te σ G (IsV (.ref pt))) (ht : TabN G pt names.length ff) (hb : ∀ a b, a < names.length → b < names.length → 0 ≤ ff a b ∧ ff a b < names.length) (hn : names.length ≤ 1000) (gn : G pn = some (.lst (names.map V.str)))
    (hw : ∀ y : Option V, wipe ((wipe σ [r]).set r y) [r] = wipe σ [r]) (h4 : ∀ y : Option V, ((wipe σ [r]).set r y)[r]? = some y)
    (h1 : ∀ y z : Option V, ((wipe ((wipe σ [r]).set r y) [c]).set c z)[i]? = some (some (.ref pn)) ∧ ((wipe ((wipe σ [r]).set r y) [c]).set c z)[c]? = some z ∧ wipe ((wipe ((wipe σ [r]).set r y) [c]).set c z) [c] = wipe ((wipe σ [r]).set r y) [c]) :
    Ev S n 0 (tLc (iList K te) (gName r) tYes (tLc (iList K (tVar r)) (gName c) tYes (tOp (rIxA K) (tVar i) (tVar c)) [c]) [r]) σ G (IsNX G (RL IsSR (rowsS names ff))) := by
  obtain ⟨vs, hp, lv, hat⟩ := ht.at
  have lr : (rowsS names ff).length = names.length := by unfold rowsS; rw [List.length_map, List.length_range]
  refine ev_lcG (R := IsSR) (ss := rowsS names ff) (σf := fun j => (wipe σ [r]).set r (vs[j]?)) st e (SqL.of hp) (by rw [lv, lr]) (by omega) (fun j y G'' J hy s'' t'' Qs q' => ?_) (fun _ => hw _) (fun a y rr G'' hy hr s'' => ?_)
  · rw [hy] at q'
    exact q'
  · rw [hy]
    have ha : a < names.length := by
      have := (List.getElem?_eq_some_iff.mp hy).1
      omega
    obtain ⟨qr, hq1, hq2⟩ := hat a ha
    rw [hq1] at hy
    obtain rfl := Option.some.inj hy
    unfold rowsS at hr
    rw [List.getElem?_map, List.getElem?_range ha] at hr
    obtain rfl := Option.some.inj hr
    refine (ev_lcVL (f := fun v => match v with | .int i => .str (names.getD i.toNat ("" : Str)) | _ => .non) st (ev_var (h4 _)) (SqL.of (s'' _ _ hq2)) (by rw [List.length_map, List.length_range]; omega) (fun z => (h1 _ _).2.2) fun b z G3 hz s3 => ?_).imp fun v G3 s3 ⟨p2, e, _, g⟩ => ⟨p2, e, by rw [g, List.map_map, List.map_map]; rfl⟩
    obtain ⟨hbl, rfl⟩ := map_get hz
    rw [List.length_range] at hbl
    rw [List.getElem_range]
    have bd := hb a b (by omega) (by omega)
    refine ev_opV (ev_var (h1 _ _).1) (ev_var (h1 _ _).2.1) (v_ixL st (SqL.of (s3 _ _ (s'' _ _ gn))) ?_)
    obtain ⟨i, hi⟩ : ∃ i : Nat, ff a b = (i : Nat) := ⟨(ff a b).toNat, by omega⟩
    rw [hi]
    show _ = some (V.str (names.getD ((i : Nat) : Int).toNat ("" : Str)))
    rw [Int.toNat_natCast]
    have hi2 : i < names.length := by omega
    exact atI_nat (by rw [List.getElem?_map, List.getD_eq_getElem?_getD, List.getElem?_eq_getElem hi2]; rfl)
/-- TableScale(names, joins, products, never = .., still = ..) -/
theorem ev_mkTab (st : Stab S) (iT : CT ∈ Cs) (oT : ClsOk K CT) (T : TbIs names nv sl th jn) (en : Ev S n 0 tn σ G (IsNew G (.lst (names.map V.str)))) (ej : Ev S n 0 tj σ G (fun v G' => ∃ p, v = .ref p ∧ TabS G' p (rowsS names jn))) (ep : Ev S n 0 tp σ G (fun v G' => ∃ p, v = .ref p ∧ TabS G' p (rowsS names th)))
    (e1 : Ev S n 0 t1 σ G (IsV (.str (names.getD nv ("" : Str))))) (e2 : Ev S n 0 t2 σ G (IsV (.str (names.getD sl ("" : Str))))) :
    Ev S n 0 (tMakeK CT 3 2 (spI (PTbI CT)) (fun vs zs => vs ++ zs) E (tCons tn (tCons tj (tCons tp tNil))) (tCons t1 (tCons t2 tNil))) σ G (fun v G' => ∃ x, v = .ref x ∧ ScD K Cs (tabSD names nv sl th jn) x G') := by
  have mj : Mon (fun v G' => ∃ p, v = V.ref p ∧ TabS G' p (rowsS names jn)) := ⟨fun s ⟨p, e, h⟩ => ⟨p, e, h.mono s⟩⟩
  have mp : Mon (fun v G' => ∃ p, v = V.ref p ∧ TabS G' p (rowsS names th)) := ⟨fun s ⟨p, e, h⟩ => ⟨p, e, h.mono s⟩⟩
  have ms : Mons (RCons (IsNew G (.lst (names.map V.str))) (RCons (fun v G' => ∃ p, v = V.ref p ∧ TabS G' p (rowsS names jn)) (RCons (fun v G' => ∃ p, v = V.ref p ∧ TabS G' p (rowsS names th)) RNil))) := inferInstance
  refine (ev_makeKR (ka := 0) (kb := 0) (R := fun _ _ fs' G' => ScIs (tbLab names (names.getD nv ("" : Str)) (names.getD sl ("" : Str)) (rowsS names jn) (rowsS names th)) names (names.idxOf (names.getD nv ("" : Str)) : Nat) (names.idxOf (names.getD sl ("" : Str)) : Nat) 1 (idxT names (rowsS names th)) (idxT names (rowsS names jn)) fs' G' ∧ (∀ f, f ∉ scF → f ∉ tbF → fs'.lookup f = none)) (RA := RCons (IsNew G (.lst (names.map V.str))) (RCons (fun v G' => ∃ p, v = V.ref p ∧ TabS G' p (rowsS names jn)) (RCons (fun v G' => ∃ p, v = V.ref p ∧ TabS G' p (rowsS names th)) RNil))) (zs := [.str (names.getD nv ("" : Str)), .str (names.getD sl ("" : Str))]) st (ea_cons en (ea_cons ej (ea_cons ep ea_nil))) (ea_consV e1 (ea_consV e2 ea_nilV)) (fun vs G' h => ?_) rfl fun vs G' s' h => ?_).imp fun v G' s' h => ?_
  · obtain ⟨_, _, rfl, _, _, _, rfl, _, _, _, rfl, _, e⟩ := h
    obtain rfl := (show _ = [] from e)
    rfl
  · obtain ⟨_, _, rfl, ⟨a, rfl, _, ga⟩, _, _, rfl, ⟨b, rfl, tb⟩, _, _, rfl, ⟨c, rfl, tc⟩, e⟩ := h
    obtain rfl := (show _ = [] from e)
    exact ⟨_, fun x => rfl, rfl, rfl, a, b, c, names, rowsS names jn, rowsS names th, _, _, rfl, ga, tb, tc, T.tb, rfl⟩
  · obtain ⟨x, e, hx⟩ := ScC.of h fun a b fs' G2 h => ⟨h.1, fun f hf => h.2 f (by revert f; decide +kernel) (by revert f; decide +kernel)⟩
    exact ⟨x, e, T.scd ⟨CT, iT, oT, hx⟩⟩
/-- [[el for b in l] for a in l], l a list of whole numbers -/
theorem ev_gridU {u : Nat → Int} {n : Nat} {f : Nat → Nat → Int} {σa : Nat → L2.St} {σb : Nat → Nat → L2.St} (st : Stab S) (hσ : σ[i]? = some (some (.ref p))) (hp : G p = some (.lst ((List.range n).map fun k => V.int (u k)))) (hn : n ≤ 1000)
    (ea : ∀ a : Nat, (wipe σ [ja]).set ja (some (.int (u a))) = σa a) (wa : ∀ a, wipe (σa a) [ja] = wipe σ [ja]) (ia : ∀ a, (σa a)[i]? = some (some (.ref p))) (eb : ∀ a b : Nat, (wipe (σa a) [jb]).set jb (some (.int (u b))) = σb a b) (wb : ∀ a b, wipe (σb a b) [jb] = wipe (σa a) [jb])
    (hs : ∀ (a b : Nat) G', a < n → b < n → Same G G' → Ev S (m + 0 + 0) 0 el (σb a b) G' (IsV (.int (f a b)))) : Ev S m 0 (tLc (iList K (tVar i)) (gName ja) tYes (tLc (iList K (tVar i)) (gName jb) tYes el [jb]) [ja]) σ G (IsNX G (RL (fun a => IsIRow n (f a)) (List.range n))) := by
  have lp : ((List.range n).map fun k => V.int (u k)).length = n := by rw [List.length_map, List.length_range]
  refine ev_lcG (R := fun a => IsIRow n (f a)) (ss := List.range n) (σf := σa) st (ev_var hσ) (SqL.of hp) (by rw [lp, List.length_range]) (by omega) (fun j y G' J hy s' t' Qs q => ?_) wa (fun j y a G' hy ha s' => ?_)
  · obtain ⟨hj, rfl⟩ := map_get hy
    rw [List.getElem_range] at *
    show Qs ((wipe σ [ja]).set ja (some (.int (u j)))) J
    rw [ea]
    exact q
  · have hj : j < n := by
      have := (List.getElem?_eq_some_iff.mp ha).1
      rw [List.length_range] at this
      exact this
    rw [List.getElem?_range hj] at ha
    obtain rfl := Option.some.inj ha
    refine (ev_lcG (R := fun b : Nat => IsV (.int (f j b))) (ss := List.range n) (σf := σb j) st (ev_var (ia j)) (SqL.of (s' _ _ hp)) (by rw [lp, List.length_range]) (by omega) (fun b z G'' J hz s'' t'' Qs q => ?_) (wb j) (fun b z c G'' hz hc s'' => ?_)).imp fun v G'' s'' h => ?_
    · obtain ⟨hb, rfl⟩ := map_get hz
      rw [List.getElem_range] at *
      show Qs ((wipe (σa j) [jb]).set jb (some (.int (u b)))) J
      rw [eb]
      exact q
    · have hb : b < n := by
        have := (List.getElem?_eq_some_iff.mp hc).1
        rw [List.length_range] at this
        exact this
      rw [List.getElem?_range hb] at hc
      obtain rfl := Option.some.inj hc
      exact hs j b G'' hj hb (s'.trans s'')
    · obtain ⟨q, ys, e, _, g, rl⟩ := h
      rw [rl_vals rl] at g
      exact ⟨q, e, g⟩
end
/-! ### the five sorts of regular tables -/
def ljn (sort : Nat) (a b : Int) : Int :=
  if sort < 4 ∧ (a = 0 ∨ b = 0) then a + b else if sort = 0 then (if b > a then b else a) else if sort = 1 then (if b < a then b else a) else if sort = 3 then Builtin.bitAnd (a - 1) (b - 1) + 1 else if sort = 4 then Builtin.bitOr a b else Builtin.bitOr (a - 1) (b - 1) + 1
def lthK (a b : Int) (k : Nat) : Int :=
  Builtin.bitOr (Builtin.bitAnd (Builtin.bitAnd (a / 2 ^ (3 - (((k : Nat) : Int) / 2) * 2).toNat) (b / 2 ^ (3 - ((k : Nat) : Int) % 2).toNat)) 1) (Builtin.bitAnd (Builtin.bitAnd (a / 2 ^ (2 - (((k : Nat) : Int) / 2) * 2).toNat) (b / 2 ^ (1 - ((k : Nat) : Int) % 2).toNat)) 1)
def lthW (a b : Int) (j : Nat) : Int := (List.range j).foldl (fun f k => f * 2 + lthK a b k) 0
def lth (sort : Nat) (most : Int) (a b : Int) : Int :=
  if sort = 4 then lthW a b 4 else if a = 0 ∨ b = 0 then 0 else if sort < 2 then (if most < a + b - 2 then most else a + b - 2) + 1 else Builtin.bitOr (a - 1) (b - 1) + 1
def bsSD (sort most : Nat) : SD := if sort = 0 then cntSD most true else if sort = 1 then cntSD most false else if sort = 2 then stSD 2 true else if sort = 3 then stSD 2 false else wtSD 2
def bsN (sort most : Nat) : Nat := if sort < 2 then most + 2 else if sort < 4 then 5 else 16
def bsM (sort : Nat) : Nat := if sort = 4 then 9 else 1
theorem bs_is : ∀ sort, sort < 5 → ∀ most, most < 4 → ∀ a, a < bsN sort most → ∀ b, b < bsN sort most → ljn sort (a : Nat) (b : Nat) = (bsSD sort most).jn a b ∧ lth sort (most : Nat) (a : Nat) (b : Nat) = (bsSD sort most).th a b := by decide +kernel
theorem bs_reg : ∀ {sort most : Nat}, sort < 5 → most < 4 → Reg (bsSD sort most) ∧ SdOk (bsSD sort most) ∧ (bsSD sort most).names.length = bsN sort most ∧ (bsSD sort most).nv.toNat = 0 ∧ (bsSD sort most).sl.toNat = bsM sort := by
  intro sort most h1 h2
  have hk : ∀ sort, sort < 5 → ∀ most, most < 4 → (bsSD sort most).names.length = bsN sort most ∧ (bsSD sort most).nv.toNat = 0 ∧ (bsSD sort most).sl.toNat = bsM sort := by decide +kernel
  refine ⟨?_, ?_, hk sort h1 most h2⟩
  · match sort, h1 with
    | 0, _ => exact count_reg most true
    | 1, _ => exact count_reg most false
    | 2, _ => exact set_reg 2 true
    | 3, _ => exact set_reg 2 false
    | 4, _ => exact watch_reg (.inr rfl)
  · match sort, h1 with
    | 0, _ => exact cnt_ok (by omega) true
    | 1, _ => exact cnt_ok (by omega) false
    | 2, _ => exact st_ok (by decide) (by decide) true
    | 3, _ => exact st_ok (by decide) (by decide) false
    | 4, _ => exact wt_ok (.inr rfl)
/-- numbered up or down -/
def trn (t : Int) (k : Nat) : Int := if t - (k : Nat) < 0 then -(t - (k : Nat)) else t - (k : Nat)
def tuJ (sort : Nat) (t : Int) (a b : Nat) : Int := let z := t - ljn sort (trn t a) (trn t b); if z < 0 then -z else z
def tuT (sort : Nat) (most t : Int) (a b : Nat) : Int := let z := t - lth sort most (trn t a) (trn t b); if z < 0 then -z else z
def tuN (n : Nat) (t : Int) : List Str := (List.range n).map fun k => ("w" : Str) ++ (toString (trn t k) : Str)
theorem tuN_ok : ∀ n, n < 17 → ∀ tt, tt < 2 → (tuN n ((tt : Nat) * ((n : Nat) - 1))).Nodup ∧ ∀ nm ∈ tuN n ((tt : Nat) * ((n : Nat) - 1)), okNm nm = true ∧ PyData.strOk nm = true := by decide +kernel
theorem tuN_len (n : Nat) (t : Int) : (tuN n t).length = n := by unfold tuN; rw [List.length_map, List.length_range]
theorem trn_nat {n tt k : Nat} (ht : tt < 2) (hk : k < n) : trn ((tt : Nat) * (((n : Nat) : Int) - 1)) k = ((if tt = 0 then k else n - 1 - k : Nat) : Int) := by
  unfold trn
  have : tt = 0 ∨ tt = 1 := by omega
  rcases this with rfl | rfl
  · rw [if_pos rfl, show (((0 : Nat) : Int) * (((n : Nat) : Int) - 1)) = 0 by omega]
    split <;> omega
  · rw [if_neg (by decide : ¬ (1 : Nat) = 0), show (((1 : Nat) : Int) * (((n : Nat) : Int) - 1)) = ((n : Nat) : Int) - 1 by omega]
    split <;> omega
theorem tbl_reg {sort most tt : Nat} (h1 : sort < 5) (h2 : most < 4) (ht : tt < 2) :
    TbIs (tuN (bsN sort most) ((tt : Nat) * ((bsN sort most : Nat) - 1))) (tt * (bsN sort most - 1)) (trn ((tt : Nat) * ((bsN sort most : Nat) - 1)) (bsM sort)).toNat (tuT sort (most : Nat) ((tt : Nat) * ((bsN sort most : Nat) - 1))) (tuJ sort ((tt : Nat) * ((bsN sort most : Nat) - 1))) ∧
    Reg (tabSD (tuN (bsN sort most) ((tt : Nat) * ((bsN sort most : Nat) - 1))) (tt * (bsN sort most - 1)) (trn ((tt : Nat) * ((bsN sort most : Nat) - 1)) (bsM sort)).toNat (tuT sort (most : Nat) ((tt : Nat) * ((bsN sort most : Nat) - 1))) (tuJ sort ((tt : Nat) * ((bsN sort most : Nat) - 1)))) := by
  obtain ⟨r, o, ln, z0, u0⟩ := bs_reg h1 h2
  obtain ⟨n, hn⟩ : ∃ n, n = bsN sort most := ⟨_, rfl⟩
  have n2 : 2 ≤ n ∧ n ≤ 16 ∧ bsM sort < n := by
    rw [hn]
    unfold bsN bsM
    split <;> split <;> (try split) <;> omega
  rw [← hn] at ln ⊢
  have rr : RegF n (bsSD sort most).T (bsSD sort most).J 0 (bsM sort) := by
    have := r
    unfold Reg at this
    rw [ln, z0, u0] at this
    exact this
  let f : Nat → Nat := fun k => if tt = 0 then k else n - 1 - k
  have fl : ∀ {k}, k < n → f k < n := fun {k} hk => by
    show (if tt = 0 then k else n - 1 - k) < n
    split <;> omega
  have ff : ∀ {k}, k < n → f (f k) = k := fun {k} hk => by
    show (if tt = 0 then (if tt = 0 then k else n - 1 - k) else n - 1 - (if tt = 0 then k else n - 1 - k)) = k
    split <;> omega
  have ft : ∀ {k}, k < n → trn ((tt : Nat) * (((n : Nat) : Int) - 1)) k = ((f k : Nat) : Int) := fun hk => trn_nat ht hk
  have ab : ∀ {k : Nat}, k < n → (let z := ((tt : Nat) : Int) * (((n : Nat) : Int) - 1) - ((k : Nat) : Int); if z < 0 then -z else z) = ((f k : Nat) : Int) := fun hk => ft hk
  have ej : ∀ {a b}, a < n → b < n → tuJ sort ((tt : Nat) * (((n : Nat) : Int) - 1)) a b = ((f ((bsSD sort most).J (f a) (f b)) : Nat) : Int) := fun {a b} ha hb => by
    unfold tuJ
    rw [ft ha, ft hb, (bs_is sort h1 most h2 _ (hn ▸ fl ha) _ (hn ▸ fl hb)).1, ← (o.J (by rw [ln]; exact fl ha) (by rw [ln]; exact fl hb)).1]
    exact ab (rr.jb (fl ha) (fl hb))
  have et : ∀ {a b}, a < n → b < n → tuT sort (most : Nat) ((tt : Nat) * (((n : Nat) : Int) - 1)) a b = ((f ((bsSD sort most).T (f a) (f b)) : Nat) : Int) := fun {a b} ha hb => by
    unfold tuT
    rw [ft ha, ft hb, (bs_is sort h1 most h2 _ (hn ▸ fl ha) _ (hn ▸ fl hb)).2, ← (o.T (by rw [ln]; exact fl ha) (by rw [ln]; exact fl hb)).1]
    exact ab (rr.tb (fl ha) (fl hb))
  have e0 : tt * (n - 1) = f 0 := by
    show _ = if tt = 0 then 0 else n - 1 - 0
    have : tt = 0 ∨ tt = 1 := by omega
    rcases this with rfl | rfl
    · simp
    · simp
  have eu : (trn ((tt : Nat) * (((n : Nat) : Int) - 1)) (bsM sort)).toNat = f (bsM sort) := by
    rw [ft n2.2.2]
    rfl
  have nm := tuN_ok n (by omega) tt ht
  refine ⟨⟨by rw [tuN_len]; omega, by rw [tuN_len]; omega, nm.1, fun x h => (nm.2 x h).1, fun x h => (nm.2 x h).2, by rw [tuN_len, e0]; exact fl (by omega), by rw [tuN_len, eu]; exact fl n2.2.2, fun a b ha hb => ?_, fun a b ha hb => ?_⟩, ?_⟩
  · rw [tuN_len] at ha hb ⊢
    rw [et ha hb]
    have := fl (rr.tb (fl ha) (fl hb))
    omega
  · rw [tuN_len] at ha hb ⊢
    rw [ej ha hb]
    have := fl (rr.jb (fl ha) (fl hb))
    omega
  · show RegF (tuN n _).length (fun a b => (tuT sort (most : Nat) ((tt : Nat) * (((n : Nat) : Int) - 1)) a b).toNat) (fun a b => (tuJ sort ((tt : Nat) * (((n : Nat) : Int) - 1)) a b).toNat) (((tt * (n - 1) : Nat) : Int)).toNat ((((trn ((tt : Nat) * (((n : Nat) : Int) - 1)) (bsM sort)).toNat : Nat) : Int)).toNat
    rw [tuN_len, Int.toNat_natCast, Int.toNat_natCast, e0, eu]
    have inj : ∀ {a b}, a < n → b < n → f a = f b → a = b := fun {a b} ha hb e => by
      have := congrArg f e
      rw [ff ha, ff hb] at this
      exact this
    refine RegF.rep (X := Nat) f (bsSD sort most).T (bsSD sort most).J inj (fl (by omega)) (fl n2.2.2) (fun {a b} ha hb => ?_) (fun {a b} ha hb => ?_) (fun {a b} ha hb => ?_) (fun {a b} ha hb => ?_) (fun {a} ha => rr.jj (fl ha)) (fun {a b} ha hb => rr.jc (fl ha) (fl hb)) (fun {a b c} ha hb hc => rr.ja (fl ha) (fl hb) (fl hc)) (fun {a} ha => ?_) (fun {a b c} ha hb hc => rr.ta (fl ha) (fl hb) (fl hc)) (fun {a} ha => ?_) (fun {a} ha => ?_) (fun {a b c} ha hb hc => rr.dl (fl ha) (fl hb) (fl hc)) (fun {a b c} ha hb hc => rr.dr (fl ha) (fl hb) (fl hc))
    · show (tuT _ _ _ _ _).toNat < n
      rw [et ha hb]
      exact fl (rr.tb (fl ha) (fl hb))
    · show (tuJ _ _ _ _).toNat < n
      rw [ej ha hb]
      exact fl (rr.jb (fl ha) (fl hb))
    · show f (tuT _ _ _ _ _).toNat = _
      rw [et ha hb]
      exact ff (rr.tb (fl ha) (fl hb))
    · show f (tuJ _ _ _ _).toNat = _
      rw [ej ha hb]
      exact ff (rr.jb (fl ha) (fl hb))
    · rw [ff (show 0 < n by omega)]
      exact rr.jz (fl ha)
    · rw [ff n2.2.2]
      exact rr.tu (fl ha)
    · rw [ff (show 0 < n by omega)]
      exact rr.tz (fl ha)
/-! ### a list that was newly made is changed -/
section
variable {S : SR} {n : Nat} {te ta tb : TE} {σ : L2.St} {G : Hp} {K : PySem.W.Frag} {pt : Addr} {m a b : Nat} {f : Nat → Nat → Int}
/-- table[a][b] -/
theorem ev_ent2 (st : Stab S) (ht : TabN G pt m f) (e : Ev S n 0 te σ G (IsV (.ref pt))) (ea : Ev S n 0 ta σ G (IsV (.int (a : Nat)))) (eb : Ev S n 0 tb σ G (IsV (.int (b : Nat)))) (ha : a < m) (hb : b < m) : Ev S n 0 (tOp (rIxA K) (tOp (rIxA K) te ta) tb) σ G (IsV (.int (f a b))) := by
  obtain ⟨vs, gp, lv, hat⟩ := ht.at
  obtain ⟨q, hq, gq⟩ := hat a ha
  exact ev_opV (ev_opV e ea (v_ixL st (SqL.of gp) (atI_nat hq))) eb (v_ixL st (SqL.of gq) (rowAt hb))
/-- l[k] -/
theorem ev_at (st : Stab S) {p : Addr} {xs : List V} {z : V} {k : Nat} (g : G p = some (.lst xs)) (e : Ev S n 0 te σ G (IsV (.ref p))) (hz : xs[k]? = some z) : Ev S n 0 (tOp (rIxA K) te (tC (.int (k : Nat)))) σ G (IsV z) := ev_opV e ev_c (v_ixL st (SqL.of g) (atI_nat hz))
end
/-- a table with one entry changed -/
def chg2 (f : Nat → Nat → Int) (r c : Nat) (v : Int) (a b : Nat) : Int := if a = r ∧ b = c then v else f a b
theorem chg2_row {f : Nat → Nat → Int} {n r c : Nat} {v : Int} : ((List.range n).map fun b => V.int (f r b)).set c (.int v) = (List.range n).map fun b => V.int (chg2 f r c v r b) := by
  refine List.ext_getElem? fun j => ?_
  rw [List.getElem?_set, List.getElem?_map, List.length_map, List.length_range]
  unfold chg2
  by_cases hc : c = j
  · subst hc
    by_cases hl : c < n
    · rw [if_pos rfl, if_pos hl, List.getElem?_map, List.getElem?_range hl]
      simp
    · rw [if_pos rfl, if_neg hl, List.getElem?_map, List.getElem?_eq_none (by rw [List.length_range]; omega)]
      rfl
  · rw [if_neg hc, List.getElem?_map]
    by_cases hl : j < n
    · rw [List.getElem?_range hl]
      have : ¬ j = c := fun z => hc z.symm
      simp [this]
    · rw [List.getElem?_eq_none (by rw [List.length_range]; omega)]
      rfl
theorem chg2_off {f : Nat → Nat → Int} {r c a : Nat} {v : Int} (h : a ≠ r) : chg2 f r c v a = f a := by
  funext b
  unfold chg2
  rw [if_neg (fun z => h z.1)]
/-- a row newly made -/
def IsIRn (F : Hp) (n : Nat) (f : Nat → Int) : HR := IsNew F (.lst ((List.range n).map fun b => V.int (f b)))
instance (F n f) : Mon (IsIRn F n f) := inferInstanceAs (Mon (IsNew _ _))
theorem nodup_at {vs : List V} (nd : vs.Nodup) {i j : Nat} {y : V} (hi : vs[i]? = some y) (hj : vs[j]? = some y) : i = j := by
  obtain ⟨li, ei⟩ := List.getElem?_eq_some_iff.mp hi
  obtain ⟨lj, ej⟩ := List.getElem?_eq_some_iff.mp hj
  rcases Nat.lt_trichotomy i j with h | h | h
  · exact absurd (ei.trans ej.symm) (List.pairwise_iff_getElem.mp nd i j li lj h)
  · exact h
  · exact absurd (ej.trans ei.symm) (List.pairwise_iff_getElem.mp nd j i lj li h)
theorem tbl_chg {K : PySem.W.Frag} {F G : Hp} {p D : Addr} {vs : List V} {n r c : Nat} {v : Int} {f : Nat → Nat → Int} (gp : G p = some (.lst vs)) (rl : RL (fun a => IsIRn F n (f a)) (List.range n) vs G) (hD : vs[r]? = some (.ref D)) (hr : r < n) (dst : ∀ i, vs[i]? = some (.ref D) → i = r) (np : p ≠ D) : TabN (upd G D (.lst ((List.range n).map fun b => V.int (chg2 f r c v r b)))) p n (chg2 f r c v) := by
  refine ⟨vs, by rw [upd_ne np]; exact gp, rl_of_get (by rw [rl_len rl]) fun i s y hs hy => ?_⟩
  have hi : i < n := by
    have := (List.getElem?_eq_some_iff.mp hs).1
    rw [List.length_range] at this
    exact this
  rw [List.getElem?_range hi] at hs
  obtain rfl := Option.some.inj hs
  obtain ⟨y', hy', q, rfl, _, gq⟩ := rl_get rl (List.getElem?_range hi)
  rw [hy'] at hy
  obtain rfl := Option.some.inj hy
  by_cases hir : i = r
  · subst hir
    rw [hD] at hy'
    obtain rfl := V.ref.inj (Option.some.inj hy')
    exact ⟨D, rfl, upd_same⟩
  · have nq : q ≠ D := fun z => hir (dst i (by rw [hy', z]))
    exact ⟨q, rfl, by rw [upd_ne nq, gq, chg2_off hir]⟩
/-! ### rows told apart -/
theorem rl_map_imp {α : Type} {R R' : α → HR} {G G' : Hp} (i : ∀ a v, R a v G → R' a v G') : ∀ {ss : List α} {vs : List V}, RL R ss vs G → RL R' ss vs G'
  | [], _, h => h
  | a :: r, _, ⟨v, w, e, x, y⟩ => ⟨v, w, e, i a v x, rl_map_imp i y⟩
def LcN (S : SR) (G2 H2 : Hp) (n : Nat) (D : Addr) (os : List HO) (J : Hp) : Prop := ∃ G3 acc, Stp S n G2 H2 G3 J ∧ G3 D = none ∧ J D = some (.lst acc) ∧ RL (fun o => IsNew G2 o) os acc G3 ∧ acc.Nodup
theorem rl_ref {F G : Hp} : ∀ {os : List HO} {acc : List V}, RL (fun o => IsNew F o) os acc G → ∀ y ∈ acc, ∃ q o, y = .ref q ∧ G q = some o
  | [], _, h, y, hy => by rw [show _ = [] from h] at hy; cases hy
  | o :: r, _, ⟨v, w, e, ⟨q, e2, _, g⟩, h⟩, y, hy => by
    rw [e] at hy
    rcases List.mem_cons.mp hy with rfl | hy
    · exact ⟨q, o, e2, g⟩
    · exact rl_ref h y hy
section
variable {S : SR} {n k : Nat} {te el : TE} {σ : L2.St} {G : Hp} {K : PySem.W.Frag} {g : TG} {vs : List Nat} {p : Addr} {xs : List V}
theorem ev_lcN (st : Stab S) {of : Nat → HO} {σf : Nat → L2.St} (e : Ev S n k te σ G (IsV (.ref p))) (hq : SqL K G p xs) (hl : xs.length ≤ 100000)
    (hg : ∀ j x G' J, xs[j]? = some x → Same G G' → Same G' J → ∀ Q : L2.St → Hp → Prop, Q (σf j) J → g x (wipe σ vs) J Q) (hw : ∀ j, wipe (σf j) vs = wipe σ vs)
    (hs : ∀ j x G', xs[j]? = some x → Same G G' → Ev S (n + k) 0 el (σf j) G' (IsNew G' (of j))) :
    Ev S n k (tLc (iList K te) g tYes el vs) σ G (fun v G' => ∃ p ys, v = .ref p ∧ G p = none ∧ G' p = some (.lst ys) ∧ RL (fun o => IsNew G o) ((List.range xs.length).map of) ys G' ∧ ys.Nodup) := fun G1 H1 s0 s Q q =>
  e G1 H1 s0 s _ fun v G2 H2 s2 ev => ⟨p, ev, ⟨xs, Same.seq (s0.trans (s2.g.trans (st.sub s2.s))) hq⟩, fun D hD =>
    lc_list (K := K) (a := p) (xs := xs) (fun j J => LcN S G2 H2 (n + k) D ((List.range j).map of) J) (by
      have gD : G2 D = none := (st.sub s2.s).free hD
      exact ⟨G2, [], ⟨Same.refl _, kp_new (Kp.refl H2) hD, st.chg s2.s hD s2.s gD, fun _ _ h => .inl h⟩, gD, upd_same, rfl, List.nodup_nil⟩) (fun j J _ ⟨G3, acc, a, _⟩ => ((s0.trans s2.g).trans (a.g.trans (st.sub a.s))).seq hq)
      (fun j x J hx' h => by
        have hj : j < xs.length := (List.getElem?_eq_some_iff.mp hx').1
        obtain ⟨G3, acc, s3, c, d, r, nd⟩ := h
        refine hg j x G3 J hx' ((s0.trans s2.g).trans s3.g) (st.sub s3.s) _ ⟨hw j, tYes_run (iteT ?_)⟩
        refine hs j x G3 hx' ((s0.trans s2.g).trans s3.g) G3 J (Same.refl _) s3.s _ fun y G4 J4 s4 ry => ?_
        obtain ⟨q, rfl, f3, g4⟩ := ry
        have d4 : J4 D = some (.lst acc) := s4.k.k D _ (st.fre s2.s hD) d
        have c4 : G4 D = none := by
          cases e : G4 D with
          | none => rfl
          | some o =>
            rcases s4.n D o e with q | q
            · rw [c] at q
              cases q
            · rw [d] at q
              cases q
        have t : Stp S (n + k) G2 H2 G4 J4 := s3.trans s4
        have ll := rl_len r
        rw [List.length_map, List.length_range] at ll
        have r4 : RL (fun o => IsNew G2 o) ((List.range j).map of) acc G4 := rl_mon s4.g r
        refine ⟨acc, d4, Nat.lt_of_lt_of_le (show acc.length < 100000 by omega) (by decide), G4, acc ++ [.ref q], ⟨t.g, kp_new t.k hD, st.chg s2.s hD t.s c4, t.n⟩, c4, upd_same, ?_, ?_⟩
        · rw [List.range_succ, List.map_append]
          exact rl_app r4 (rl_one ⟨q, rfl, s3.g.free f3, g4⟩)
        · refine List.nodup_append.mpr ⟨nd, List.pairwise_singleton _ _, fun a ha b hb => ?_⟩
          obtain rfl := List.mem_singleton.mp hb
          obtain ⟨q', o', rfl, gq⟩ := rl_ref r a ha
          intro z
          obtain rfl := V.ref.inj z
          rw [f3] at gq
          cases gq)
      fun J h => by
        obtain ⟨G3, acc, s3, c, d, r, nd⟩ := h
        have t := s2.trans s3
        have g4 : Same G3 (upd G3 D (.lst acc)) := fun y o z => by
          rw [upd_ne (ne_of_none z c)]
          exact z
        refine q (.ref D) _ J ⟨t.g.trans g4, t.k, st.pub s2.s hD s3.s c d, fun b o e => ?_⟩ ⟨D, acc, rfl, s0.free (t.g.free c), upd_same, ?_, nd⟩
        · by_cases hb : b = D
          · rw [hb]
            exact .inr (s2.k.v D hD)
          · rw [upd_ne hb] at e
            exact t.n b o e
        · refine (fun {os acc} h => ?_ : ∀ {os : List HO} {acc : List V}, RL (fun o => IsNew G2 o) os acc G3 → RL (fun o => IsNew G o) os acc (upd G3 D (.lst _))) r
          exact rl_map_imp (fun o v ⟨q, e, f, gq⟩ => ⟨q, e, (s0.trans s2.g).free f, g4 _ _ gq⟩) h⟩
end
theorem rl_unmap {α β : Type} {R : β → HR} {g : α → β} {G : Hp} : ∀ {ss : List α} {vs : List V}, RL R (ss.map g) vs G → RL (fun a => R (g a)) ss vs G
  | [], _, h => h
  | a :: r, _, ⟨v, w, e, x, y⟩ => ⟨v, w, e, x, rl_unmap y⟩
theorem rows_self {F G : Hp} {n : Nat} {f : Nat → Nat → Int} {D : Addr} {r : Nat} {g : Nat → Int} (rl : RL (fun a => IsIRn F n (f a)) (List.range n) ((List.range n).map fun b => V.int (g b)) G) (hD : ((List.range n).map fun b => V.int (g b))[r]? = some (.ref D)) (gD : G D = some (.lst ((List.range n).map fun b => V.int (g b)))) : False := by
  obtain ⟨_, e⟩ := map_get hD
  cases e
/-- .. at a place and with a value that are drawn -/
theorem q_setNewI {S : SR} {n kc ka kb n0 : Nat} {to ti te : TE} {u : TS} {σ : L2.St} {G H G0 H0 : Hp} {nx bk ct : L2.St → Hp → Prop} {rt : VK} {D : Addr} {xs : List V} {Pc Pv : Int → Prop} (st : Stab S) (s0 : S n0 G0 H0) (fr : Fr S G0 H0 G H) (s : S n G H) (hc : ∀ m J, S m G J → S m (cut G (· = D)) J) (d0 : G0 D = none) (hD : G D = some (.lst xs))
    (e : Ev S n kc te σ G (IsI Pv)) (e1 : Ev S (n + kc) ka to σ G (IsV (.ref D))) (e2 : Ev S (n + kc + ka) kb ti σ G (IsI Pc)) (hi : ∀ c, Pc c → 0 ≤ c ∧ c < xs.length)
    (h : ∀ (c v : Int) H', Pc c → Pv v → S (n + kc + ka + kb) (upd G D (.lst (xs.set c.toNat (.int v)))) H' → Fr S G0 H0 (upd G D (.lst (xs.set c.toNat (.int v)))) H' → u (Ends.mk nx rt bk ct) σ H') : tSeq (tAsg te (gSub to ti rSetA)) u (Ends.mk nx rt bk ct) σ H := by
  have hD0 : H0 D = none := (fr.n D _ hD).resolve_left (by rw [d0]; exact fun z => nomatch z)
  have k0 : Kp S H0 H := fr.k
  have cD : cut G (· = D) D = none := cut_in rfl
  have ec : ∀ o : HO, upd (cut G (· = D)) D o = upd G D o := fun o => by
    funext b
    by_cases hb : b = D
    · subst hb
      rw [upd_same, upd_same]
    · rw [upd_ne hb, upd_ne hb]
      exact cut_out (X := fun x => x = D) hb
  refine e G H (Same.refl _) s _ fun v1 G1 H1 s1 ev1 => ?_
  obtain ⟨v, hv, rfl⟩ := ev1
  refine e1 G1 H1 s1.g s1.s _ fun v2 G2 H2 s2 ev2 => ?_
  obtain rfl := (show _ = _ from ev2)
  refine e2 G2 H2 (s1.g.trans s2.g) s2.s _ fun v3 G3 H3 s3 ev3 => ?_
  obtain ⟨c, hcc, rfl⟩ := ev3
  have bd := hi c hcc
  have s13 := (s1.g.trans s2.g).trans s3.g
  have h3 := st.anti s s3.s s13
  have c3 := hc _ _ h3
  have hH3 := st.sub s3.s _ _ (s13 _ _ hD)
  have hx : ixN xs.length c = some c.toNat := by
    unfold ixN
    rw [if_pos bd.1, if_pos bd.2]
  refine .inl ⟨D, xs, c, c.toNat, rfl, rfl, hH3, hx, ?_⟩
  have a1 := st.chg (o := .lst (xs.set c.toNat (.int v))) s0 hD0 c3 cD
  have a2 := st.pub s0 hD0 a1 cD upd_same
  rw [ec] at a2
  refine h c v _ hcc hv a2 ⟨fun b o hb => ?_, kp_new ((k0.trans ((s1.k.trans s2.k).trans s3.k))) hD0, fun b o hb => ?_⟩
  · rw [upd_ne (fun z => by rw [z, d0] at hb; cases hb)]
    exact fr.g _ _ hb
  · by_cases hbD : b = D
    · subst hbD
      exact .inr hD0
    · rw [upd_ne hbD] at hb
      exact fr.n b o hb
end L2.DS
/-! Residuals and stars on regular scales; joins of lists of places. -/
namespace L2.DS
open PySem PySem.Spec PyProof.Rows
/-! the order -/
/-! stars -/
/-! ### promises -/
def PCls (K : PySem.W.Frag) (Cs : List Addr) (CW : Addr) (pk : SD → Nat) : List V → Hp → HR → Prop := fun vs G R => ∃ (x : Addr) (d : SD), vs = [.ref CW, .ref x] ∧ ScD K Cs d x G ∧ SdOk d ∧ R = IsWt K Cs CW d (pk d)
/-! ### a class that a local holds is called -/
def tMakeV (i : Nat) (C : Addr) (sp : Sp) (dvs : List V) (E : XK) (t : TA) : TE := fun σ H Q => σ[i]? = some (some (.ref C)) ∧ tMake C sp dvs E t σ H Q
section
variable {X : Cx} {CX : CXT} {k i : Nat} {C : Addr} {ps : List Str} {sp : Sp} {dvs : List V} {E : XK} {x y m : Str} {p pos apos : Pos} {e o : Expr} {es : List Expr} {t : TA} {ta : TE}
theorem pe_makeV (c : Maker X.prog X.w X.K X.mg X.base y C CX k ps dvs sp) (hr : Room (k + 1) X.A) (hN : X.N[i]? = some x) (hv : Vis X.env.scope x) (hx : Passes CX X E) (ha : PA X (e :: es) t) (hdb : (x == ("__debug__" : Str)) = false := by decide) (hcd : (x == ("__classdict__" : Str)) = false := by decide)
    (he : starEach (e :: es) X.env = (false, eval e X.env) :: starEach es X.env := by rfl) (hpl : (backTo pos (starEach es X.env)).any (·.1) = false := by rfl) : PE X (.Call (.Name x p) (e :: es) [] pos) (tMakeV i C sp dvs E t) := by
  obtain ⟨f, fd, ds, h1, M, F, hb, hd⟩ := c
  refine ⟨fun pins s σ H Q I h => ?_⟩
  obtain ⟨hs, ht⟩ := h
  refine wpAny_Call_Name_kw (thn ((pe_var (pos := p) hN hv hdb hcd).run pins s σ H (fun v H1 => v = .ref C ∧ H1 = H) I ⟨.ref C, hs, rfl, rfl⟩) fun u s1 ⟨v, H1, I1, r1, q1⟩ => ?_)
  obtain ⟨rfl, rfl⟩ := q1
  cases r1
  refine PySem.W.callWith_K (h₀ := X.base) I.ok.mod.kin M.kp (thn (ha.run pos pins s1 σ _ _ I1 ht) fun us s2 ⟨vs, H2, I2, r, q⟩ => ⟨I2.kIn, ?_⟩) he hpl
  exact run_make M F hr hb hd hx I2 r q
theorem pe_clsmC {pl : Sem Bool} (c : ClsmC X.prog X.w X.K X.mg X.base C m CX k sp) (hr : Room k X.A) (hx : Passes CX X E) (ho : PE X o ta) (ha : PA X (e :: es) t)
    (hst : starEach (e :: es) X.env = (false, eval e X.env) :: starEach es X.env := by rfl) (hpl : (backTo pos (starEach es X.env)).any (·.1) = false := by rfl)
    (ht : eval (.Call (.Attribute o m apos) (e :: es) [] pos) X.env = (do
      let ov ← eval o X.env
      standAt apos.atName
      let (f, first) ← holding [ov] (getMethod ov m pl)
      callWith pos f first (backTo pos (starEach (e :: es) X.env)) (backToKw pos (keywordEach [] X.env))) := by rfl) :
    PE X (.Call (.Attribute o m apos) (e :: es) [] pos) (ClX.tCMeth C sp E ta t) := by
  obtain ⟨mc, p, g, r, cm, F⟩ := c
  exact ClX.pe_cmeth ho r cm F hr hx ha hst hpl ht
end
section
variable {S : SR} {n k ka kb : Nat} {ta : TE} {t : TA} {σ : L2.St} {G : Hp} {K : PySem.W.Frag} {Cs : List Addr} {CW CM C x : Addr} {d e : SD} {p q : Nat} {a b : Addr} {E : XK} {res : SD → Nat → Nat → HR} {P : List V → Hp → HR → Prop} {R : HR} {ws : List V}
theorem ev_makeV (hi : σ[ka]? = some (some (.ref C))) {sp : Sp} {dvs : List V} (h : Ev S n k (tMake C sp dvs E t) σ G R) : Ev S n k (tMakeV ka C sp dvs E t) σ G R := fun G1 H1 s0 s Q q => ⟨hi, h G1 H1 s0 s Q q⟩
theorem ev_clsm (st : Stab S) (h0 : Ev S n ka ta σ G (IsV (.ref C))) (h : EvA S (n + ka) kb t σ G (IsVs ws)) (hp : ∀ G', Same G G' → P (.ref C :: ws) G' R) : Ev S n (ka + kb) (ClX.tCMeth C (spP P) E ta t) σ G R := fun G1 H1 s0 s Q q =>
  h0 G1 H1 s0 s _ fun v G2 H2 s2 ev => ⟨ev, h G2 H2 (s0.trans s2.g) s2.s _ fun vs G3 H3 s3 e3 => by
    obtain rfl := (show _ = _ from e3)
    have t3 := s2.trans s3
    rw [Nat.add_assoc] at t3
    exact ⟨G3, R, st.sub t3.s, hp G3 ((s0.trans s2.g).trans s3.g), fun v G' H' g r => q v G' H' (t3.trans (st.gro t3.s g)) r⟩⟩
/-- a op b, two worths of scales of one label -/
theorem v_wop (st : Stab S) (h : WtAt K Cs CW d p a G) (h' : WtAt K Cs CW e q b G) (o : SdOk d) (hl : d.label = e.label) (hq : q < d.names.length) : RV S (rOwn2 CW (sp_wop K Cs CW CM res) E) (.ref a) (.ref b) G (res d p q) := fun m G1 H1 s0 s Q qq => by
  obtain ⟨dx, fs, ha⟩ := h.at
  obtain ⟨dy, gs, hb⟩ := h'.at
  exact ⟨a, b, dx, dy, fs, gs, rfl, rfl, st.sub s _ _ (s0 _ _ ha), st.sub s _ _ (s0 _ _ hb), a, b, d, e, p, q, G1, rfl, st.sub s, h.mono s0, h'.mono s0, o, fun _ => ⟨hq, fun v G' H' g r => qq v G' H' (st.gro s g) r⟩, fun z => absurd hl z⟩
theorem v_eqW (st : Stab S) (h : WtAt K Cs CW d p a G) (h' : WtAt K Cs CW e q b G) : RV S (rOwn2 CW (spP (PEqW K Cs CW)) E) (.ref a) (.ref b) G (IsV (.bl (decide (d.label = e.label) && decide (p = q)))) := fun m G1 H1 s0 s Q qq => by
  obtain ⟨dx, fs, ha⟩ := h.at
  obtain ⟨dy, gs, hb⟩ := h'.at
  exact ⟨a, b, dx, dy, fs, gs, rfl, rfl, st.sub s _ _ (s0 _ _ ha), st.sub s _ _ (s0 _ _ hb), G1, _, st.sub s, ⟨a, b, d, e, p, q, rfl, h.mono s0, h'.mono s0, rfl⟩, fun v G' H' g r => qq v G' H' (st.gro s g) r⟩
end
end L2.DS
/-! Lists of things of one kind that grow; the values of and, or, not of worths. -/
namespace L2.DS
open PySem PySem.Spec PyProof.Rows
/-- n things of one kind -/
def AllR (R : HR) (n : Nat) : HRs := fun xs G => ∃ ss : List Nat, RL (fun _ => R) ss xs G ∧ ss.length = n
instance (R : HR) [Mon R] (n : Nat) : Mons (AllR R n) := ⟨fun s ⟨ss, r, l⟩ => ⟨ss, rl_mon s r, l⟩⟩
theorem AllR.len {R : HR} {n : Nat} {xs : List V} {G : Hp} (h : AllR R n xs G) : xs.length = n := by
  obtain ⟨ss, r, l⟩ := h
  rw [rl_len r, l]
theorem AllR.one {R : HR} {v : V} {G : Hp} (h : R v G) : AllR R 1 [v] G := ⟨[0], rl_one h, rfl⟩
theorem AllR.get {R : HR} {n i : Nat} {xs : List V} {G : Hp} (h : AllR R n xs G) (hi : i < n) : ∃ v, xs[i]? = some v ∧ R v G := by
  obtain ⟨ss, r, l⟩ := h
  exact rl_get r (List.getElem?_eq_getElem (by omega))
/-- a list newly made of things that stood before it -/
def IsNXF (S : SR) (G0 : Hp) (RA : HRs) : HR := fun v G => ∃ F p xs m J, S m F J ∧ v = .ref p ∧ Same G0 F ∧ F p = none ∧ Same F G ∧ RA xs F ∧ G p = some (.lst xs)
instance (S G0 RA) : Mon (IsNXF S G0 RA) := ⟨fun s ⟨F, p, xs, m, J, z, e, a, b, c, d, g⟩ => ⟨F, p, xs, m, J, z, e, a, b, c.trans s, d, s _ _ g⟩⟩
section
variable {S : SR} {n k ka kb m i : Nat} {te to : TE} {t : TA} {σ : L2.St} {G : Hp} {K : PySem.W.Frag} {R : HR} {p q : Addr} {xs ys : List V}
theorem ev_IP {Pm : Int → Prop} {j : Int} (e : Ev S n k te σ G (IsV (.int j))) (h : Pm j) : Ev S n k te σ G (IsI Pm) := e.imp fun v G' s' e => ⟨j, h, e⟩
theorem Fr.new {S : SR} {G H F G1 H1 : Hp} {D : Addr} {o : HO} (f : Fr S G H G1 H1) (a : Same G F) (hF : F D = none) (hD : G1 D = some o) : H D = none := (f.n D o hD).resolve_left fun z => by rw [a _ _ z] at hF; cases hF
end
/-! ### worths of one scale -/
/-- some worth of d -/
def IsWtA (K : PySem.W.Frag) (Cs : List Addr) (CW : Addr) (d : SD) : HR := fun v G => ∃ (w : Addr) (p : Nat), v = .ref w ∧ WtAt K Cs CW d p w G
instance (K Cs CW d) : Mon (IsWtA K Cs CW d) := ⟨fun s ⟨w, p, e, h⟩ => ⟨w, p, e, h.mono s⟩⟩
section
variable {S : SR} {n k ka kb kc : Nat} {te ta tb tc : TE} {t : TA} {σ : L2.St} {G : Hp} {K : PySem.W.Frag} {Cs : List Addr} {CW CM : Addr} {d : SD} {p q r : Nat} {a b x : Addr} {E : XK} {res : SD → Nat → Nat → HR}
theorem ev_isW (h : WtAt K Cs CW d p a G) (e : Ev S n k te σ G (IsV (.ref a))) : Ev S n k te σ G (IsWt K Cs CW d p) := fun G1 H1 s0 s Q q => e G1 H1 s0 s Q fun v G2 H2 s2 ev => q v G2 H2 s2 ⟨a, ev, h.mono (s0.trans s2.g)⟩
theorem ev_wop (st : Stab S) (o : SdOk d) (ea : Ev S n ka ta σ G (IsWt K Cs CW d p)) (eb : Ev S (n + ka) kb tb σ G (IsWt K Cs CW d q)) : Ev S n (ka + kb) (tOp (rOwn2 CW (sp_wop K Cs CW CM res) E) ta tb) σ G (res d p q) :=
  ev_op ea eb fun u v G' s ⟨a, e1, ha⟩ ⟨b, e2, hb⟩ => by
    subst e1
    subst e2
    exact v_wop st ha hb o rfl hb.lt
theorem ev_wle (st : Stab S) (o : SdOk d) {c : Bool} (ea : Ev S n ka ta σ G (IsWt K Cs CW d p)) (eb : Ev S (n + ka) kb tb σ G (IsWt K Cs CW d q)) (h : decide (d.J p q = q) = c) : Ev S n (ka + kb) (tOp (rOwn2 CW (sp_wop K Cs CW CM rLeW) E) ta tb) σ G (IsV (.bl c)) := by
  subst h
  exact ev_wop (res := rLeW) st o ea eb
theorem ev_andT (st : Stab S) (h1 : Ev S n ka ta σ G (IsV (.bl true))) (h2 : Ev S (n + ka) kb tb σ G (IsV (.bl true))) : Ev S n (ka + kb) (tAndV ta tb) σ G (IsV (.bl true)) := ev_andV st h1 fun _ => h2
theorem ev_wmul (st : Stab S) (o : SdOk d) (ea : Ev S n ka ta σ G (IsWt K Cs CW d p)) (eb : Ev S (n + ka) kb tb σ G (IsWt K Cs CW d q)) : Ev S n (ka + kb) (tOp (rOwn2 CW (sp_wop K Cs CW CM (rMulW K Cs CW)) E) ta tb) σ G (IsWt K Cs CW d (d.T p q)) := ev_wop st o ea eb
theorem ev_wor (st : Stab S) (o : SdOk d) (ea : Ev S n ka ta σ G (IsWt K Cs CW d p)) (eb : Ev S (n + ka) kb tb σ G (IsWt K Cs CW d q)) : Ev S n (ka + kb) (tOp (rOwn2 CW (sp_wop K Cs CW CM (rOrW K Cs CW)) E) ta tb) σ G (IsWt K Cs CW d (d.J p q)) := ev_wop st o ea eb
end
end L2.DS
/-! Texts cut into words; lists of lists that grow and are closed. -/
namespace L2.DS
open PySem PySem.Spec PyProof.Rows
/-! ### a def in which a token is out -/
theorem fun_okXT {P : Program} {w : World} {K : PySem.W.Frag} {mg : Str → Option Value} {base : Heap} {x qual : Str} {st : Stmt} {f : Addr} {fd : FuncData} {N ps : List Str} {k : Nat} {sp : Sp} (F : Fun K x qual st f fd) (S : FnScope N ps (defScope st)) (hnc : ∀ y ∈ (defScope st).names, y.2 ≠ .cell) (hps : 1 ≤ ps.length) (len : ∀ vs H Q E, sp vs H Q E → vs.length = ps.length)
    (hbody : ∀ (cdv : Value) (A : Around) (outer : List Env) (s : Shared) (H : Hp) (vs : List V) (Q : VK) (E : XK), Room k (A.deeper (envOfC qual (defScope st) s.heap.objs.size f cdv)) → sp vs H Q E →
      ∃ t, PSsT (cxOf (L2.CX P w) P w K mg base N qual (defScope st) f cdv A outer s H E) (defBody st) t ∧ t { nx := fun _ H' => Q .non H', rt := Q } (start N vs) H) : FnOk P w K mg base (L2.CX P w) (k + 1) f fd ps sp := by
  obtain ⟨oc, od, kV, doc, pm, an, cdv, ct, osl, rfl, lk, hcd⟩ := F.ex
  exact fn_ofT lk hcd S hnc hps len fun A outer s H vs Q E hr hsp => hbody cdv A outer s H vs Q E hr hsp
section
variable {X : Cx} {o e : Expr} {to te : TE}
def rSplitS : V → List V → Hp → VK → Prop := fun x xs H Q => ∃ a b, x = .str a ∧ xs = [.str b] ∧ (b.length == 0) = false ∧ a.length + 2 ≤ sizeLine ∧ rNewStrs (Txt.split a b) H Q
theorem pet_split {apos pos : Pos} (ho : PET X o to) (he : PE X e te) (hs : starEach [e] X.env = [(false, eval e X.env)] := by rfl) (hbase : attributeBase o "split" X.env (eval o X.env) = eval o X.env := by rfl) (hline : (apos.endLine == pos.line) = true := by rfl) :
    PET X (.Call (.Attribute o "split" apos) [e] [] pos) (tM1 rSplitS to te) := by
  intro pins s σ H Q h0 I h
  refine PySem.Call_method1 hbase hs hline (thn (ho pins s σ H _ h0 I h) fun v s1 ⟨x, H1, I1, r1, q1⟩ => ?_)
  obtain ⟨⟨a, rfl⟩, q1⟩ := q1
  obtain ⟨t, rfl⟩ := _root_.id r1
  refine ⟨"str", _, PySem.F.plainAttrs_str, PySem.F.slot_str_split, PySem.F.type_str_split, typeIs_str _ _ _, (fun _ e => nomatch e), Calls.callWith_builtin rfl (Calls.evalArgs_plain (Calls.spliced_cons ?_))⟩
  exact thn (he.run pins s1 σ H1 _ I1 q1) fun u s2 ⟨y, H2, I2, r2, q2⟩ => Calls.spliced_nil (mt_split pins s2 σ H2 _ [y] _ [u] Q I2 r1 (.cons r2 .nil) q2)
theorem pmk_ownS {C : Addr} {m x : Str} {j : Nat} {p p2 pos : Pos} (e : Ex0C X.K C) (gC : X.mg x = some (.ref C)) (hg : Gl X x := by rfl) (hdb : (x == ("__debug__" : Str)) = false := by decide) : L2.PMk X (.Call (.Name x p) [.Constant (.str m) j p2] [] pos) (fun _ H Q => Q (.ref C) none H) :=
  pmk_own PySem.F.excBase_ValueError e.q gC e.kC (raises_own e.b e.t) hg hdb
end
/-- raise C('..') -/
theorem ps_raiseS {X : Cx} {W : WX} {C : Addr} {m x : Str} {j : Nat} {p p2 pos pos2 : Pos} (hc : X.calm = true) (e : Ex0C X.K C) (gC : X.mg x = some (.ref C)) (tk : Takes X W) (hg : Gl X x := by rfl) (hdb : (x == ("__debug__" : Str)) = false := by decide) : PS X (.Raise (some (.Call (.Name x p) [.Constant (.str m) j p2] [] pos)) none pos2) (tRaise0 C W) :=
  ps_raise hc tk (pmk_ownS e gC hg hdb)
section
variable {S : SR} {n k ka kb : Nat} {to te : TE} {σ : L2.St} {G : Hp} {x y z : Str}
theorem ev_repl (e : Ev S n k to σ G (IsV (.str x))) (h : x.length + (x.length + 1) * z.length ≤ 16777216) : Ev S n k (CwR.tReplC to y z) σ G (IsV (.str (Txt.replace x y z))) := fun G1 H1 s0 s Q q => e G1 H1 s0 s _ fun v G2 H2 s2 ev => ⟨x, ev, h, q _ G2 H2 s2 rfl⟩
theorem ev_splitS (st : Stab S) (e : Ev S n ka to σ G (IsV (.str x))) (e' : Ev S (n + ka) kb te σ G (IsV (.str y))) (hy : (y.length == 0) = false) (hx : x.length + 2 ≤ sizeLine) : Ev S n (ka + kb) (tM1 rSplitS to te) σ G (IsNew G (.lst ((Txt.split x y).map V.str))) := fun G1 H1 s0 s Q q =>
  e G1 H1 s0 s _ fun v G2 H2 s2 ev => by
    obtain rfl := (show _ = _ from ev)
    refine ⟨⟨x, rfl⟩, e' G2 H2 (s0.trans s2.g) s2.s _ fun v' G3 H3 s3 ev' => ?_⟩
    obtain rfl := (show _ = _ from ev')
    have t3 := (s2.trans s3).up
    exact ⟨x, y, rfl, rfl, hy, hx, fun p hp => q (.ref p) _ _ (t3.trans (st.new t3.s hp)) ⟨p, rfl, ((s0.trans t3.g).trans (st.sub t3.s)).free hp, upd_same⟩⟩
end
/-! ### words in lists -/
inductive Wd where
  | w (s : Str)
  | l (ws : List Wd)
mutual
def WdAt : Wd → V → Hp → Prop
  | .w s, v, _ => v = .str s
  | .l ws, v, G => ∃ p xs, v = .ref p ∧ G p = some (.lst xs) ∧ WdsAt ws xs G
def WdsAt : List Wd → List V → Hp → Prop
  | [], xs, _ => xs = []
  | a :: r, xs, G => ∃ x ys, xs = x :: ys ∧ WdAt a x G ∧ WdsAt r ys G
end
mutual
theorem WdAt.mono : ∀ {a : Wd} {v : V} {G G' : Hp}, WdAt a v G → Same G G' → WdAt a v G'
  | .w _, _, _, _, h, _ => by
    unfold WdAt at h ⊢
    exact h
  | .l ws, _, _, _, h, s => by
    unfold WdAt at h ⊢
    obtain ⟨p, xs, e, g, h⟩ := h
    exact ⟨p, xs, e, s _ _ g, WdsAt.mono h s⟩
theorem WdsAt.mono : ∀ {a : List Wd} {v : List V} {G G' : Hp}, WdsAt a v G → Same G G' → WdsAt a v G'
  | [], _, _, _, h, _ => by
    unfold WdsAt at h ⊢
    exact h
  | a :: r, _, _, _, h, s => by
    unfold WdsAt at h ⊢
    obtain ⟨x, ys, e, h1, h2⟩ := h
    exact ⟨x, ys, e, WdAt.mono h1 s, WdsAt.mono h2 s⟩
end
theorem WdsAt.nil {G : Hp} : WdsAt [] [] G := by
  unfold WdsAt
  rfl
theorem WdsAt.cons {a : Wd} {r : List Wd} {x : V} {ys : List V} {G : Hp} (h : WdAt a x G) (h' : WdsAt r ys G) : WdsAt (a :: r) (x :: ys) G := by
  unfold WdsAt
  exact ⟨x, ys, rfl, h, h'⟩
theorem WdsAt.of_nil {xs : List V} {G : Hp} (h : WdsAt [] xs G) : xs = [] := by
  unfold WdsAt at h
  exact h
theorem WdsAt.of_cons {a : Wd} {r : List Wd} {xs : List V} {G : Hp} (h : WdsAt (a :: r) xs G) : ∃ x ys, xs = x :: ys ∧ WdAt a x G ∧ WdsAt r ys G := by
  unfold WdsAt at h
  exact h
theorem WdsAt.len : ∀ {a : List Wd} {xs : List V} {G : Hp}, WdsAt a xs G → xs.length = a.length
  | [], _, _, h => by rw [h.of_nil]; rfl
  | a :: r, _, _, h => by
    obtain ⟨x, ys, rfl, _, h2⟩ := h.of_cons
    rw [List.length_cons, List.length_cons, h2.len]
theorem WdsAt.snoc : ∀ {a : List Wd} {xs : List V} {G : Hp} {b : Wd} {y : V}, WdsAt a xs G → WdAt b y G → WdsAt (a ++ [b]) (xs ++ [y]) G
  | [], _, _, _, _, h, h' => by
    rw [h.of_nil]
    exact .cons h' .nil
  | a :: r, _, _, _, _, h, h' => by
    obtain ⟨x, ys, rfl, h1, h2⟩ := h.of_cons
    exact .cons h1 (h2.snoc h')
theorem WdsAt.get : ∀ {a : List Wd} {xs : List V} {G : Hp} {i : Nat} {b : Wd}, WdsAt a xs G → a[i]? = some b → ∃ x, xs[i]? = some x ∧ WdAt b x G
  | [], _, _, _, _, _, e => by simp at e
  | a :: r, _, _, 0, _, h, e => by
    obtain ⟨x, ys, rfl, h1, h2⟩ := h.of_cons
    obtain rfl : a = _ := by simpa using e
    exact ⟨x, rfl, h1⟩
  | a :: r, _, _, i + 1, _, h, e => by
    obtain ⟨x, ys, rfl, h1, h2⟩ := h.of_cons
    exact h2.get (i := i) (by simpa using e)
theorem WdAt.of_w {s : Str} {v : V} {G : Hp} (h : WdAt (.w s) v G) : v = .str s := by
  unfold WdAt at h
  exact h
theorem WdAt.of_l {ws : List Wd} {v : V} {G : Hp} (h : WdAt (.l ws) v G) : ∃ p xs, v = .ref p ∧ G p = some (.lst xs) ∧ WdsAt ws xs G := by
  unfold WdAt at h
  exact h
theorem WdAt.w {s : Str} {G : Hp} : WdAt (.w s) (.str s) G := by
  unfold WdAt
  rfl
theorem WdAt.l {ws : List Wd} {p : Addr} {xs : List V} {G : Hp} (g : G p = some (.lst xs)) (h : WdsAt ws xs G) : WdAt (.l ws) (.ref p) G := by
  unfold WdAt
  exact ⟨p, xs, rfl, g, h⟩
/-! ### parentheses -/
def nwOp (t : Str) (st : List (List Wd)) : Option (List (List Wd)) :=
  if t = ("(" : Str) then some ([] :: st) else if t = (")" : Str) then (match st with | a :: b :: r => some ((b ++ [.l a]) :: r) | _ => none) else if t = ("" : Str) then some st else match st with | a :: r => some ((a ++ [.w t]) :: r) | [] => none
def nwStep (D : Nat) (t : Str) (st : List (List Wd)) : Option (List (List Wd)) := (nwOp t st).bind fun s => if s.length ≤ D then some s else none
def nwRun (D : Nat) : List Str → List (List Wd) → Option (List (List Wd))
  | [], st => some st
  | t :: r, st => (nwStep D t st).bind (nwRun D r)
def nwEnd : List (List Wd) → Option (List Wd)
  | [ws] => some ws
  | _ => none
def nw (D : Nat) (ts : List Str) : Option (List Wd) := (nwRun D ts [[]]).bind nwEnd
def toks (x : Str) : List Str := Txt.split (Txt.replace (Txt.replace x ("(" : Str) (" ( " : Str)) (")" : Str) (" ) " : Str)) (" " : Str)
def Opn (H G : Hp) : List Addr → List (List Wd) → Prop
  | [], [] => True
  | r :: rs, ws :: st => (∃ xs, H r = some (.lst xs) ∧ WdsAt ws xs G) ∧ Opn H G rs st
  | _, _ => False
theorem Opn.len {H G : Hp} : ∀ {rs : List Addr} {st : List (List Wd)}, Opn H G rs st → rs.length = st.length
  | [], [], _ => rfl
  | _ :: rs, _ :: st, h => by rw [List.length_cons, List.length_cons, h.2.len]
  | [], _ :: _, h => h.elim
  | _ :: _, [], h => h.elim
theorem Opn.go {H G H' G' : Hp} : ∀ {rs : List Addr} {st : List (List Wd)}, Opn H G rs st → Same G G' → (∀ r ∈ rs, ∀ xs, H r = some (.lst xs) → H' r = some (.lst xs)) → Opn H' G' rs st
  | [], [], _, _, _ => trivial
  | r :: rs, _ :: st, h, s, k => by
    obtain ⟨⟨xs, hx, hw⟩, h⟩ := h
    exact ⟨⟨xs, k r List.mem_cons_self _ hx, hw.mono s⟩, h.go s fun r' hr => k r' (List.mem_cons_of_mem _ hr)⟩
  | [], _ :: _, h, _, _ => h.elim
  | _ :: _, [], h, _, _ => h.elim
theorem Opn.some {H G : Hp} : ∀ {rs : List Addr} {st : List (List Wd)}, Opn H G rs st → ∀ r ∈ rs, ∃ xs, H r = some (.lst xs)
  | [], [], _, r, hr => by cases hr
  | a :: rs, _ :: st, h, r, hr => by
    rcases List.mem_cons.mp hr with rfl | hr
    · exact ⟨_, h.1.choose_spec.1⟩
    · exact h.2.some r hr
  | [], _ :: _, h, _, _ => h.elim
  | _ :: _, [], h, _, _ => h.elim
/-- l.append(v) while GP tells of l, too -/
theorem q_appK {S : SR} {K : PySem.W.Frag} {n n0 ka kb : Nat} {to te : TE} {σ : L2.St} {G GP H G0 H0 : Hp} {R : HR} {u : TS} {nx bk ct : L2.St → Hp → Prop} {rt : VK} {D : Addr} {xs : List V} (st : Stab S) (s0 : S n0 G0 H0) (s : S n G H) (gp : Same G GP) (sp : S n GP H) (hD0 : H0 D = none) (gD : G D = none) (hH : H D = some (.lst xs)) (hl : xs.length < sizeLine)
    (e1 : Ev S n ka to σ GP (IsV (.ref D))) (e2 : Ev S (n + ka) kb te σ GP R)
    (h : ∀ v G' H', Stp S (n + ka + kb) GP H G' H' → R v G' → S (n + ka + kb) G (upd H' D (.lst (xs ++ [v]))) → u (Ends.mk nx rt bk ct) σ (upd H' D (.lst (xs ++ [v])))) : tSeq (tDrop (tBM K "list" rAppend to (tCons te tNil))) u (Ends.mk nx rt bk ct) σ H := by
  refine e1 GP H (Same.refl _) sp _ fun w G1 H1 s1 ew => ?_
  obtain rfl : w = .ref D := ew
  have d1 : H1 D = some (.lst xs) := s1.k.k D _ (st.fre s0 hD0) hH
  refine ⟨.inl ⟨rfl, xs, SqL.of d1⟩, e2 G1 H1 s1.g s1.s _ fun v G2 H2 s2 ev => ?_⟩
  have t2 := s1.trans s2
  have d2 : H2 D = some (.lst xs) := t2.k.k D _ (st.fre s0 hD0) hH
  exact ⟨D, xs, v, rfl, rfl, d2, hl, h v G2 H2 t2 ev (st.chg s0 hD0 (st.anti s s2.s (gp.trans t2.g)) gD)⟩
/-- x = l.pop() -/
theorem q_popK {S : SR} {K : PySem.W.Frag} {n n0 i j : Nat} {σ : L2.St} {G H G0 H0 : Hp} {u : TS} {nx bk ct : L2.St → Hp → Prop} {rt : VK} {D : Addr} {xs : List V} {v : V} (st : Stab S) (s0 : S n0 G0 H0) (s : S n G H) (hD0 : H0 D = none) (gD : G D = none) (hH : H D = some (.lst xs)) (hv : xs[xs.length - 1]? = some v) (hσ : σ[j]? = some (some (.ref D)))
    (h : S n G (upd H D (.lst xs.dropLast)) → u (Ends.mk nx rt bk ct) (σ.set i (some v)) (upd H D (.lst xs.dropLast))) : tSeq (tAsg (tBM K "list" rPop (tVar j) tNil) (gName i)) u (Ends.mk nx rt bk ct) σ H :=
  ⟨.ref D, hσ, .inl ⟨rfl, xs, SqL.of hH⟩, D, xs, v, rfl, rfl, hH, hv, h (st.chg s0 hD0 s gD)⟩
/-- the open lists at L, in the heap H; G tells of what stands still -/
structure NwI (G0 H0 G H : Hp) (L : Addr) (rs : List Addr) (st : List (List Wd)) : Prop where
  s : Grow G0 H0 G H
  l : H L = some (.lst (rs.reverse.map V.ref))
  o : Opn H G rs st
  n : (L :: rs).Nodup
  h0 : ∀ r ∈ L :: rs, H0 r = none
  g : ∀ r ∈ L :: rs, G r = none
section
variable {G0 H0 G H J : Hp} {L r : Addr} {rs : List Addr} {st : List (List Wd)} {K : PySem.W.Frag}
theorem NwI.sp (h : NwI G0 H0 G H L rs st) : (SP0 G0 H0).s 0 G H := h.s
theorem NwI.pub (hs : Same G0 H0) (h : NwI G0 H0 G H L rs st) : (SP0 G0 H0).s 0 (upd G L (.lst (rs.reverse.map V.ref))) H :=
  (stab0 G0 H0).pub (n := 0) (m := 0) (Grow.refl hs) (h.h0 L List.mem_cons_self) h.sp (h.g L List.mem_cons_self) h.l
theorem NwI.same (h : NwI G0 H0 G H L rs st) : Same G (upd G L (.lst (rs.reverse.map V.ref))) := fun b o e => by
  rw [upd_ne (ne_of_none e (h.g L List.mem_cons_self))]
  exact e
theorem NwI.same' {a : Addr} {o : HO} {b : Addr} {o' : HO} (_ : NwI G0 H0 G H L rs st) (ga : G a = none) (e : G b = some o') : upd G a o b = some o' := by
  rw [upd_ne (ne_of_none e ga)]
  exact e
theorem NwI.k (h : NwI G0 H0 G H L rs st) (k : Kp (SP0 G0 H0) H J) (s : Grow G0 H0 G J) : NwI G0 H0 G J L rs st :=
  ⟨s, k.k _ _ (fun z => z) h.l, h.o.go (Same.refl _) fun r hr xs e => k.k _ _ (fun z => z) e, h.n, h.h0, h.g⟩
theorem NwI.grow {n : Nat} {G2 H2 : Hp} (h : NwI G0 H0 G H L rs st) (s : Stp (SP0 G0 H0) n G H G2 H2) : NwI G0 H0 G2 H2 L rs st := by
  refine ⟨s.s, s.k.k _ _ (fun z => z) h.l, h.o.go s.g fun r hr xs e => s.k.k _ _ (fun z => z) e, h.n, h.h0, fun r hr => ?_⟩
  cases hz : G2 r with
  | none => rfl
  | some o =>
    rcases s.n r o hz with e | e
    · rw [h.g r hr] at e
      cases e
    · rcases List.mem_cons.mp hr with rfl | hr
      · rw [h.l] at e
        cases e
      · obtain ⟨xs, e'⟩ := h.o.some r hr
        rw [e'] at e
        cases e
theorem NwI.back (hs : Same G0 H0) (h : NwI G0 H0 G H L rs st) {n : Nat} (k : Kp (SP0 G0 H0) H J) (s : (SP0 G0 H0).s n (upd G L (.lst (rs.reverse.map V.ref))) J) : NwI G0 H0 G J L rs st := h.k k ((stab0 G0 H0).anti (n := 0) (m := n) h.sp s h.same)
theorem NwI.out (hs : Same G0 H0) (h : NwI G0 H0 G H L rs st) : Grow G0 H0 G0 H := (stab0 G0 H0).anti (n := 0) (m := 0) (Grow.refl hs) h.sp h.s.g
/-- a list more -/
theorem NwI.push (h : NwI G0 H0 G H L rs st) (k : Kp (SP0 G0 H0) H J) (hr : J r = some (.lst [])) (hr0 : H r = none) (gr : G r = none) (s : Grow G0 H0 G (upd J L (.lst (rs.reverse.map V.ref ++ [.ref r])))) : NwI G0 H0 G (upd J L (.lst (rs.reverse.map V.ref ++ [.ref r]))) L (r :: rs) ([] :: st) := by
  have hl : H L ≠ none := by rw [h.l]; simp
  have rL : r ≠ L := fun e => hl (e ▸ hr0)
  have rr : r ∉ rs := fun hm => by
    obtain ⟨xs, e⟩ := h.o.some r hm
    rw [hr0] at e
    cases e
  have nL : L ∉ rs := (List.nodup_cons.mp h.n).1
  refine ⟨s, ?_, ⟨⟨[], by rw [upd_ne rL]; exact hr, .nil⟩, h.o.go (Same.refl _) fun r' hr' xs e => ?_⟩, ?_, fun r' hm => ?_, fun r' hm => ?_⟩
  · rw [upd_same, List.reverse_cons, List.map_append]
    rfl
  · rw [upd_ne (show r' ≠ L from fun z => nL (z ▸ hr'))]
    exact k.k _ _ (fun z => z) e
  · refine List.nodup_cons.mpr ⟨fun hm => ?_, List.nodup_cons.mpr ⟨rr, (List.nodup_cons.mp h.n).2⟩⟩
    rcases List.mem_cons.mp hm with e | hm
    · exact rL e.symm
    · exact nL hm
  · rcases List.mem_cons.mp hm with rfl | hm
    · exact h.h0 _ List.mem_cons_self
    rcases List.mem_cons.mp hm with rfl | hm
    · cases hz : H0 r' with
      | none => rfl
      | some o =>
        have := h.s.h _ _ hz
        rw [hr0] at this
        cases this
    · exact h.h0 _ (List.mem_cons_of_mem _ hm)
  · rcases List.mem_cons.mp hm with rfl | hm
    · exact h.g _ List.mem_cons_self
    rcases List.mem_cons.mp hm with rfl | hm
    · exact gr
    · exact h.g _ (List.mem_cons_of_mem _ hm)
/-- a word more in the last list -/
theorem NwI.word {ws : List Wd} {xs : List V} {b : Wd} {v : V} (h : NwI G0 H0 G H L (r :: rs) (ws :: st)) (k : Kp (SP0 G0 H0) H J) (hx : H r = some (.lst xs)) (hw : WdsAt ws xs G) (hb : WdAt b v G) (s : Grow G0 H0 G (upd J r (.lst (xs ++ [v])))) : NwI G0 H0 G (upd J r (.lst (xs ++ [v]))) L (r :: rs) ((ws ++ [b]) :: st) := by
  have nL := (List.nodup_cons.mp h.n).1
  have nr := (List.nodup_cons.mp (List.nodup_cons.mp h.n).2).1
  refine ⟨s, ?_, ⟨⟨_, upd_same, hw.snoc hb⟩, h.o.2.go (Same.refl _) fun r' hr' xs' e => ?_⟩, h.n, h.h0, h.g⟩
  · rw [upd_ne (show L ≠ r from fun z => nL (z ▸ List.mem_cons_self))]
    exact k.k _ _ (fun z => z) h.l
  · rw [upd_ne (show r' ≠ r from fun z => nr (z ▸ hr'))]
    exact k.k _ _ (fun z => z) e
/-- the last list is closed -/
theorem NwI.close {ws : List Wd} {xs : List V} (hs : Same G0 H0) (h : NwI G0 H0 G H L (r :: rs) (ws :: st)) (hx : H r = some (.lst xs)) (hw : WdsAt ws xs G) (s : Grow G0 H0 G (upd H L (.lst (rs.reverse.map V.ref)))) : NwI G0 H0 (upd G r (.lst xs)) (upd H L (.lst (rs.reverse.map V.ref))) L rs st ∧ WdAt (.l ws) (.ref r) (upd G r (.lst xs)) := by
  have nL := (List.nodup_cons.mp h.n).1
  have nn := List.nodup_cons.mp (List.nodup_cons.mp h.n).2
  have rm : r ∈ L :: r :: rs := List.mem_cons_of_mem _ List.mem_cons_self
  have rL : r ≠ L := fun z => nL (z ▸ List.mem_cons_self)
  have su : Same G (upd G r (.lst xs)) := fun b o e => by
    rw [upd_ne (ne_of_none e (h.g r rm))]
    exact e
  refine ⟨⟨(stab0 G0 H0).pub (n := 0) (m := 0) (Grow.refl hs) (h.h0 r rm) s (h.g r rm) (by rw [upd_ne rL]; exact hx), upd_same, h.o.2.go su fun r' hr' xs' e => ?_, List.nodup_cons.mpr ⟨fun hm => nL (List.mem_cons_of_mem _ hm), nn.2⟩, fun r' hm => ?_, fun r' hm => ?_⟩, .l upd_same (hw.mono su)⟩
  · rw [upd_ne (show r' ≠ L from fun z => nL (z ▸ List.mem_cons_of_mem _ hr'))]
    exact e
  · rcases List.mem_cons.mp hm with rfl | hm
    · exact h.h0 _ List.mem_cons_self
    · exact h.h0 _ (List.mem_cons_of_mem _ (List.mem_cons_of_mem _ hm))
  · have e : r' ≠ r := by
      rcases List.mem_cons.mp hm with e | hm
      · rw [e]
        exact fun z => rL z.symm
      · exact fun z => nn.1 (z ▸ hm)
    rw [upd_ne e]
    rcases List.mem_cons.mp hm with rfl | hm
    · exact h.g _ List.mem_cons_self
    · exact h.g _ (List.mem_cons_of_mem _ (List.mem_cons_of_mem _ hm))
theorem rev_last {r : Addr} {rs : List Addr} : ((r :: rs).reverse.map V.ref)[rs.length]? = some (.ref r) := by
  rw [List.reverse_cons, List.map_append, List.getElem?_append_right (by simp)]
  simp
theorem rev_drop {r : Addr} {rs : List Addr} : ((r :: rs).reverse.map V.ref).dropLast = rs.reverse.map V.ref := by
  rw [List.reverse_cons, List.map_append]
  exact List.dropLast_concat
end
/-- [[]] -/
theorem ev_lst2 {S : SR} (st : Stab S) {n : Nat} {σ : L2.St} {G : Hp} : Ev S n 0 (tLst (tCons (tLst tNil) tNil)) σ G (fun v G' => ∃ L r, v = .ref L ∧ L ≠ r ∧ G L = none ∧ G r = none ∧ G' L = some (.lst [.ref r]) ∧ G' r = some (.lst [])) := fun G1 H1 s0 s Q q =>
  ea_cons (ev_lstN (vs := []) st ea_nilV (by simp)) ea_nil G1 H1 s0 s _ fun vs G2 H2 s2 e => by
    obtain ⟨_, _, rfl, ⟨r, rfl, fr, gr⟩, e2⟩ := e
    obtain rfl := (show _ = [] from e2)
    refine ⟨by simp [sizeLine], fun p hp => ?_⟩
    have pr : p ≠ r := fun z => by
      have := st.sub s2.s _ _ gr
      rw [← z, hp] at this
      cases this
    exact q (.ref p) _ _ (s2.trans (st.new s2.s hp)) ⟨p, r, rfl, pr, ((s0.trans s2.g).trans (st.sub s2.s)).free hp, fr, upd_same, by rw [upd_ne pr.symm]; exact gr⟩
def sp_nw (CB : Addr) : Sp := fun vs H Q E => ∃ (x : Str) (G : Hp), vs = [.str x] ∧ Same G H ∧ x.length ≤ 20000 ∧ (∀ ws, nw 12 (toks x) = some ws → ∀ v G' H', Grow G H G' H' → WdAt (.l ws) v G' → Q v H') ∧ (nw 12 (toks x) = none → ∀ H', Grow G H G H' → E (.ref CB) none H')
end L2.DS
/-! The words of a label (plain law). -/
namespace L2.DS
open PySem PySem.Spec PyProof.Rows _root_.TL
/-! ### signs -/
def g1S (k : Nat) : List Nat := if k = 40 then [32, 40, 32] else [k]
def g2S (k : Nat) : List Nat := if k = 41 then [32, 41, 32] else [k]
def gS (k : Nat) : List Nat := if k = 40 then [32, 40, 32] else if k = 41 then [32, 41, 32] else [k]
theorem repl_one {c : Nat} {z : List Nat} : ∀ l : List Nat, StrLaws.replL [c] z l = l.flatMap fun k => if k = c then z else [k]
  | [] => StrLaws.replL_nil
  | k :: r => by
    rw [List.flatMap_cons]
    by_cases h : k = c
    · subst h
      rw [StrLaws.replL_hit (by simp) (by simp), if_pos rfl]
      show z ++ StrLaws.replL [k] z r = _
      rw [repl_one r]
    · rw [StrLaws.replL_miss (by simpa using h), if_neg h, repl_one r]
      rfl
theorem gS_is (l : List Nat) : (l.flatMap g1S).flatMap g2S = l.flatMap gS := by
  rw [List.flatMap_assoc]
  congr 1
  funext k
  unfold g1S gS
  by_cases h : k = 40
  · rw [if_pos h, if_pos h]
    decide
  · rw [if_neg h, if_neg h]
    show g2S k ++ [] = _
    rw [List.append_nil]
    rfl
theorem toks_tl (x : Str) : (toks x).map tl = TL.spl [32] 0 [] ((tl x).flatMap gS) := by
  unfold toks
  have a1 : tl (Txt.replace x ("(" : Str) (" ( " : Str)) = (tl x).flatMap g1S := by
    rw [show tl (Txt.replace x ("(" : Str) (" ( " : Str)) = _ from StrLaws.replace_list (by decide +kernel), show ("(" : Str).cps.toList = [40] from by decide +kernel, show (" ( " : Str).cps.toList = [32, 40, 32] from by decide +kernel, repl_one]
    rfl
  have a2 : tl (Txt.replace (Txt.replace x ("(" : Str) (" ( " : Str)) (")" : Str) (" ) " : Str)) = (tl x).flatMap gS := by
    rw [show tl (Txt.replace (Txt.replace x ("(" : Str) (" ( " : Str)) (")" : Str) (" ) " : Str)) = _ from StrLaws.replace_list (by decide +kernel), show (")" : Str).cps.toList = [41] from by decide +kernel, show (" ) " : Str).cps.toList = [32, 41, 32] from by decide +kernel, repl_one]
    show (tl (Txt.replace x ("(" : Str) (" ( " : Str))).flatMap g2S = _
    rw [a1, gS_is]
  have sp : tl (" " : Str) = [32] := by decide +kernel
  rw [split_spl _ _ (by rw [sp]; simp) (by
    have : Builtin.Str.strKind (" " : Str) = 1 := by decide +kernel
    rw [this]
    unfold Builtin.Str.strKind
    split
    · omega
    · split <;> omega), a2, sp]
/-- the words of a text that are not empty -/
def TLw (l : List Nat) : List (List Nat) := (TL.spl [32] 0 [] (l.flatMap gS)).filter (· ≠ [])
def Tk (x : Str) : List Str := (toks x).filter (· ≠ ("" : Str))
theorem tl_nil {x : Str} : x = ("" : Str) ↔ tl x = [] := ⟨fun h => by rw [h]; decide +kernel, fun h => ext_tl (by rw [h]; decide +kernel)⟩
theorem Tk_tl (x : Str) : (Tk x).map tl = TLw (tl x) := by
  unfold Tk TLw
  rw [← toks_tl, List.filter_map]
  congr 1
  apply List.filter_congr
  intro a _
  show decide (a ≠ ("" : Str)) = decide (tl a ≠ [])
  exact decide_eq_decide.mpr (not_congr tl_nil)
theorem spl_app {b : List Nat} : ∀ (a acc : List Nat), TL.spl [32] 0 acc (a ++ 32 :: b) = TL.spl [32] 0 acc a ++ TL.spl [32] 0 [] b
  | [], acc => by
    rw [List.nil_append, spl_hit (by simp [pre]), spl_nil]
    rfl
  | c :: r, acc => by
    by_cases h : c = 32
    · subst h
      rw [List.cons_append, spl_hit (by simp [pre]), spl_hit (by simp [pre])]
      show acc :: TL.spl [32] 0 [] (r ++ 32 :: b) = acc :: TL.spl [32] 0 [] r ++ _
      rw [spl_app r]
      rfl
    · have hp : ∀ q, pre [32] (c :: q) = false := fun q => by simp [pre, h]
      rw [List.cons_append, spl_miss (hp _), spl_miss (hp _), spl_app r]
theorem TLw_sp (a b : List Nat) : TLw (a ++ 32 :: b) = TLw a ++ TLw b := by
  unfold TLw
  rw [List.flatMap_append, List.flatMap_cons, show gS 32 = [32] from by decide]
  show (TL.spl [32] 0 [] (a.flatMap gS ++ 32 :: b.flatMap gS)).filter _ = _
  rw [spl_app, List.filter_append]
theorem TLw_par {c : Nat} (hc : c = 40 ∨ c = 41) (a b : List Nat) : TLw (a ++ c :: b) = TLw a ++ [c] :: TLw b := by
  unfold TLw
  have e : gS c = [32, c, 32] := by rcases hc with rfl | rfl <;> decide
  rw [List.flatMap_append, List.flatMap_cons, e]
  show (TL.spl [32] 0 [] (a.flatMap gS ++ 32 :: ([c] ++ 32 :: b.flatMap gS))).filter _ = _
  rw [spl_app, spl_app, show TL.spl [32] 0 [] [c] = [[c]] from by rcases hc with rfl | rfl <;> decide, List.filter_append]
  rfl
theorem TLw_nil : TLw [] = [] := by decide
/-- no blank, no parenthesis -/
def plW (l : List Nat) : Prop := l ≠ [] ∧ ∀ k ∈ l, k ≠ 32 ∧ k ≠ 40 ∧ k ≠ 41
theorem TLw_word {l : List Nat} (h : plW l) : TLw l = [l] := by
  have e : l.flatMap gS = l := by
    have : ∀ l : List Nat, (∀ k ∈ l, k ≠ 32 ∧ k ≠ 40 ∧ k ≠ 41) → l.flatMap gS = l := fun l => by
      induction l with
      | nil => exact fun _ => rfl
      | cons k r ih =>
        intro h
        have hk := h k List.mem_cons_self
        rw [List.flatMap_cons, ih fun x hx => h x (List.mem_cons_of_mem _ hx)]
        unfold gS
        rw [if_neg hk.2.1, if_neg hk.2.2]
        rfl
    exact this l h.2
  unfold TLw
  rw [e, spl_last1 (s := 32) (S := []) fun m => (h.2 32 m).1 rfl, List.nil_append]
  simp [h.1]
/-! ### texts -/
theorem Tk_sp (a b : Str) : Tk (a ++ (" " : Str) ++ b) = Tk a ++ Tk b := map_tl_inj (by
  rw [List.map_append, Tk_tl, Tk_tl, Tk_tl, tl_append, tl_append, show tl (" " : Str) = [32] from by decide +kernel, List.append_assoc]
  exact TLw_sp _ _)
theorem Tk_nil : Tk ("" : Str) = [] := map_tl_inj (by
  rw [Tk_tl, show tl ("" : Str) = [] from by decide +kernel]
  exact TLw_nil)
def PlW (s : Str) : Prop := plW (tl s)
theorem Tk_word {s : Str} (h : PlW s) : Tk s = [s] := map_tl_inj (by rw [Tk_tl, TLw_word h]; rfl)
theorem Tk_join : ∀ {ws : List Str}, (∀ s ∈ ws, PlW s) → Tk (Txt.join (" " : Str) ws) = ws
  | [], _ => Tk_nil
  | [a], h => Tk_word (h a List.mem_cons_self)
  | a :: b :: r, h => by
    have e : Txt.join (" " : Str) (a :: b :: r) = a ++ (" " : Str) ++ Txt.join (" " : Str) (b :: r) := by
      show Builtin.Str.glued _ _ = _ ++ _ ++ Builtin.Str.glued _ _
      rw [StrLaws.glued_eq_join, StrLaws.glued_eq_join]
      rfl
    rw [e, Tk_sp, Tk_word (h a List.mem_cons_self), Tk_join fun s hs => h s (List.mem_cons_of_mem _ hs)]
    rfl
theorem Tk_joins : ∀ ws : List Str, Tk (Txt.join (" " : Str) ws) = ws.flatMap Tk
  | [] => Tk_nil
  | [a] => by
    show Tk a = Tk a ++ []
    rw [List.append_nil]
  | a :: b :: r => by
    have e : Txt.join (" " : Str) (a :: b :: r) = a ++ (" " : Str) ++ Txt.join (" " : Str) (b :: r) := by
      show Builtin.Str.glued _ _ = _ ++ _ ++ Builtin.Str.glued _ _
      rw [StrLaws.glued_eq_join, StrLaws.glued_eq_join]
      rfl
    rw [e, Tk_sp, Tk_joins (b :: r)]
    rfl
/-! ### words in lists, written -/
mutual
def tkW : Wd → List Str
  | .w s => [s]
  | .l ws => ("(" : Str) :: (tkWs ws ++ [(")" : Str)])
def tkWs : List Wd → List Str
  | [] => []
  | a :: r => tkW a ++ tkWs r
end
mutual
def dpW : Wd → Nat
  | .w _ => 0
  | .l ws => dpWs ws + 1
def dpWs : List Wd → Nat
  | [] => 0
  | a :: r => max (dpW a) (dpWs r)
end
mutual
def PlWd : Wd → Prop
  | .w s => PlW s
  | .l ws => PlWds ws
def PlWds : List Wd → Prop
  | [] => True
  | a :: r => PlWd a ∧ PlWds r
end
theorem PlW.ne {s : Str} (h : PlW s) : s ≠ ("(" : Str) ∧ s ≠ (")" : Str) ∧ s ≠ ("" : Str) := by
  refine ⟨fun e => ?_, fun e => ?_, fun e => ?_⟩
  · have := h.2 40 (by rw [e]; decide +kernel)
    exact this.2.1 rfl
  · have := h.2 41 (by rw [e]; decide +kernel)
    exact this.2.2 rfl
  · exact h.1 (by rw [e]; decide +kernel)
mutual
theorem run_tkW {D : Nat} {rest : List Str} : ∀ {w : Wd} {a : List Wd} {st : List (List Wd)}, PlWd w → dpW w + st.length + 1 ≤ D → nwRun D (tkW w ++ rest) (a :: st) = nwRun D rest ((a ++ [w]) :: st)
  | .w s, a, st, h, hd => by
    unfold PlWd at h
    unfold dpW at hd
    obtain ⟨h1, h2, h3⟩ := h.ne
    unfold tkW
    show (nwStep D s (a :: st)).bind (nwRun D rest) = _
    unfold nwStep nwOp
    rw [if_neg h1, if_neg h2, if_neg h3]
    show ((if ((a ++ [.w s]) :: st).length ≤ D then some ((a ++ [.w s]) :: st) else none).bind _) = _
    rw [if_pos (by rw [List.length_cons]; omega)]
    rfl
  | .l ws, a, st, h, hd => by
    unfold PlWd at h
    unfold dpW at hd
    unfold tkW
    rw [List.cons_append, List.append_assoc]
    show (nwStep D ("(" : Str) (a :: st)).bind (nwRun D (tkWs ws ++ ([(")" : Str)] ++ rest))) = _
    unfold nwStep nwOp
    rw [if_pos rfl]
    show ((if ([] :: a :: st).length ≤ D then some ([] :: a :: st) else none).bind _) = _
    rw [if_pos (by rw [List.length_cons, List.length_cons]; omega)]
    show nwRun D (tkWs ws ++ ([(")" : Str)] ++ rest)) ([] :: a :: st) = _
    rw [run_tkWs h (by rw [List.length_cons]; omega), List.nil_append]
    show (nwStep D (")" : Str) (ws :: a :: st)).bind (nwRun D rest) = _
    unfold nwStep nwOp
    rw [if_neg (by decide +kernel), if_pos rfl]
    show ((if ((a ++ [.l ws]) :: st).length ≤ D then some ((a ++ [.l ws]) :: st) else none).bind _) = _
    rw [if_pos (by rw [List.length_cons]; omega)]
    rfl
theorem run_tkWs {D : Nat} {rest : List Str} : ∀ {ws : List Wd} {a : List Wd} {st : List (List Wd)}, PlWds ws → dpWs ws + st.length + 1 ≤ D → nwRun D (tkWs ws ++ rest) (a :: st) = nwRun D rest ((a ++ ws) :: st)
  | [], a, st, _, _ => by
    unfold tkWs
    rw [List.nil_append, List.append_nil]
  | w :: r, a, st, h, hd => by
    unfold PlWds at h
    unfold dpWs at hd
    unfold tkWs
    rw [List.append_assoc, run_tkW h.1 (by omega), run_tkWs h.2 (by omega), List.append_assoc]
    rfl
end
theorem nwRun_filter {D : Nat} : ∀ (ts : List Str) (st : List (List Wd)), st.length ≤ D → nwRun D ts st = nwRun D (ts.filter (· ≠ ("" : Str))) st
  | [], _, _ => rfl
  | t :: r, st, h => by
    by_cases e : t = ("" : Str)
    · rw [List.filter_cons_of_neg (by simpa using e)]
      show (nwStep D t st).bind _ = _
      unfold nwStep nwOp
      rw [if_neg (by rw [e]; decide +kernel), if_neg (by rw [e]; decide +kernel), if_pos e]
      show ((if st.length ≤ D then some st else none).bind _) = _
      rw [if_pos h]
      exact nwRun_filter r st h
    · rw [List.filter_cons_of_pos (by simpa using e)]
      show (nwStep D t st).bind _ = (nwStep D t st).bind _
      cases hz : nwStep D t st with
      | none => rfl
      | some s2 =>
        have hl : s2.length ≤ D := by
          unfold nwStep at hz
          cases hy : nwOp t st with
          | none =>
            rw [hy] at hz
            cases hz
          | some s3 =>
            rw [hy] at hz
            replace hz : (if s3.length ≤ D then some s3 else none) = some s2 := hz
            split at hz
            · rw [← Option.some.inj hz]
              assumption
            · cases hz
        exact nwRun_filter r s2 hl
theorem nw_of {D : Nat} {x : Str} {ws : List Wd} (h : Tk x = tkWs ws) (p : PlWds ws) (hd : dpWs ws + 1 ≤ D) : nw D (toks x) = some ws := by
  unfold nw
  rw [nwRun_filter _ _ (by simp; omega)]
  show (nwRun D (Tk x) [[]]).bind _ = _
  rw [h, ← List.append_nil (tkWs ws), run_tkWs p (by simpa using hd)]
  rfl
theorem tkWs_map (l : List Str) : tkWs (l.map Wd.w) = l := by
  induction l with
  | nil => unfold tkWs; rfl
  | cons a r ih =>
    rw [List.map_cons]
    unfold tkWs tkW
    rw [ih]
    rfl
theorem PlWds_map {l : List Str} (h : ∀ s ∈ l, PlW s) : PlWds (l.map Wd.w) := by
  induction l with
  | nil => unfold PlWds; trivial
  | cons a r ih =>
    rw [List.map_cons]
    unfold PlWds PlWd
    exact ⟨h a List.mem_cons_self, ih fun s hs => h s (List.mem_cons_of_mem _ hs)⟩
theorem dpWs_map (l : List Str) : dpWs (l.map Wd.w) = 0 := by
  induction l with
  | nil => unfold dpWs; rfl
  | cons a r ih =>
    rw [List.map_cons]
    unfold dpWs dpW
    rw [ih]
    rfl
theorem WdsAt.strs : ∀ {l : List Str} {xs : List V} {G : Hp}, WdsAt (l.map Wd.w) xs G → xs = l.map V.str
  | [], _, _, h => h.of_nil
  | a :: r, _, _, h => by
    obtain ⟨x, ys, rfl, h1, h2⟩ := h.of_cons
    rw [h1.of_w, h2.strs]
    rfl
/-! ### the label of a table -/
def wdTb (names : List Str) (never still : Str) (joins products : List (List Str)) : Wd := .l [.w ("table" : Str), .l (names.map Wd.w), .w never, .w still, .l (joins.flatten.map Wd.w), .l (products.flatten.map Wd.w)]
theorem Tk_joinR {rows : List (List Str)} (h : ∀ r ∈ rows, ∀ s ∈ r, PlW s) : Tk (joinR rows) = rows.flatten := by
  unfold joinR
  rw [Tk_joins, List.flatMap_map]
  induction rows with
  | nil => rfl
  | cons a r ih =>
    rw [List.flatMap_cons, List.flatten_cons, ih fun x hx => h x (List.mem_cons_of_mem _ hx), Tk_join (h a List.mem_cons_self)]
theorem Tk_tbLab {names : List Str} {never still : Str} {joins products : List (List Str)} (hn : ∀ s ∈ names, PlW s) (h1 : PlW never) (h2 : PlW still) (hj : ∀ r ∈ joins, ∀ s ∈ r, PlW s) (hp : ∀ r ∈ products, ∀ s ∈ r, PlW s) : Tk (tbLab names never still joins products) = tkWs [wdTb names never still joins products] := map_tl_inj (by
  have eN : TLw (tl (Txt.join (" " : Str) names)) = names.map tl := by rw [← Tk_tl, Tk_join hn]
  have eJ : TLw (tl (joinR joins)) = joins.flatten.map tl := by rw [← Tk_tl, Tk_joinR hj]
  have eP : TLw (tl (joinR products)) = products.flatten.map tl := by rw [← Tk_tl, Tk_joinR hp]
  have e1 : TLw (tl never) = [tl never] := TLw_word h1
  have e2 : TLw (tl still) = [tl still] := TLw_word h2
  have e3 : TLw [116, 97, 98, 108, 101] = [[116, 97, 98, 108, 101]] := TLw_word (by constructor <;> decide)
  have lit : tl ("(table (" : Str) = [40, 116, 97, 98, 108, 101, 32, 40] ∧ tl (") " : Str) = [41, 32] ∧ tl (" " : Str) = [32] ∧ tl (" (" : Str) = [32, 40] ∧ tl (") (" : Str) = [41, 32, 40] ∧ tl ("))" : Str) = [41, 41] ∧ tl ("(" : Str) = [40] ∧ tl (")" : Str) = [41] ∧ tl ("table" : Str) = [116, 97, 98, 108, 101] := by decide +kernel
  obtain ⟨l1, l2, l3, l4, l5, l6, l7, l8, l9⟩ := lit
  rw [Tk_tl]
  unfold tbLab
  simp only [tl_append, l1, l2, l3, l4, l5, l6, List.append_assoc, List.cons_append, List.nil_append]
  show TLw ([] ++ 40 :: ([116, 97, 98, 108, 101] ++ 32 :: ([] ++ 40 :: (tl (Txt.join (" " : Str) names) ++ 41 :: ([] ++ 32 :: (tl never ++ 32 :: (tl still ++ 32 :: ([] ++ 40 :: (tl (joinR joins) ++ 41 :: ([] ++ 32 :: ([] ++ 40 :: (tl (joinR products) ++ 41 :: ([] ++ 41 :: []))))))))))))) = _
  rw [TLw_par (.inl rfl), TLw_sp, TLw_par (.inl rfl), TLw_par (.inr rfl), TLw_sp, TLw_sp, TLw_sp, TLw_par (.inl rfl), TLw_par (.inr rfl), TLw_sp, TLw_par (.inl rfl), TLw_par (.inr rfl), TLw_par (.inr rfl), TLw_nil, eN, eJ, eP, e1, e2, e3]
  unfold wdTb
  simp only [tkWs, tkW, tkWs_map, List.map_append, List.map_cons, List.map_nil, List.append_nil, List.nil_append, List.cons_append, List.append_assoc, l7, l8, l9])
theorem nw_tbLab {names : List Str} {never still : Str} {joins products : List (List Str)} (hn : ∀ s ∈ names, PlW s) (h1 : PlW never) (h2 : PlW still) (hj : ∀ r ∈ joins, ∀ s ∈ r, PlW s) (hp : ∀ r ∈ products, ∀ s ∈ r, PlW s) : nw 12 (toks (tbLab names never still joins products)) = some [wdTb names never still joins products] := by
  refine nw_of (Tk_tbLab hn h1 h2 hj hp) ?_ ?_
  · unfold wdTb
    simp only [PlWds, PlWd]
    have : PlW ("table" : Str) := by constructor <;> decide +kernel
    have fl : ∀ {rows : List (List Str)}, (∀ r ∈ rows, ∀ s ∈ r, PlW s) → ∀ s ∈ rows.flatten, PlW s := fun h s hs => by
      obtain ⟨r, hr, hs⟩ := List.mem_flatten.mp hs
      exact h r hr s hs
    exact ⟨⟨this, PlWds_map hn, h1, h2, PlWds_map (fl hj), PlWds_map (fl hp), trivial⟩, trivial⟩
  · unfold wdTb
    simp only [dpWs, dpW, dpWs_map]
    decide
end L2.DS
/-! Rows cut from a list; tables read. -/
namespace L2.DS
open PySem PySem.Spec PyProof.Rows
theorem lc_rangeC {lo c : Int} {n : Nat} {g : TG} {tt : TT} {te : TE} {vs : List Nat} {σ : L2.St} {H1 : Hp} {D : Addr} {Qd : Hp → Prop} (Pv : Nat → Hp → Prop) (h0 : Pv 0 (upd H1 D (.lst [])))
    (hs : ∀ i H, i < n → Pv i H → g (.int (lo + (i : Nat) * c)) (wipe σ vs) H fun σ2 H2 => wipe σ2 vs = wipe σ vs ∧ tt σ2 H2 fun b H3 =>
      if b = true then te σ2 H3 fun y H4 => ∃ acc, H4 D = some (.lst acc) ∧ acc.length < sizeLine ∧ Pv (i + 1) (upd H4 D (.lst (acc ++ [y]))) else Pv (i + 1) H3) (hd : ∀ H, Pv n H → Qd H) :
    ∃ W : Nat → Nat → Hp → Prop, (∃ m, W 0 m (upd H1 D (.lst []))) ∧ ∀ i m H, W i m H →
      ((Itc lo c n).stop i H ∧ Qd H) ∨ ((Itc lo c n).go i H ∧ ∃ Nx : Hp → Prop, (∀ H', Nx H' → ∃ m', m' < m ∧ W (i + 1) m' H') ∧ ∀ x H', (Itc lo c n).yld i H x H' → g x (wipe σ vs) H' fun σ2 H2 => wipe σ2 vs = wipe σ vs ∧ tt σ2 H2 fun b H3 =>
        if b = true then te σ2 H3 fun y H4 => ∃ acc, H4 D = some (.lst acc) ∧ acc.length < sizeLine ∧ Nx (upd H4 D (.lst (acc ++ [y]))) else Nx H3) := by
  refine ⟨fun i m H => m = n - i ∧ i ≤ n ∧ Pv i H, ⟨n, by simp, Nat.zero_le _, h0⟩, ?_⟩
  rintro i m H ⟨rfl, hi, p⟩
  by_cases hlt : i < n
  · refine .inr ⟨hlt, Pv (i + 1), fun H' p' => ⟨n - (i + 1), by omega, rfl, hlt, p'⟩, fun x H' y => ?_⟩
    obtain ⟨e, y⟩ := y
    subst e y
    exact hs i _ hlt p
  · have e : i = n := by omega
    subst e
    exact .inl ⟨Nat.le_refl _, hd H p⟩
section
variable {S : SR} {n k ka kb kc i c1 : Nat} {te el : TE} {tl th : TO} {σ : L2.St} {G : Hp} {K : PySem.W.Frag} {vs : List Nat} {lo hi : Option Int} {p : Addr} {xs : List V}
/-- [el for x in range(lo, hi, c)] -/
theorem ev_lcC {l0 h0 c : Int} {m : Nat} {ta : TA} (st : Stab S) (R : Nat → HR) [∀ i, Mon (R i)] (e : EvA S n k ta σ G (IsVs [.int l0, .int h0, .int c])) (hr : RgC l0 h0 c m) (hl : m ≤ 100000)
    (hs : ∀ (j : Nat) G', j < m → Same G G' → Ev S (n + k + c1 * j) c1 el ((wipe σ vs).set i (some (.int (l0 + (j : Nat) * c)))) G' (R j)) (hw : ∀ x : V, wipe ((wipe σ vs).set i (some x)) vs = wipe σ vs) :
    Ev S n (k + c1 * m) (tLc (iRng3 ta) (gName i) tYes el vs) σ G (IsLN G m R) := fun G1 H1 s0 s Q q =>
  e G1 H1 s0 s _ fun v G2 H2 s2 ev => ⟨l0, h0, c, m, ev, hr, fun D hD =>
    lc_rangeC (LcP S G2 H2 (n + k) c1 R D) (lc_start st s2.s hD)
      (fun j J hx h => ⟨hw _, lc_turn st s2.s hD h (by omega) (fun G' g => hs j G' hx ((s0.trans s2.g).trans g)) fun _ h => h⟩)
      fun J h => lc_end st s2 hD h fun v G' H' a b => q v G' H' (by rw [← Nat.add_assoc]; exact a) (b.wk s0)⟩
theorem ev_lcC0 {l0 h0 c : Int} {m : Nat} {ta : TA} (st : Stab S) (R : Nat → HR) [∀ i, Mon (R i)] (e : EvA S n k ta σ G (IsVs [.int l0, .int h0, .int c])) (hr : RgC l0 h0 c m) (hl : m ≤ 100000)
    (hs : ∀ (j : Nat) G', j < m → Same G G' → Ev S (n + k) 0 el ((wipe σ vs).set i (some (.int (l0 + (j : Nat) * c)))) G' (R j)) (hw : ∀ x : V, wipe ((wipe σ vs).set i (some x)) vs = wipe σ vs) :
    Ev S n k (tLc (iRng3 ta) (gName i) tYes el vs) σ G (IsLN G m R) := by
  have := ev_lcC (c1 := 0) st R e hr hl (fun j G' hj s => by rw [Nat.zero_mul]; exact hs j G' hj s) hw
  rw [Nat.zero_mul] at this
  exact this
/-- l[lo:hi] -/
theorem ev_slLN (st : Stab S) (h : Ev S n ka te σ G (IsV (.ref p))) (hq : SqL K G p xs) (h1 : EvO S (n + ka) kb tl σ G lo) (h2 : EvO S (n + ka + kb) kc th σ G hi) :
    Ev S n (ka + kb + kc) (tSl (rSlL K) te tl th) σ G (IsNew G (.lst (cutV xs lo hi))) := fun G1 H1 s0 s Q q =>
  h G1 H1 s0 s _ fun v G2 H2 s2 e => h1 G2 H2 (s0.trans s2.g) s2.s _ fun G3 H3 s3 => h2 G3 H3 ((s0.trans s2.g).trans s3.g) s3.s _ fun G4 H4 s4 => by
    obtain rfl := (show _ = _ from e)
    have t := (s2.trans s3).trans s4
    have g4 : Same G G4 := s0.trans t.g
    refine ⟨p, xs, rfl, (g4.trans (st.sub t.s)).seq hq, fun q' hp => ?_⟩
    have nn := st.new (o := .lst (cutV xs lo hi)) t.s hp
    have tt : Stp S (n + (ka + kb + kc)) G1 H1 (upd G4 q' (.lst (cutV xs lo hi))) (upd H4 q' (.lst (cutV xs lo hi))) := by
      have := t.trans nn
      rw [show n + ka + kb + kc = n + (ka + kb + kc) by omega] at this
      exact this
    exact q (.ref q') _ _ tt ⟨q', rfl, (g4.trans (st.sub t.s)).free hp, upd_same⟩
end
theorem cutV_nat {xs : List V} {a b : Nat} (h1 : a ≤ b) (h2 : b ≤ xs.length) : cutV xs (some ((a : Nat) : Int)) (some ((b : Nat) : Int)) = (xs.drop a).take (b - a) := by
  unfold cutV
  rw [HT.sIx_nat, HT.sIx_nat, Nat.min_eq_left h2, Nat.min_eq_left (show a ≤ xs.length by omega)]
theorem rgC_sq {m : Nat} (h1 : 1 ≤ m) (h2 : m ≤ 1000) : RgC 0 ((m * m : Nat) : Int) ((m : Nat) : Int) m := by
  have mm : m * m ≤ 1000 * 1000 := Nat.mul_le_mul h2 h2
  have m1 : 1 * 1 ≤ m * m := Nat.mul_le_mul h1 h1
  have sz : Builtin.Range.rangeSize 0 ((m * m : Nat) : Int) ((m : Nat) : Int) = ((m : Nat) : Int) := by
    unfold Builtin.Range.rangeSize
    rw [if_pos (by omega), if_pos (by omega)]
    have e : (((m * m : Nat) : Int) - 0 - 1) / ((m : Nat) : Int) = ((m - 1 : Nat) : Int) := by
      have h : (m * m - 1) / m = m - 1 := by
        have : m * m - 1 = (m - 1) * m + (m - 1) := by
          rw [Nat.sub_mul, Nat.one_mul]
          have : m ≤ m * m := Nat.le_mul_of_pos_left m h1
          omega
        rw [this, Nat.mul_comm, Nat.mul_add_div h1, Nat.div_eq_of_lt (by omega), Nat.add_zero]
      rw [show (((m * m : Nat) : Int) - 0 - 1) = ((m * m - 1 : Nat) : Int) by omega, ← h]
      exact (Int.natCast_ediv _ _).symm
    rw [e]
    omega
  refine ⟨by omega, by omega, ?_, sz⟩
  unfold Builtin.Range.small
  rw [sz]
  simp only [Builtin.Range.rangeFitsLong, Bool.and_eq_true, Bool.or_eq_true, decide_eq_true_eq, beq_iff_eq]
  rw [if_pos (show ((m : Nat) : Int) > 0 by omega)]
  simp only [Bool.and_eq_true, Bool.or_eq_true, decide_eq_true_eq]
  omega
/-- rows cut from a flat list -/
theorem flat_rows {α : Type} {m : Nat} : ∀ {rows : List (List α)} {r : Nat}, (∀ x ∈ rows, x.length = m) → r < rows.length → (rows.flatten.drop (r * m)).take m = rows.getD r []
  | [], r, _, h => absurd h (Nat.not_lt_zero _)
  | a :: l, 0, h, _ => by
    rw [Nat.zero_mul, List.drop_zero, List.flatten_cons, List.take_append_of_le_length (by rw [h a List.mem_cons_self]; exact Nat.le_refl _), List.take_of_length_le (by rw [h a List.mem_cons_self]; exact Nat.le_refl _)]
    rfl
  | a :: l, r + 1, h, hr => by
    rw [List.flatten_cons, Nat.succ_mul, Nat.add_comm, List.drop_append, h a List.mem_cons_self, List.drop_of_length_le (by rw [h a List.mem_cons_self]; omega), List.nil_append, show m + r * m - m = r * m by omega, flat_rows (fun x hx => h x (List.mem_cons_of_mem _ hx)) (by simpa using hr)]
    rfl
theorem flat_lenM {α : Type} {m : Nat} : ∀ {rows : List (List α)}, (∀ x ∈ rows, x.length = m) → rows.flatten.length = rows.length * m
  | [], _ => by simp
  | a :: l, h => by
    rw [List.flatten_cons, List.length_append, h a List.mem_cons_self, flat_lenM fun x hx => h x (List.mem_cons_of_mem _ hx), List.length_cons, Nat.succ_mul, Nat.add_comm]
theorem sgn_no : sgn 32 = false ∧ sgn 40 = false ∧ sgn 41 = false := by decide +kernel
theorem okNm_pl {nm : Str} (h : okNm nm = true) : PlW nm := by
  obtain ⟨h1, h2⟩ := okNm_len h
  unfold okNm at h
  rw [Bool.and_eq_true] at h
  have ha := List.all_eq_true.mp h.2
  refine ⟨fun e => ?_, fun k hk => ?_⟩
  · have : nm.length = 0 := by rw [_root_.TL.len_tl, e]; rfl
    omega
  · have := ha (sgn k) (List.mem_map_of_mem hk)
    refine ⟨fun e => ?_, fun e => ?_, fun e => ?_⟩
    · rw [e, sgn_no.1] at this
      cases this
    · rw [e, sgn_no.2.1] at this
      cases this
    · rw [e, sgn_no.2.2] at this
      cases this
section
variable {S : SR} {n k ka kb : Nat} {te tn tj tp t1 t2 : TE} {σ : L2.St} {G : Hp} {K : PySem.W.Frag} {Cs : List Addr} {CT : Addr} {E : XK} {names : List Str} {nv sl : Nat} {th jn : Nat → Nat → Int}
theorem c_isiS (st : Stab S) {s : Str} : RC S (rIsi K) [.str s, .ty "str"] G (IsV (.bl true)) := c_isiD st (.str s) (by decide)
theorem c_isiL (st : Stab S) {p : Addr} {ws : List Str} (h : G p = some (.lst (ws.map V.str))) : RC S (rIsi K) [.ref p, .ty "str"] G (IsV (.bl false)) := c_isiD (d := rowD ws) st (.lst (SqL.of h) (dp_strs ws)) (by decide)
theorem ev_mkTabB (st : Stab S) (iT : CT ∈ Cs) (oT : ClsOk K CT) (T : TbIs names nv sl th jn) (en : Ev S n 0 tn σ G (IsBl (names.map V.str))) (ej : Ev S n 0 tj σ G (fun v G' => ∃ p, v = .ref p ∧ TabS G' p (rowsS names jn))) (ep : Ev S n 0 tp σ G (fun v G' => ∃ p, v = .ref p ∧ TabS G' p (rowsS names th)))
    (e1 : Ev S n 0 t1 σ G (IsV (.str (names.getD nv ("" : Str))))) (e2 : Ev S n 0 t2 σ G (IsV (.str (names.getD sl ("" : Str))))) :
    Ev S n 0 (tMakeK CT 3 2 (spI (PTbI CT)) (fun vs zs => vs ++ zs) E (tCons tn (tCons tj (tCons tp tNil))) (tCons t1 (tCons t2 tNil))) σ G (fun v G' => ∃ x, v = .ref x ∧ ScD K Cs (tabSD names nv sl th jn) x G') := by
  have mj : Mon (fun v G' => ∃ p, v = V.ref p ∧ TabS G' p (rowsS names jn)) := ⟨fun s ⟨p, e, h⟩ => ⟨p, e, h.mono s⟩⟩
  have mp : Mon (fun v G' => ∃ p, v = V.ref p ∧ TabS G' p (rowsS names th)) := ⟨fun s ⟨p, e, h⟩ => ⟨p, e, h.mono s⟩⟩
  have ms : Mons (RCons (IsBl (names.map V.str)) (RCons (fun v G' => ∃ p, v = V.ref p ∧ TabS G' p (rowsS names jn)) (RCons (fun v G' => ∃ p, v = V.ref p ∧ TabS G' p (rowsS names th)) RNil))) := inferInstance
  refine (ev_makeKR (ka := 0) (kb := 0) (R := fun _ _ fs' G' => ScIs (tbLab names (names.getD nv ("" : Str)) (names.getD sl ("" : Str)) (rowsS names jn) (rowsS names th)) names (names.idxOf (names.getD nv ("" : Str)) : Nat) (names.idxOf (names.getD sl ("" : Str)) : Nat) 1 (idxT names (rowsS names th)) (idxT names (rowsS names jn)) fs' G' ∧ (∀ f, f ∉ scF → f ∉ tbF → fs'.lookup f = none)) (RA := RCons (IsBl (names.map V.str)) (RCons (fun v G' => ∃ p, v = V.ref p ∧ TabS G' p (rowsS names jn)) (RCons (fun v G' => ∃ p, v = V.ref p ∧ TabS G' p (rowsS names th)) RNil))) (zs := [.str (names.getD nv ("" : Str)), .str (names.getD sl ("" : Str))]) st (ea_cons en (ea_cons ej (ea_cons ep ea_nil))) (ea_consV e1 (ea_consV e2 ea_nilV)) (fun vs G' h => ?_) rfl fun vs G' s' h => ?_).imp fun v G' s' h => ?_
  · obtain ⟨_, _, rfl, _, _, _, rfl, _, _, _, rfl, _, e⟩ := h
    obtain rfl := (show _ = [] from e)
    rfl
  · obtain ⟨_, _, rfl, ⟨a, rfl, ga⟩, _, _, rfl, ⟨b, rfl, tb⟩, _, _, rfl, ⟨c, rfl, tc⟩, e⟩ := h
    obtain rfl := (show _ = [] from e)
    exact ⟨_, fun x => rfl, rfl, rfl, a, b, c, names, rowsS names jn, rowsS names th, _, _, rfl, ga, tb, tc, T.tb, rfl⟩
  · obtain ⟨x, e, hx⟩ := ScC.of h fun a b fs' G2 h => ⟨h.1, fun f hf => h.2 f (by revert f; decide +kernel) (by revert f; decide +kernel)⟩
    exact ⟨x, e, T.scd ⟨CT, iT, oT, hx⟩⟩
end
section
variable {S : SR} {n k : Nat} {te : TE} {ta : TA} {tb u : TS} {σ : L2.St} {G H F : Hp} {nx bk ct : L2.St → Hp → Prop} {rt : VK} {K : PySem.W.Frag} {g : TG} {xs : List V} {RA : HRs} {i j : Nat}
/-- for .. in a tuple that is newly made -/
theorem q_forNT (st : Stab S) (s : S n G H) (e : Ev S n k te σ G (IsNew F (.tup xs))) (Pv : Nat → L2.St → Prop) (h0 : Pv 0 σ)
    (hs : ∀ G2 H2, Stp S (n + k) G H G2 H2 → ∀ (j : Nat) x σ' J, xs[j]? = some x → Pv j σ' → Stp S (n + k) G2 H2 G2 J → g x σ' J fun σ2 J2 => tb (Ends.mk (fun τ J => Pv (j + 1) τ ∧ Stp S (n + k) G2 H2 G2 J) rt (u (Ends.mk nx rt bk ct)) (fun τ J => Pv (j + 1) τ ∧ Stp S (n + k) G2 H2 G2 J)) σ2 J2)
    (hd : ∀ G2 H2, Stp S (n + k) G H G2 H2 → ∀ σ' J, Pv xs.length σ' → Stp S (n + k) G2 H2 G2 J → u (Ends.mk nx rt bk ct) σ' J) : tSeq (tFor (iTup K te) g tb) u (Ends.mk nx rt bk ct) σ H := by
  refine e G H (Same.refl _) s _ fun v G1 H1 s1 ev => ?_
  obtain ⟨p, rfl, _, gp⟩ := ev
  exact ⟨p, rfl, ⟨xs, SqT.of (st.sub s1.s _ _ gp)⟩, for_tup (K := K) (a := p) (xs := xs) (fun j τ J => Pv j τ ∧ Stp S (n + k) G1 H1 G1 J) ⟨h0, Stp.refl s1.s⟩ (fun j τ J _ hp => SqT.of (st.sub hp.2.s _ _ gp)) (fun j x τ J hx hp => hs G1 H1 s1 j x τ J hx hp.1 hp.2) fun τ J hp => hd G1 H1 s1 τ J hp.1 hp.2⟩
/-- a, b = .., .. -/
theorem q_par (s : S n G H) (e : EvA S n k ta σ G RA) (h : ∀ vs G' H', Stp S (n + k) G H G' H' → RA vs G' → ∃ v w, vs = [v, w] ∧ u (Ends.mk nx rt bk ct) ((σ.set i (some v)).set j (some w)) H') : tSeq (tPar i j ta) u (Ends.mk nx rt bk ct) σ H := e G H (Same.refl _) s _ h
end
def IsTabS (rows : List (List Str)) : HR := fun v G' => ∃ q, v = .ref q ∧ TabS G' q rows
instance (rows) : Mon (IsTabS rows) := ⟨fun s ⟨q, e, h⟩ => ⟨q, e, h.mono s⟩⟩
theorem rowsS_len {names : List Str} {f : Nat → Nat → Int} : (rowsS names f).length = names.length ∧ ∀ r ∈ rowsS names f, r.length = names.length := by
  unfold rowsS
  refine ⟨by simp, fun r hr => ?_⟩
  obtain ⟨a, _, rfl⟩ := List.mem_map.mp hr
  simp
/-! ### promises -/
def PSq : List V → Hp → HR → Prop := fun vs G R => ∃ (p : Addr) (m : Nat) (rows : List (List Str)), vs = [.ref p, .int (m : Nat)] ∧ G p = some (.lst (rows.flatten.map V.str)) ∧ rows.length = m ∧ (∀ r ∈ rows, r.length = m) ∧ 1 ≤ m ∧ m ≤ 16 ∧ R = IsTabS rows
/-- the words of a table -/
def wdT (names : List Str) (nv sl : Nat) (th jn : Nat → Nat → Int) : List Wd := [.l (names.map Wd.w), .w (names.getD nv ("" : Str)), .w (names.getD sl ("" : Str)), .l ((rowsS names jn).flatten.map Wd.w), .l ((rowsS names th).flatten.map Wd.w)]
def PTof (K : PySem.W.Frag) (Cs : List Addr) : List V → Hp → HR → Prop := fun vs G R => ∃ (p : Addr) (xs : List V) (names : List Str) (nv sl : Nat) (th jn : Nat → Nat → Int), vs = [.ref p] ∧ G p = some (.lst xs) ∧ WdsAt (wdT names nv sl th jn) xs G ∧ TbIs names nv sl th jn ∧ R = fun v G' => ∃ x, v = .ref x ∧ ScD K Cs (tabSD names nv sl th jn) x G'
def PSolT (K : PySem.W.Frag) (Cs : List Addr) : List V → Hp → HR → Prop := fun vs G R => ∃ (v : V) (names : List Str) (nv sl : Nat) (th jn : Nat → Nat → Int), vs = [v] ∧ WdAt (.l (.w ("table" : Str) :: wdT names nv sl th jn)) v G ∧ TbIs names nv sl th jn ∧ R = fun v G' => ∃ x, v = .ref x ∧ ScD K Cs (tabSD names nv sl th jn) x G'
/-- read_scale of the label of a table -/
def PRdT (K : PySem.W.Frag) (Cs : List Addr) : List V → Hp → HR → Prop := fun vs G R => ∃ (names : List Str) (nv sl : Nat) (th jn : Nat → Nat → Int), vs = [.str (tabSD names nv sl th jn).label] ∧ TbIs names nv sl th jn ∧ R = fun v G' => ∃ x, v = .ref x ∧ ScD K Cs (tabSD names nv sl th jn) x G'
def IsWd (a : Wd) : HR := fun v G => WdAt a v G
instance (a) : Mon (IsWd a) := ⟨fun s h => WdAt.mono h s⟩
section
variable {S : SR} {n k : Nat} {t : TA} {σ : L2.St} {G : Hp} {K : PySem.W.Frag} {CB p : Addr} {x : Str} {ws : List Wd} {xs : List V}
theorem ev_nw (st : Stab S) (h : EvA S n k t σ G (IsVs [.str x])) (hx : x.length ≤ 20000) (hn : nw 12 (toks x) = some ws) : Ev S n k (tCall (sp_nw CB) [] E0 t) σ G (IsWd (.l ws)) := fun G1 H1 s0 s Q q =>
  h G1 H1 s0 s _ fun vs G2 H2 s2 e2 => by
    obtain rfl := (show _ = _ from e2)
    refine ⟨x, G2, rfl, st.sub s2.s, hx, fun ws' e v G' H' g w => q v G' H' (s2.trans (st.gro s2.s g)) ?_, fun z => by rw [hn] at z; cases z⟩
    rw [hn] at e
    obtain rfl := Option.some.inj e
    exact w
theorem c_isiX (st : Stab S) (h : SqL K G p xs) : RC S (rIsi K) [.ref p, .ty "str"] G (IsV (.bl false)) := rc_val (fun H s Q q => ⟨.ref p, .ty "str", .type "list", .type "str", false, rfl, .ty "str", tyx_L (s.seq h), kit_ty (kitB_all "list" (by decide) "str" (by decide)), q⟩) st
theorem cutV_1 {x0 : V} {r : List V} : cutV (x0 :: r) (some 1) none = r := by
  unfold cutV
  rw [show (some (1 : Int)) = some (((1 : Nat)) : Int) from rfl, HT.sIx_nat, HT.sIx_none, List.length_cons, Nat.min_eq_left (by omega)]
  simp
end
theorem nw_tab {names : List Str} {nv sl : Nat} {th jn : Nat → Nat → Int} (T : TbIs names nv sl th jn) : nw 12 (toks (tabSD names nv sl th jn).label) = some [.l (.w ("table" : Str) :: wdT names nv sl th jn)] := by
  have tb := T.tb
  have pl : ∀ nm ∈ names, PlW nm := fun nm h => okNm_pl (tb.ok nm h)
  exact nw_tbLab pl (pl _ tb.nv) (pl _ tb.sl) (fun r hr s hs => pl _ ((tb.jr r hr).2 s hs)) (fun r hr s hs => pl _ ((tb.pr r hr).2 s hs))
end L2.DS
/-! A def that a try watches. -/
namespace L2.DS
open PySem PySem.Spec PyProof.Rows
/-! ### two lists that grow and a list of two numbers, all newly made -/
structure Mu (S : SR) (n : Nat) (H0 G J : Hp) (D : Addr) (Fs : Nat → Addr) (d : Nat → Nat) (l : Nat → List Bool) : Prop where
  s : S n G J
  d : J D = some (.lst [.int (d 0 : Nat), .int (d 1 : Nat)])
  f : ∀ i, i < 2 → J (Fs i) = some (.lst ((l i).map V.bl))
  nd : ∀ i, i < 2 → D ≠ Fs i
  nf : Fs 0 ≠ Fs 1
  hD : H0 D = none
  hF : ∀ i, i < 2 → H0 (Fs i) = none
  gD : G D = none
  gF : ∀ i, i < 2 → G (Fs i) = none
section
variable {S : SR} {n m n0 : Nat} {G0 H0 G J G' J' : Hp} {D : Addr} {Fs : Nat → Addr} {d : Nat → Nat} {l : Nat → List Bool}
theorem Mu.k (h : Mu S n H0 G J D Fs d l) (st : Stab S) (s0 : S n0 G0 H0) (k : Kp S J J') (s : S m G J') : Mu S m H0 G J' D Fs d l :=
  ⟨s, k.k _ _ (st.fre s0 h.hD) h.d, fun i hi => k.k _ _ (st.fre s0 (h.hF i hi)) (h.f i hi), h.nd, h.nf, h.hD, h.hF, h.gD, h.gF⟩
theorem Mu.grow (h : Mu S n H0 G J D Fs d l) (st : Stab S) (s0 : S n0 G0 H0) (s : Stp S m G J G' J') : Mu S m H0 G' J' D Fs d l := by
  have gn : ∀ {b : Addr} {o : HO}, G b = none → J b = some o → G' b = none := fun {b o} g j => by
    cases hz : G' b with
    | none => rfl
    | some o' =>
      rcases s.n b o' hz with e | e
      · rw [g] at e
        cases e
      · rw [j] at e
        cases e
  exact ⟨s.s, s.k.k _ _ (st.fre s0 h.hD) h.d, fun i hi => s.k.k _ _ (st.fre s0 (h.hF i hi)) (h.f i hi), h.nd, h.nf, h.hD, h.hF, gn h.gD h.d, fun i hi => gn (h.gF i hi) (h.f i hi)⟩
theorem Mu.ne (h : Mu S n H0 G J D Fs d l) {i j : Nat} (hi : i < 2) (hj : j < 2) (e : i ≠ j) : Fs i ≠ Fs j := by
  have : (i = 0 ∧ j = 1) ∨ (i = 1 ∧ j = 0) := by omega
  rcases this with ⟨rfl, rfl⟩ | ⟨rfl, rfl⟩
  · exact h.nf
  · exact h.nf.symm
theorem Mu.set (h : Mu S n H0 G J D Fs d l) {i v : Nat} (hi : i < 2) (s : S m G (upd J D (.lst ([V.int (d 0 : Nat), .int (d 1 : Nat)].set i (.int (v : Nat)))))) : Mu S m H0 G (upd J D (.lst ([V.int (d 0 : Nat), .int (d 1 : Nat)].set i (.int (v : Nat))))) D Fs (fun j => if j = i then v else d j) l := by
  refine ⟨s, ?_, fun j hj => ?_, h.nd, h.nf, h.hD, h.hF, h.gD, h.gF⟩
  · rw [upd_same]
    have : i = 0 ∨ i = 1 := by omega
    rcases this with rfl | rfl <;> rfl
  · rw [upd_ne (h.nd j hj).symm]
    exact h.f j hj
theorem Mu.pub (h : Mu S n H0 G J D Fs d l) (st : Stab S) (s0 : S n0 G0 H0) : S n (upd G D (.lst [.int (d 0 : Nat), .int (d 1 : Nat)])) J := st.pub s0 h.hD h.s h.gD h.d
theorem Mu.same (h : Mu S n H0 G J D Fs d l) {o : HO} : Same G (upd G D o) := fun b o e => by
  rw [upd_ne (ne_of_none e h.gD)]
  exact e
end
theorem Mu.congr {S : SR} {n : Nat} {H0 G J : Hp} {D : Addr} {Fs : Nat → Addr} {d d' : Nat → Nat} {l l' : Nat → List Bool} (h : Mu S n H0 G J D Fs d l) (e : ∀ i, i < 2 → d' i = d i) (e' : ∀ i, i < 2 → l' i = l i) : Mu S n H0 G J D Fs d' l' :=
  ⟨h.s, by rw [e 0 (by decide), e 1 (by decide)]; exact h.d, fun i hi => by rw [e' i hi]; exact h.f i hi, h.nd, h.nf, h.hD, h.hF, h.gD, h.gF⟩
/-! ### what before and behind of a table look for (plain law) -/
end L2.DS
/-! Worths of scales that are told by a property; labels told apart; the lists of a turn published. -/
namespace L2.DS
open PySem PySem.Spec PyProof.Rows
section
variable {S : SR} {n m n0 : Nat} {G0 H0 G J G' J' : Hp} {D : Addr} {Fs : Nat → Addr} {d : Nat → Nat} {l : Nat → List Bool}
theorem Mu.all (h : Mu S n H0 G J D Fs d l) (st : Stab S) (s0 : S n0 G0 H0) : ∃ G', Same G G' ∧ S n G' J ∧ G' D = some (.lst [.int (d 0 : Nat), .int (d 1 : Nat)]) ∧ ∀ i, i < 2 → G' (Fs i) = some (.lst ((l i).map V.bl)) := by
  have a := h.pub st s0
  have n0 := h.nd 0 (by decide)
  have n1 := h.nd 1 (by decide)
  have g0 : upd G D (.lst [.int (d 0 : Nat), .int (d 1 : Nat)]) (Fs 0) = none := by rw [upd_ne n0.symm]; exact h.gF 0 (by decide)
  have b := st.pub s0 (h.hF 0 (by decide)) a g0 (h.f 0 (by decide))
  have g1 : upd (upd G D (.lst [.int (d 0 : Nat), .int (d 1 : Nat)])) (Fs 0) (.lst ((l 0).map V.bl)) (Fs 1) = none := by rw [upd_ne h.nf.symm, upd_ne n1.symm]; exact h.gF 1 (by decide)
  have c := st.pub s0 (h.hF 1 (by decide)) b g1 (h.f 1 (by decide))
  refine ⟨_, fun x o e => ?_, c, ?_, fun i hi => ?_⟩
  · rw [upd_ne (ne_of_none e (h.gF 1 (by decide))), upd_ne (ne_of_none e (h.gF 0 (by decide))), upd_ne (ne_of_none e h.gD)]
    exact e
  · rw [upd_ne n1, upd_ne n0, upd_same]
  · rcases (show i = 0 ∨ i = 1 by omega) with rfl | rfl
    · rw [upd_ne h.nf, upd_same]
    · rw [upd_same]
end
/-- C(x, p), x a scale of which P tells -/
theorem ev_mkWtS {S : SR} (st : Stab S) {n k : Nat} {t : TA} {σ : L2.St} {G : Hp} {K : PySem.W.Frag} {Cs : List Addr} {CW : Addr} {P : SD → Prop} {p : Nat} {E : XK} (hp : ∀ d, P d → p < d.names.length) (e : EvA S n k t σ G (RCons (IsScP K Cs P) (RCons (IsV (.int (p : Nat))) RNil))) :
    Ev S n k (tMake CW (spI (PWoI K Cs CW)) [] E t) σ G (fun v G' => ∃ d, P d ∧ IsWt K Cs CW d p v G') :=
  (ev_makeW (R := fun _ _ fs' G' => ∃ x d, P d ∧ p < d.names.length ∧ fs'.lookup ("scale" : Str) = some (.ref x) ∧ fs'.lookup ("place" : Str) = some (.int (p : Nat)) ∧ fs'.lookup ("name" : Str) = some (.str (d.names.getD p ("" : Str))) ∧ ScD K Cs d x G' ∧ ∀ f, f ∉ wtF → fs'.lookup f = none) st e fun vs G' s' e => by
    obtain ⟨_, _, rfl, ⟨d, ⟨x, rfl, sd⟩, pd⟩, _, _, rfl, e1, e2⟩ := e
    obtain rfl := (show _ = _ from e1)
    obtain rfl := (show _ = [] from e2)
    exact ⟨_, ⟨rfl, rfl, x, d, p, rfl, sd, hp d pd, rfl⟩, fun a b' fs G h => ⟨x, d, pd, hp d pd, h⟩⟩).imp fun v G' s' h => by
      obtain ⟨w, dx, fs, G2, rfl, gx, s2, x, d, pd, hp', a, b, c, sd, f⟩ := h
      have s3 : Same G2 G' := fun c o e => s2 c o (by rw [upd_ne (ne_of_none e gx)]; exact e)
      exact ⟨d, pd, w, rfl, dx, fs, x, s2 _ _ upd_same, a, b, c, sd.mono s3, hp', f⟩
/-! labels told apart by their beginnings -/
theorem app_ne {a b x y : Str} {i : Nat} {u v : Nat} (ha : a.cps.toList[i]? = some u) (hb : b.cps.toList[i]? = some v) (h : u ≠ v) : a ++ x ≠ b ++ y := fun e => by
  have e2 := congrArg (fun z : Str => z.cps.toList[i]?) e
  have c1 := (List.getElem?_eq_some_iff.mp ha).1
  have c2 := (List.getElem?_eq_some_iff.mp hb).1
  simp only [cps_app] at e2
  rw [List.getElem?_append_left c1, List.getElem?_append_left c2, ha, hb] at e2
  exact h (Option.some.inj e2)
theorem str_assoc (a b c : Str) : a ++ b ++ c = a ++ (b ++ c) := str_inj (by rw [cps_app, cps_app, cps_app, cps_app, List.append_assoc])
theorem tab_cnt {names : List Str} {nv sl : Nat} {th jn : Nat → Nat → Int} {t : Nat} {up : Bool} : (tabSD names nv sl th jn).label ≠ (cntSD t up).label := by
  show tbLab _ _ _ _ _ ≠ clabel _ _
  unfold tbLab clabel
  simp only [str_assoc]
  exact app_ne (i := 1) (u := 116) (v := 99) (by decide +kernel) (by decide +kernel) (by decide)
theorem tab_trn {names : List Str} {nv sl : Nat} {th jn : Nat → Nat → Int} {d : SD} : (tabSD names nv sl th jn).label ≠ (turnSD d).label := by
  show tbLab _ _ _ _ _ ≠ ("(turned " : Str) ++ d.label ++ (")" : Str)
  unfold tbLab
  simp only [str_assoc]
  exact app_ne (i := 2) (u := 97) (v := 117) (by decide +kernel) (by decide +kernel) (by decide)
end L2.DS
/-! Operators of own classes that a try watches; ==, str of own classes; classmethods that raise. -/
namespace L2.DS
open PySem PySem.Spec PyProof.Rows
section
variable {X : Cx} {CX : CXT} {k : Nat} {C : Addr} {m : Str} {ps : List Str} {sp : Sp} {E : L2.St → XK} {E0 : XK} {a b e o : Expr} {es : List Expr} {ta tb : TE} {t : TA} {pos apos : Pos} {pins : List (Addr × Obj)} {σ : L2.St} {H : Hp} {s : Shared} {x y : V} {v u : Value} {Q : VK}
theorem binS_at {op : Operator} (c : Method X.prog X.w X.K X.mg X.base C m CX k ps [] sp) (hm : PySem.dunder op.info.2 = m) (hc : PySem.W.selfFirst X.K C = true) (hr : Room k X.A) (hx : PassesAt CX X σ (E σ)) (I : Inv X pins σ H s) (rx : RelV x v) (ry : RelV y u) (h : rOwn2 C sp (E σ) x y H Q) :
    wpAny (model X.prog X.w) X.A (binaryOp op v u) (EP X pins σ Q) X.xe s := by
  obtain ⟨a, b, dx, dy, fs, gs, rfl, rfl, ha, hb, q⟩ := h
  cases (show v = Value.ref a from rx)
  cases (show u = Value.ref b from ry)
  obtain ⟨f, fd, ds, hC, M, F, B, V⟩ := c
  cases V
  obtain ⟨ox, od, J⟩ := inst_of I ha
  obtain ⟨oy, oe, J'⟩ := inst_of I hb
  obtain ⟨m', hF⟩ := I.fr
  refine PySem.W.binop_K hF I.ok.mod.kin J J'.type hc (hm ▸ M.at_) M.fn (wpAny_mono (run_fnS (E := E) (vs := [.ref a, .ref b]) F hr B hx I (.cons rfl (.cons rfl .nil)) q) (fun w s' z => ?_) fun _ _ x => x)
  obtain ⟨z', H', I', rz, qz⟩ := z
  exact SlX.cmpback rz ⟨z', H', I', rz, qz⟩
theorem cmpS_at {op : CmpOp} (c : Method X.prog X.w X.K X.mg X.base C m CX k ps [] sp) (hm : (cmpInfo op).2.1 = m) (hr : Room k X.A) (hx : PassesAt CX X σ (E σ)) (I : Inv X pins σ H s) (rx : RelV x v) (ry : RelV y u) (h : rOwn2 C sp (E σ) x y H Q) (hop : ∀ a b, compareOp op a b = richCompare op a b := by intro _ _; rfl) :
    wpAny (model X.prog X.w) X.A (compareOp op v u) (EP X pins σ Q) X.xe s := by
  obtain ⟨a, b, dx, dy, fs, gs, rfl, rfl, ha, hb, q⟩ := h
  cases (show v = Value.ref a from rx)
  cases (show u = Value.ref b from ry)
  obtain ⟨f, fd, ds, hC, M, F, B, V⟩ := c
  cases V
  obtain ⟨ox, od, J⟩ := inst_of I ha
  obtain ⟨oy, oe, J'⟩ := inst_of I hb
  obtain ⟨m', hF⟩ := I.fr
  rw [hop]
  refine PySem.W.cmp_K (tb := .ref C) hr.units0 hF I.ok.mod.kin J J'.type (by simp [PySem.W.notFirst]) (hm ▸ M.at_) M.fn (wpAny_mono (run_fnS (E := E) (vs := [.ref a, .ref b]) F hr B hx I (.cons rfl (.cons rfl .nil)) q) (fun w s' z => ?_) fun _ _ x => x)
  obtain ⟨z', H', I', rz, qz⟩ := z
  exact SlX.cmpback rz ⟨z', H', I', rz, qz⟩
/-- x op y, two instances of one class, in a try -/
def tOpS (C : Addr) (sp : Sp) (E : L2.St → XK) (ta tb : TE) : TE := fun σ H Q => tOp (rOwn2 C sp (E σ)) ta tb σ H Q
theorem pe_binS {op : Operator} (c : Method X.prog X.w X.K X.mg X.base C m CX k ps [] sp) (hm : PySem.dunder op.info.2 = m) (hc : PySem.W.selfFirst X.K C = true) (hr : Room k X.A) (hx : ∀ σ, PassesAt CX X σ (E σ)) (ha : PE X a ta) (hb : PE X b tb) : PE X (.BinOp a op b pos) (tOpS C sp E ta tb) := by
  refine ⟨fun pins s σ H Q I h => wpAny_BinOp (binT ha hb I h fun v u s2 x y H2 I2 rx ry q => ?_)⟩
  exact binS_at c hm hc hr (hx σ) I2 rx ry q
theorem pe_cmpS {op : CmpOp} (c : Method X.prog X.w X.K X.mg X.base C m CX k ps [] sp) (hm : (cmpInfo op).2.1 = m) (hr : Room k X.A) (hx : ∀ σ, PassesAt CX X σ (E σ)) (ha : PE X a ta) (hb : PE X b tb) (hmk : behindInMarks op b = false) (hop : ∀ a b, compareOp op a b = richCompare op a b := by intro _ _; rfl) :
    PE X (.Compare a [op] [b] pos) (tOpS C sp E ta tb) := by
  refine ⟨fun pins s σ H Q I h => wpAny_Compare1 (binT ha hb I h fun v u s2 x y H2 I2 rx ry q => ?_) hmk⟩
  exact cmpS_at c hm hr (hx σ) I2 rx ry q hop
/-! ### C.m(..) in a try -/
theorem run_atS {A : Around} {g : Addr} {us : List Value} {ws : List V} (F : FnR X.prog X.w X.K X.mg X.base CX k g sp) (hr : Room k A) (e0 : Env0 X.prog X.w X.K X.mg X.base A X.stack s H) (hx : PassesAt CX X σ E0) (I : Inv X pins σ H s) (r : Vals ws us) (h : sp ws H Q E0) :
    codeAny (model X.prog X.w) A (.call (.ref g) ⟨us, []⟩) (fun r s' => match r with | .ok (.ret v) => EP X pins σ Q v s' | .ok _ => False | .error e => X.xe e s') s :=
  codeAny_mono (F A X.stack s H us ws Q E0 hr e0 r h) fun r s' hq => by
    cases r with
    | error e => exact hx pins H s e s' I hq
    | ok fl =>
      cases fl with
      | ret u => exact I.after hq
      | next => exact hq.elim
      | brk => exact hq.elim
      | cont => exact hq.elim
def tCMethS (C : Addr) (sp : Sp) (E : L2.St → XK) (ta : TE) (t : TA) : TE := fun σ H Q => ClX.tCMeth C sp (E σ) ta t σ H Q
theorem pe_clsmS {pl : Sem Bool} (c : ClsmC X.prog X.w X.K X.mg X.base C m CX k sp) (hr : Room k X.A) (hx : ∀ σ, PassesAt CX X σ (E σ)) (ho : PE X o ta) (ha : PA X (e :: es) t)
    (hst : starEach (e :: es) X.env = (false, eval e X.env) :: starEach es X.env := by rfl) (hpl : (backTo pos (starEach es X.env)).any (·.1) = false := by rfl)
    (ht : eval (.Call (.Attribute o m apos) (e :: es) [] pos) X.env = (do
      let ov ← eval o X.env
      standAt apos.atName
      let (f, first) ← holding [ov] (getMethod ov m pl)
      callWith pos f first (backTo pos (starEach (e :: es) X.env)) (backToKw pos (keywordEach [] X.env))) := by rfl) :
    PE X (.Call (.Attribute o m apos) (e :: es) [] pos) (tCMethS C sp E ta t) := by
  obtain ⟨mc, p, g, r, cm, F⟩ := c
  refine ⟨fun pins s σ H Q I h => PySem.W.methodCall_KW (pl := pl) (thn (ho.run pins s σ H _ I h) fun u s1 ⟨x, H1, I1, rx, ex, q⟩ => ?_) ht⟩
  subst ex
  cases (show u = Value.ref C from rx)
  refine ClX.getmethcm_ok I1 r cm fun s2 I2 => ClX.callwith_cm I2 (ClX.base_none I1 (Nat.le_refl _)) cm.fi (thn (ha.run pos _ s2 σ H1 _ I2 q) fun us s3 ⟨vs, H2, I3, rv, q2⟩ => ⟨⟨ClX.pin_at I3, I3.kIn⟩, ?_⟩) hst hpl
  have z := wpAny_call (PySem.W.method_call (ClX.pin_at I3) (run_atS (us := .ref C :: us) (ws := .ref C :: vs) F hr I3.env0 (hx σ) I3 (.cons rfl rv) q2))
  exact thn z fun _ _ w => ClX.unpinE w
/-! ### == with a text or a number -/
def rOwnS (C : Addr) (sp : Sp) (E : XK) : R2 := fun x y H Q => ∃ a dx fs, x = .ref a ∧ H a = some (.ins C dx fs) ∧ ((∃ s, y = .str s) ∨ ∃ i, y = .int i) ∧ sp [x, y] H Q E
theorem op_eqOwnS (c : Method X.prog X.w X.K X.mg X.base C "__eq__" CX k ps [] sp) (h1 : PySem.W.subIn X.K (.type "str") (.ref C) = some false) (h2 : PySem.W.subIn X.K (.type "int") (.ref C) = some false) (hr : Room k X.A) (hx : Passes CX X E0) : OpR X (compareOp .Eq) (rOwnS C sp E0) := by
  intro pins s σ H x y v u Q I rx ry h
  obtain ⟨a, dx, fs, rfl, ha, hy, q⟩ := h
  cases (show v = Value.ref a from rx)
  obtain ⟨f, fd, ds, hC, M, F, B, V⟩ := c
  obtain ⟨ox, od, J⟩ := inst_of I ha
  obtain ⟨m', hF⟩ := I.fr
  have key : ∀ tb, typeOf u = pure tb → PySem.W.notFirst X.K C tb = true → wpAny (model X.prog X.w) X.A (richCompare .Eq (.ref a) u) (EP X pins σ Q) X.xe s := fun tb ht hn => by
    refine PySem.W.cmp_K (tb := tb) hr.units0 hF I.ok.mod.kin J (PySem.W.Looks.of_pure ht) hn M.at_ M.fn (wpAny_mono (run_fn (vs := [.ref a, y]) F hr B V hx I (.cons rfl (.cons ry .nil)) q) (fun w s' z => ?_) fun _ _ x => x)
    obtain ⟨z', H', I', rz, qz⟩ := z
    exact SlX.cmpback rz ⟨z', H', I', rz, qz⟩
  rcases hy with ⟨z, rfl⟩ | ⟨i, rfl⟩
  · obtain ⟨t, e⟩ := (show ∃ t, u = Value.str z t from ry)
    cases e
    exact key (.type "str") rfl (by rw [PySem.W.notFirst, h1]; rfl)
  · obtain ⟨t, e⟩ := (show ∃ t, u = Value.int i t from ry)
    cases e
    exact key (.type "int") rfl (by rw [PySem.W.notFirst, h2]; rfl)
/-! ### str -/
def rStrW (C : Addr) (sp : Sp) (E : XK) : List V → Hp → VK → Prop := fun xs H Q => ∃ a dx fs, xs = [.ref a] ∧ H a = some (.ins C dx fs) ∧ sp [.ref a] H (fun v H' => ∃ z, v = .str z ∧ Q v H') E
theorem call_strW (c : Method X.prog X.w X.K X.mg X.base C "__str__" CX k ps [] sp) (hr : Room (k + 4) X.A) (hx : Passes CX X E0) : CallR X (.type "str") (rStrW C sp E0) := by
  intro pins s σ H xs us Q I r h
  obtain ⟨a, dx, fs, rfl, ha, q⟩ := h
  obtain ⟨u, rfl, ru⟩ := r.one
  cases (show u = Value.ref a from ru)
  obtain ⟨f, fd, ds, hC, M, F, B, V⟩ := c
  cases V
  obtain ⟨ox, od, J⟩ := inst_of I ha
  have hr2 : Room k X.A.in1.in1 := (show Room (k + 1) X.A.in1 from Room.in1 (hr.mono (by omega))).in1
  refine PySem.W.kso_call hr2.units0 I.kIn J M.at_ M.fn (wpAny_mono (wpAny_call (SlX.run_at (us := [.ref a]) (ws := [.ref a]) (fnR_of F B) hr2 I.env0.in1.in1 hx I (.cons rfl .nil) q)) (fun w s' z => ?_) fun _ _ x => x)
  obtain ⟨z', H', I', rz, y, ey, qz⟩ := z
  subst ey
  obtain ⟨t, e⟩ := (show ∃ t, w = Value.str y t from rz)
  cases e
  exact ⟨.str y, H', I', ⟨t, rfl⟩, qz⟩
def rStrS : List V → Hp → VK → Prop := fun xs H Q => ∃ a, xs = [.str a] ∧ Q (.str a) H
theorem call_strS : CallR X (.type "str") rStrS := SkE.call_str_str
/-- isinstance(e, c), e an error without fields that the suite holds -/
theorem call_isE0 {K : PySem.W.Frag} {a D : Addr} {cls : Value} {d : Option Addr} {oe : Obj} {pn : List (Addr × Obj)} (hK : X.K = K) (c : ExcC K D) (hz : Zc cls d oe) (hf : ∃ vs, oe.data = .fields vs) : CallR (X.suite a ((a, oe) :: pn)) (.builtin "isinstance") (fun xs H Q => cls = .ref D ∧ d = none ∧ rIsE K D a xs H Q) := by
  intro pins s σ H xs us Q I r h
  obtain ⟨rfl, rfl, q⟩ := h
  subst hK
  exact call_isE c hz hf pins s σ H xs us Q I r q
end
/-! ### what they give -/
section
variable {S : SR} {n k ka kb : Nat} {ta tb : TE} {t : TA} {σ : L2.St} {G H : Hp} {K : PySem.W.Frag} {Cs : List Addr} {CW CM C a b : Addr} {d e : SD} {p q : Nat} {E : L2.St → XK} {E0 : XK} {res : SD → Nat → Nat → HR} {c : V} {cv : Value} {bb : Bool} {R : HR} {z : Str} {P : List V → Hp → HR → Prop}
/-- x op y in a try, worths of scales of two labels -/
theorem run_mixO (st : Stab S) {Q : VK} (s : S n G H) (ea : Ev S n ka ta σ G (IsV (.ref a))) (eb : Ev S (n + ka) kb tb σ G (IsV (.ref b))) (ha : WtAt K Cs CW d p a G) (hb : WtAt K Cs CW e q b G) (o : SdOk d) (hl : d.label ≠ e.label) (h : ∀ H', S (n + ka + kb) G H' → E σ (.ref CM) none H') : tOpS CW (sp_wop K Cs CW CM res) E ta tb σ H Q :=
  ea G H (Same.refl _) s _ fun v G2 H2 s2 e2 => eb G2 H2 s2.g s2.s _ fun u G3 H3 s3 e3 => by
    obtain rfl := (show _ = _ from e2)
    obtain rfl := (show _ = _ from e3)
    have g3 := s2.g.trans s3.g
    have ha' := ha.mono g3
    have hb' := hb.mono g3
    obtain ⟨dx, fs, xa⟩ := ha'.at
    obtain ⟨dy, gs, xb⟩ := hb'.at
    exact ⟨a, b, dx, dy, fs, gs, rfl, rfl, st.sub s3.s _ _ xa, st.sub s3.s _ _ xb, a, b, d, e, p, q, G3, rfl, st.sub s3.s, ha', hb', o, fun z => absurd z hl, fun _ H' g => h H' (st.anti s (st.grow s3.s g) (g3.trans g.g))⟩
theorem c_isE (st : Stab S) (hc : ∀ w, RelV c w → w = cv) (hk : PySem.W.kitOne K (.ref C) cv = some bb) : RC S (fun xs H Q => Value.ref C = .ref C ∧ (none : Option Addr) = none ∧ rIsE K C a xs H Q) [.ref a, c] G (IsV (.bl bb)) :=
  rc_val (fun H s Q q => ⟨rfl, rfl, c, cv, bb, rfl, hc, hk, q⟩) st
theorem c_strW (st : Stab S) {dx : Addr} {fs : List (Str × V)} (h : G a = some (.ins C dx fs)) (hp : ∀ G', Same G G' → P [.ref a] G' (IsV (.str z))) : RC S (rStrW C (spP P) E0) [.ref a] G (IsV (.str z)) := fun n G1 H1 s0 s Q q =>
  ⟨a, dx, fs, rfl, st.sub s _ _ (s0 _ _ h), G1, _, st.sub s, hp G1 s0, fun v G' H' g r => ⟨z, r, q v G' H' (st.gro s g) r⟩⟩
theorem c_strS (st : Stab S) : RC S rStrS [.str z] G (IsV (.str z)) := rc_val (fun H s Q q => ⟨z, rfl, q⟩) st
theorem v_isB (st : Stab S) {b c : Bool} : RV S (fun x y H Q => ∃ a b, x = V.bl a ∧ y = V.bl b ∧ Q (.bl (decide (a = b))) H) (.bl b) (.bl c) G (IsV (.bl (decide (b = c)))) := rv_val (fun H _ Q q => ⟨b, c, rfl, rfl, q⟩) st
theorem v_eqS' (st : Stab S) {dx : Addr} {fs : List (Str × V)} {y : V} (h : G a = some (.ins C dx fs)) (hy : (∃ s, y = .str s) ∨ ∃ i, y = .int i) (hp : ∀ G', Same G G' → P [.ref a, y] G' (IsV (.bl bb))) : RV S (rOwnS C (spP P) E0) (.ref a) y G (IsV (.bl bb)) := fun n G1 H1 s0 s Q q =>
  ⟨a, dx, fs, rfl, st.sub s _ _ (s0 _ _ h), hy, G1, _, st.sub s, hp G1 s0, fun v G' H' g r => q v G' H' (st.gro s g) r⟩
/-- x.at_name(nm), no worth has the name -/
theorem run_sAtX {x U : Addr} {nm : Str} {ka2 : Nat} {Q : VK} (st : Stab S) (h : ScD K Cs d x G) (nd : d.names.Nodup) (s : S n G H) (e : Ev S n k ta σ G (IsV (.ref x))) (ea : EvA S (n + k) ka2 t σ G (IsVs [.str nm])) (hm : nm ∉ d.names)
    (hE : ∀ dd G' H', Stp S (n + k + ka2) G H G' H' → H' dd = none → E0 (.ref U) (some dd) (upd H' dd (.xd [(("name" : Str), .str nm)]))) : tMethA Cs "at_name" (sp_at_name K U) [] E0 ta t σ H Q := by
  obtain ⟨C, hC, hk, hs⟩ := h
  have hsc := hs.sc hk.c hk.n
  obtain ⟨dx, fs, hx, hI, hoff⟩ := hs
  refine ⟨C, hC, e G H (Same.refl _) s _ fun v G2 H2 s2 e2 => ?_⟩
  obtain rfl := (show _ = _ from e2)
  refine ⟨x, dx, fs, rfl, st.sub s2.s _ _ (s2.g _ _ hx), hoff "at_name" (by decide), ea G2 H2 s2.g s2.s _ fun vs G3 H3 s3 e3 => ?_⟩
  obtain rfl := (show _ = _ from e3)
  have t3 := s2.trans s3
  refine ⟨_, _, _, _, _, _, _, x, nm, G3, rfl, st.sub s3.s, hsc.mono t3.g, nd, fun j H' hj => absurd (List.mem_of_getElem? hj) hm, fun _ dd H' H2' gr hd e => ?_⟩
  subst e
  exact hE dd _ _ (t3.trans (st.gro s3.s gr)) hd
end
/-! ### promises -/
/-- Worth.named -/
def sp_named (K : PySem.W.Frag) (Cs : List Addr) (CW CU : Addr) : Sp := fun vs H Q E => ∃ (x : Addr) (d : SD) (nm : Str) (G : Hp), vs = [.ref CW, .ref x, .str nm] ∧ Same G H ∧ ScD K Cs d x G ∧ SdOk d ∧
  (∀ p, d.names[p]? = some nm → ∀ v G' H', Grow G H G' H' → IsWt K Cs CW d p v G' → Q v H') ∧ (nm ∉ d.names → ∀ dd H' H2, Grow G H G H' → H' dd = none → H2 = upd H' dd (.xd [(("name" : Str), .str nm)]) → E (.ref CU) (some dd) H2)
def PStrW (K : PySem.W.Frag) (Cs : List Addr) (CW : Addr) : List V → Hp → HR → Prop := fun vs G R => ∃ (a : Addr) (d : SD) (p : Nat), vs = [.ref a] ∧ WtAt K Cs CW d p a G ∧ R = IsV (.str (d.names.getD p ("" : Str)))
/-- == with something that is no worth -/
def PEqN (K : PySem.W.Frag) (Cs : List Addr) (CW : Addr) : List V → Hp → HR → Prop := fun vs G R => ∃ (a : Addr) (d : SD) (p : Nat) (v : V), vs = [.ref a, v] ∧ WtAt K Cs CW d p a G ∧ ((∃ s, v = .str s) ∨ ∃ i, v = .int i) ∧ R = IsV (.bl false)
end L2.DS
/-! Two tables newly made, one of them changed. -/
namespace L2.DS
open PySem PySem.Spec PyProof.Rows
theorem nodup_str {l : List Str} (nd : l.Nodup) {i j : Nat} {y : Str} (hi : l[i]? = some y) (hj : l[j]? = some y) : i = j := by
  obtain ⟨li, ei⟩ := List.getElem?_eq_some_iff.mp hi
  obtain ⟨lj, ej⟩ := List.getElem?_eq_some_iff.mp hj
  rcases Nat.lt_trichotomy i j with h | h | h
  · exact absurd (ei.trans ej.symm) (List.pairwise_iff_getElem.mp nd i j li lj h)
  · exact h
  · exact absurd (ej.trans ei.symm) (List.pairwise_iff_getElem.mp nd j i lj li h)
section
variable {S : SR} {n k ka kb : Nat} {te : TE} {tr t : TA} {σ : L2.St} {G : Hp} {R : HR} {K : PySem.W.Frag} {Cs : List Addr} {CW CU CM x : Addr} {d : SD} {p : Nat} {E : XK} {nm : Str}
/-- the rest is told by what came before -/
theorem ea_cons2 {RA : V → Hp → HRs} (h : Ev S n ka te σ G R) (hr : ∀ v G', Same G G' → R v G' → EvA S (n + ka) kb tr σ G' (RA v G')) : EvA S n (ka + kb) (tCons te tr) σ G (fun vs G2 => ∃ v r G', vs = v :: r ∧ Same G G' ∧ Same G' G2 ∧ R v G' ∧ RA v G' r G2) := fun G1 H1 s0 s Q q =>
  h G1 H1 s0 s _ fun v G2 H2 s2 e => hr v G2 (s0.trans s2.g) e G2 H2 (Same.refl _) s2.s _ fun vs G3 H3 s3 e' => q (v :: vs) G3 H3 (s2.trans s3).up ⟨v, vs, G2, rfl, s0.trans s2.g, s3.g, e, e'⟩
theorem ev_named (st : Stab S) (h : ScD K Cs d x G) (o : SdOk d) (hp : d.names[p]? = some nm) (h0 : Ev S n ka te σ G (IsV (.ref CW))) (ea : EvA S (n + ka) kb t σ G (IsVs [.ref x, .str nm])) : Ev S n (ka + kb) (ClX.tCMeth CW (sp_named K Cs CW CU) E te t) σ G (IsWt K Cs CW d p) := fun G1 H1 s0 s Q q =>
  h0 G1 H1 s0 s _ fun v G2 H2 s2 ev => ⟨ev, ea G2 H2 (s0.trans s2.g) s2.s _ fun vs G3 H3 s3 e3 => by
    obtain rfl := (show _ = _ from e3)
    have t3 := s2.trans s3
    rw [Nat.add_assoc] at t3
    exact ⟨x, d, nm, G3, rfl, st.sub t3.s, h.mono ((s0.trans s2.g).trans s3.g), o, fun p' hp' v G' H' g r => by
      obtain rfl : p' = p := nodup_str o.nd hp' hp
      exact q v G' H' (t3.trans (st.gro t3.s g)) r, fun z => absurd (List.mem_of_getElem? hp) z⟩⟩
end
/-- two tables newly made, the second one behind the first -/
def TwoN (G : Hp) (n : Nat) (fj ft : Nat → Nat → Int) : HRs := fun vs G2 => ∃ (p q : Addr) (ys zs : List V) (G1 : Hp), vs = [.ref p, .ref q] ∧ Same G G1 ∧ Same G1 G2 ∧ G p = none ∧ G1 p = some (.lst ys) ∧ RL (fun a => IsIRn G n (fj a)) (List.range n) ys G1 ∧ ys.Nodup ∧
  G1 q = none ∧ G2 q = some (.lst zs) ∧ RL (fun a => IsIRn G1 n (ft a)) (List.range n) zs G2 ∧ zs.Nodup
instance (G n fj ft) : Mons (TwoN G n fj ft) := ⟨fun s ⟨p, q, ys, zs, G1, e, a, b, c, d, f, g, h, i, j, k⟩ => ⟨p, q, ys, zs, G1, e, a, b.trans s, c, d, f, g, h, s _ _ i, rl_mon s j, k⟩⟩
theorem rl_row {F G : Hp} {n : Nat} {f : Nat → Nat → Int} : ∀ {l : List Nat} {vs : List V}, RL (fun a => IsIRn F n (f a)) l vs G → RL (fun a => IsIRow n (f a)) l vs G
  | [], _, h => h
  | _ :: _, _, ⟨v, w, e, ⟨q, e2, _, g⟩, r⟩ => ⟨v, w, e, ⟨q, e2, g⟩, rl_row r⟩
theorem tabN_ofN {F G : Hp} {n : Nat} {f : Nat → Nat → Int} {p : Addr} {vs : List V} (g : G p = some (.lst vs)) (rl : RL (fun a => IsIRn F n (f a)) (List.range n) vs G) : TabN G p n f := ⟨vs, g, rl_row rl⟩
/-- what was made behind F does not change with what stood in F -/
theorem tabN_upd {F G : Hp} {n : Nat} {f : Nat → Nat → Int} {p D : Addr} {vs : List V} {o u : HO} (g : G p = some (.lst vs)) (rl : RL (fun a => IsIRn F n (f a)) (List.range n) vs G) (fD : F D = some u) (fp : F p = none) : TabN (upd G D o) p n f := by
  have np : p ≠ D := fun z => by
    rw [z, fD] at fp
    cases fp
  refine ⟨vs, by rw [upd_ne np]; exact g, rl_of_get (by rw [rl_len rl]) fun i s y hs hy => ?_⟩
  obtain ⟨y', hy', q, rfl, fq, gq⟩ := rl_get rl hs
  rw [hy'] at hy
  obtain rfl := Option.some.inj hy
  exact ⟨q, rfl, by rw [upd_ne (fun z => by rw [z, fD] at fq; cases fq)]; exact gq⟩
/-- and what stood in F not with what was made behind it -/
theorem same_upd {F G : Hp} {D : Addr} {o : HO} (s : Same F G) (fD : F D = none) : Same F (upd G D o) := fun b u e => by
  rw [upd_ne (ne_of_none e fD)]
  exact s b u e
/-- C(x, p), x a scale of which P tells, the place as Pp tells -/
theorem ev_mkWtSP {S : SR} (st : Stab S) {n k : Nat} {t : TA} {σ : L2.St} {G : Hp} {K : PySem.W.Frag} {Cs : List Addr} {CW : Addr} {P : SD → Prop} {Pp : Int → Prop} {E : XK} (hp : ∀ d i, P d → Pp i → 0 ≤ i ∧ i < d.names.length) (e : EvA S n k t σ G (RCons (IsScP K Cs P) (RCons (IsI Pp) RNil))) :
    Ev S n k (tMake CW (spI (PWoI K Cs CW)) [] E t) σ G (fun v G' => ∃ d, ∃ p : Nat, P d ∧ Pp (p : Nat) ∧ IsWt K Cs CW d p v G') :=
  (ev_makeW (R := fun _ _ fs' G' => ∃ x d, ∃ p : Nat, P d ∧ Pp (p : Nat) ∧ p < d.names.length ∧ fs'.lookup ("scale" : Str) = some (.ref x) ∧ fs'.lookup ("place" : Str) = some (.int (p : Nat)) ∧ fs'.lookup ("name" : Str) = some (.str (d.names.getD p ("" : Str))) ∧ ScD K Cs d x G' ∧ ∀ f, f ∉ wtF → fs'.lookup f = none) st e fun vs G' s' e => by
    obtain ⟨_, _, rfl, ⟨d, ⟨x, rfl, sd⟩, pd⟩, _, _, rfl, ⟨i, hi, rfl⟩, e2⟩ := e
    obtain rfl := (show _ = [] from e2)
    have b := hp d i pd hi
    obtain ⟨p, rfl⟩ : ∃ p : Nat, i = (p : Nat) := ⟨i.toNat, by omega⟩
    exact ⟨_, ⟨rfl, rfl, x, d, p, rfl, sd, by omega, rfl⟩, fun a b' fs G h => ⟨x, d, p, pd, hi, by omega, h⟩⟩).imp fun v G' s' h => by
      obtain ⟨w, dx, fs, G2, rfl, gx, s2, x, d, p, pd, hi, hp', a, b, c, sd, f⟩ := h
      have s3 : Same G2 G' := fun c o e => s2 c o (by rw [upd_ne (ne_of_none e gx)]; exact e)
      exact ⟨d, p, pd, hi, w, rfl, dx, fs, x, s2 _ _ upd_same, a, b, c, sd.mono s3, hp', f⟩
end L2.DS
namespace L2.DS
open PySem PySem.Spec PyProof.Rows
def top (i : Nat) : Stmt := PySem.Challenge.pw_deedscale_k11_worth_operators.main.body.getD i (.Pass ⟨0, 0, 0, 0⟩)
local macro_rules | `(tactic| walk_at "sq") => `(tactic| first | assumption | exact SqL.of (by assumption) | exact SqT.of (by assumption) | (refine Same.seq (by assumption) ?_; walk_at "sq") | (refine same_t (by assumption) ?_; walk_at "sq"))
local macro_rules | `(tactic| walk_at "sd") => `(tactic| first | assumption | omega | decide | (simp; done) | (simp_all; done))
local macro_rules | `(tactic| walk_at "rv") => `(tactic| first
  | with_reducible exact v_add (by assumption) | with_reducible exact v_sub (by assumption) | with_reducible exact v_lt (by assumption) | with_reducible exact v_le (by assumption) | with_reducible exact v_gt (by assumption) | with_reducible exact v_ge (by assumption)
  | with_reducible exact v_eqI (by assumption) | with_reducible exact v_eqB (by assumption) | with_reducible exact v_eqS (by assumption) | with_reducible exact v_neI (by assumption) | with_reducible exact v_neS (by assumption)
  | ((with_reducible refine v_mod (by assumption) ?_); walk_at "sd") | ((with_reducible refine v_mul (by assumption) ?_); first | exact .inl ⟨by omega, by omega⟩ | exact .inr ⟨by omega, by omega⟩) | ((with_reducible refine v_div (by assumption) ?_); exact ⟨by omega, by omega⟩)
  | ((with_reducible apply v_ixL); assumption; walk_at "sq"; walk_at "sd") | ((with_reducible apply v_ixT); assumption; walk_at "sq"; walk_at "sd")
  | exact v_isN (by assumption) | exact v_notN (by assumption))
local macro_rules | `(tactic| walk_at "rc") => `(tactic| first
  | ((with_reducible apply c_lenL); assumption; walk_at "sq") | ((with_reducible apply c_lenT); assumption; walk_at "sq") | with_reducible exact c_abs (by assumption) | with_reducible exact c_int (by assumption) | with_reducible exact c_intB (by assumption))
local macro_rules | `(tactic| walk_at "ev") => `(tactic| first
  | with_reducible exact ev_c
  | ((with_reducible apply ev_var); rfl)
  | ((with_reducible apply ev_opV); walk_at "ev"; walk_at "ev"; walk_at "rv")
  | ((with_reducible apply ev_unV); walk_at "ev"; exact u_neg (by assumption))
  | ((with_reducible apply ev_ifV); assumption; walk_at "et"; (intro _; walk_at "ev"); (intro _; walk_at "ev"))
  | ((with_reducible apply ev_cbV); walk_at "ea"; walk_at "rc")
  | ((with_reducible apply ev_andV); assumption; walk_at "ev"; (intro _; walk_at "ev"))
  | ((with_reducible apply ev_orV); assumption; walk_at "ev"; (intro _; walk_at "ev"))
  | ((with_reducible apply ev_notV); walk_at "ev")
  | assumption)
local macro_rules | `(tactic| walk_at "ea") => `(tactic| first
  | with_reducible exact ea_nilV
  | ((with_reducible apply ea_consV); walk_at "ev"; walk_at "ea"))
local macro_rules | `(tactic| walk_at "et") => `(tactic| first
  | ((with_reducible apply et_testV); walk_at "ev")
  | ((with_reducible apply et_B); walk_at "ev")
  | ((with_reducible apply et_and); assumption; walk_at "et"; (intro _; walk_at "et"))
  | ((with_reducible apply et_or); assumption; walk_at "et"; (intro _; walk_at "et"))
  | ((with_reducible apply et_not); walk_at "et"))
local macro_rules | `(tactic| walk_at "qn") => `(tactic| repeat (with_reducible refine q_end ?_))
local macro_rules | `(tactic| walk_at "qif") => `(tactic| (walk_at "qn"; (with_reducible apply q_if); assumption; assumption; walk_at "et"))
local macro_rules | `(tactic| walk_at "qret") => `(tactic| (walk_at "qn"; (with_reducible apply q_retV); assumption; assumption; walk_at "ev"))
local macro_rules | `(tactic| walk_at "qset") => `(tactic| (walk_at "qn"; (with_reducible apply q_setV); assumption; assumption; walk_at "ev"))
section
variable {P : Program} {w : World} {K : PySem.W.Frag} {mg : Str → Option Value} {base : Heap}
theorem getInt {ns : List Int} {j : Nat} {x : V} (h : (ns.map V.int)[j]? = some x) : ∃ i, ns[j]? = some i ∧ x = .int i := by
  rw [List.getElem?_map] at h
  cases e : ns[j]? with
  | none => rw [e] at h; cases h
  | some i => rw [e] at h; exact ⟨i, rfl, (Option.some.inj h).symm⟩
theorem mapRange {ns : List Int} (g : Int → Int) {x : Nat → V} (m : Nat) (hm : m = ns.length) (h : ∀ j i, ns[j]? = some i → x j = .int (g i)) : (List.range m).map x = (ns.map g).map V.int := by
  subst hm
  refine List.ext_getElem? fun j => ?_
  rw [List.getElem?_map, List.getElem?_map, List.getElem?_map]
  by_cases hj : j < ns.length
  · rw [List.getElem?_range hj, List.getElem?_eq_getElem hj]
    show some (x j) = some (V.int (g ns[j]))
    rw [h j _ (List.getElem?_eq_getElem hj)]
  · rw [List.getElem?_eq_none (l := List.range ns.length) (by rw [List.length_range]; omega), List.getElem?_eq_none (l := ns) (by omega)]
    rfl
theorem getRev {ns : List Int} {j : Nat} (hj : j < ns.length) : atI (ns.map V.int) (((ns.map V.int).length : Int) - 1 - (j : Int)) = some (.int (ns.getD (ns.length - 1 - j) 0)) := by
  rw [show (((ns.map V.int).length : Nat) : Int) = (ns.length : Int) by rw [List.length_map]]
  have e : ((ns.length : Int) - 1 - (j : Int)) = ((ns.length - 1 - j : Nat) : Int) := by omega
  have h1 : ixN ns.length ((ns.length - 1 - j : Nat) : Int) = some (ns.length - 1 - j) := by
    unfold ixN
    rw [if_pos (by omega), if_pos (by omega)]
    all_goals rfl
  unfold atI
  rw [e, List.length_map, h1]
  show (ns.map V.int)[ns.length - 1 - j]? = _
  rw [List.getElem?_map, List.getElem?_eq_getElem (by omega), List.getD_eq_getElem?_getD, List.getElem?_eq_getElem (by omega)]
  rfl
theorem merge_src {cl : Addr} {l m t : Int} : mergeK [] (srcK cl l m t) = srcK cl l m t := by
  have a := ne_lc
  have b := ne_mc
  have c := ne_tc
  have d := ne_ml
  have e := ne_tl
  have f := ne_tm
  simp [mergeK, srcK, putK, a, b, c, d, e, f]
abbrev s__law_source : Stmt := top 44
theorem sc__law_source : FnScope ["_law_script", "_law_mixed", "_law_cell", "_law_cells", "_law_k"] ["_law_script"] (defScope s__law_source) := ⟨rfl, rfl, rfl, by decide +kernel, rfl, by decide +kernel, by decide +kernel⟩
theorem ok_source {f : Addr} {fd : FuncData} (Z : Bi mg) (F : Fun K "_law_source" "_law_source" s__law_source f fd) : FnOk P w K mg base CX0 1 f fd ["_law_script"] (sp_source K) := by
  refine F.ok sc__law_source (fun vs H Q E h => ?_) (fun cdv A outer s H vs Q E hr h => ?_)
  · obtain ⟨p, ns, rfl, _⟩ := h
    rfl
  · obtain ⟨p, ns, rfl, hq, hl, q⟩ := h
    refine ⟨_, (pss_cons (ps_set (i := 1) sc__law_source.nd rfl (Or.inl rfl) pe_int)
  (pss_cons (ps_for PassesOwn.never rfl (pi_listK K (pv 0)) (pg_name (i := 2) sc__law_source.nd rfl (Or.inl rfl)) (pss_cons (ps_set (i := 1) sc__law_source.nd rfl (Or.inl rfl) (pe_op op_modA (pe_callTy call_intA (by rfl) Z.z_int (by decide +kernel) (pa_cons (pe_op op_addA (pe_op op_addA (pe_op op_mulA (pv 1) pe_int) (pe_op op_mulA (pv 2) pe_int)) pe_int) pa_nil)) pe_int))
  pss_nil))
  (pss_cons (ps_set (i := 3) sc__law_source.nd rfl (Or.inr rfl) (pe_lc (own := [("_law_cell", 2)]) (g := (gName 2)) rfl sc__law_source.nd (pi_listK K (pv 0)) (blkOk_by (by kernel_rfl)) (fun _ _ _ _ _ => (pg_name (i := 2) sc__law_source.nd rfl (Or.inl rfl))) (fun _ _ _ _ _ => pts_nil) (fun _ _ _ _ _ => (pe_callB call_absA (by rfl) Z.z_abs (by decide +kernel) (pa_cons (pv 2) pa_nil)))))
  (pss_cons (ps_ret (pe_disp (pps_cons pe_str (pe_lc (own := [("_law_k", 4)]) (g := (gName 4)) rfl sc__law_source.nd (pi_range1 (by rfl) Z.z_range (pa_cons (pe_callB (call_lenA K) (by rfl) Z.z_len PySem.boot_len (pa_cons (pv 3) pa_nil)) pa_nil)) (blkOk_by (by kernel_rfl)) (fun _ _ _ _ _ => (pg_name (i := 4) sc__law_source.nd rfl (Or.inl rfl))) (fun _ _ _ _ _ => pts_nil) (fun _ _ _ _ _ => (pe_ix (ix_any K (hu_of hr)) (pv 3) (pe_op op_subA (pe_op op_subA (pe_callB (call_lenA K) (by rfl) Z.z_len PySem.boot_len (pa_cons (pv 3) pa_nil)) pe_int) (pv 4)) (fun _ _ => rfl)))) (pps_cons pe_str pe_int (pps_cons pe_str (pv 1) (pps_cons pe_str pe_int pps_nil)))) (by rfl) (by rfl) (fun z => by cases z) (by decide)))
  pss_nil)))), ?_⟩
    have st := stab0 H H
    have hS : SP0 H H 0 H H := Grow.refl (Same.refl H)
    show tSeq _ _ (Ends.mk _ _ _ _) [some _, none, none, none, none] _
    walk_at "qset"
    intro H1 k1 h1
    walk_at "qn"
    refine q_forL st h1 (ev_var rfl) hq (fun _ => 0) (fun j σ' G' H' => ∃ m c, 0 ≤ m ∧ m < 2147483629 ∧ σ' = [some (.ref p), some (.int m), c, none, none]) rfl (fun H2 k2 h2 => ⟨11, none, by decide, by decide, rfl⟩) (fun j x σ' G' H2 hx s2 h2 hp => ?_) (fun σ' G' H2 s2 h2 hp => ?_)
    · obtain ⟨m, c, hm0, hm1, rfl⟩ := hp
      obtain ⟨i, hi, rfl⟩ := getInt hx
      show tSeq _ _ (Ends.mk _ _ _ _) [some (.ref p), some (.int m), some (.int i), none, none] _
      have e1 : CMul m 69069 := .inr ⟨by decide, by decide⟩
      have e2 : CMul i 31 := .inr ⟨by decide, by decide⟩
      refine q_setV st h2 (ev_opV (ev_cbV (ea_consV (ev_opV (ev_opV (ev_opV (ev_var rfl) ev_c (v_mul st e1)) (ev_opV (ev_var rfl) ev_c (v_mul st e2)) (v_add st)) ev_c (v_add st)) ea_nilV) (c_int st)) ev_c (v_mod st (by decide))) fun H3 k3 h3 => ?_
      refine q_end ⟨G', s2, st.wk h3 (by omega), _, _, Int.emod_nonneg _ (by decide), Int.emod_lt_of_pos _ (by decide), rfl⟩
    · obtain ⟨m, c, hm0, hm1, rfl⟩ := hp
      walk_at "qn"
      refine q_set h2 (ev_lcL (c1 := 0) st (fun j => IsV (.int (if ns.getD j 0 < 0 then -ns.getD j 0 else ns.getD j 0))) (ev_var rfl) (s2.seq hq) (by rw [List.length_map]; exact hl) (fun j x G2 hx s3 => ?_) (fun x => rfl)) fun v G3 H3 s3 hv => ?_
      · obtain ⟨i, hi, rfl⟩ := getInt hx
        have e : ns.getD j 0 = i := by rw [List.getD_eq_getElem?_getD, hi]; rfl
        rw [e]
        exact ev_cbV (ea_consV (ev_var rfl) ea_nilV) (c_abs st)
      · obtain ⟨pl, rfl, hpl⟩ := isLR_V (K := K) hv.lr
        rw [mapRange (ns := ns) (fun i => if i < 0 then -i else i) _ (by rw [List.length_map]) (fun j i h => by rw [List.getD_eq_getElem?_getD, h]; rfl)] at hpl
        generalize hc : ns.map (fun i : Int => if i < 0 then -i else i) = cs at hpl
        have lc : cs.length = ns.length := by rw [← hc, List.length_map]
        have cp : ∀ c ∈ cs, 0 ≤ c := by
          intro c h
          rw [← hc] at h
          obtain ⟨i, _, rfl⟩ := List.mem_map.mp h
          show 0 ≤ (if i < 0 then -i else i)
          split <;> omega
        walk_at "qn"
        show tDisp _ _ _ Q
        intro sa hsa
        have sH3 : Same H H3 := s3.s.h
        have sA : Same G3 (upd H3 sa (.dK [])) := fun b o e => by
          rw [upd_ne (ne_of_none (s3.s.s b o e) hsa)]
          exact s3.s.s b o e
        have stA := stab0 G3 (upd H3 sa (.dK []))
        have hA : SP0 G3 (upd H3 sa (.dK [])) 0 G3 (upd H3 sa (.dK [])) := Grow.refl sA
        unfold tPairs
        refine tC_run ?_
        show tLc _ _ _ _ _ _ _ _
        refine ev_lcR (c1 := 0) stA (fun j => IsV (.int (cs.getD (cs.length - 1 - j) 0))) (ea_consV (ev_cbV (ea_consV (ev_var rfl) ea_nilV) (c_lenL stA hpl)) ea_nilV) (by omega) (by rw [List.length_map]; omega) (fun j G4 hj s4 => ?_) (fun x => rfl) G3 _ (Same.refl _) hA _ fun v G4 H4 s4 hv4 => ?_
        · rw [List.length_map] at hj
          exact ev_opV (ev_var rfl) (ev_opV (ev_opV (ev_cbV (ea_consV (ev_var rfl) ea_nilV) (c_lenL stA (s4.seq hpl))) ev_c (v_sub stA)) (ev_var rfl) (v_sub stA)) (v_ixL stA (s4.seq hpl) (getRev (by omega)))
        · obtain ⟨cl, ys, rfl, f4, h4, l4, r4⟩ := hv4
          have hsa4 : H4 sa = some (.dK []) := s4.k.k sa _ (fun z => z) upd_same
          have l5 : ys.length = cs.length := by rw [l4, Int.toNat_natCast, List.length_map]
          have ecl : ys = ((List.range cs.length).map fun j => cs.getD (cs.length - 1 - j) 0).map V.int := by
            refine List.ext_getElem? fun j => ?_
            by_cases hj : j < cs.length
            · have q1 : ys[j]? = some ys[j] := List.getElem?_eq_getElem (by omega)
              rw [q1, show ys[j] = V.int (cs.getD (cs.length - 1 - j) 0) from r4 j _ q1, List.getElem?_map, List.getElem?_map, List.getElem?_range hj]
              rfl
            · rw [List.getElem?_eq_none (by omega), List.getElem?_eq_none (by rw [List.length_map, List.length_map, List.length_range]; omega)]
          have hcl : H4 cl = some (.lst (((List.range cs.length).map fun j => cs.getD (cs.length - 1 - j) 0).map V.int)) := by
            rw [← ecl]
            exact (stA.sub s4.s) _ _ h4
          have nsa : cl ≠ sa := fun z => by
            rw [z, hsa4] at hcl
            cases hcl
          unfold tPairs
          refine tC_run (tC_run ?_)
          unfold tPairs
          refine tC_run (tVar_run rfl ?_)
          unfold tPairs
          refine tC_run (tC_run ?_)
          unfold tPairs
          refine ⟨hsa4, srcK cl 1 m 0, rfl, (by decide : 4 ≤ 15), ?_⟩
          rw [merge_src]
          refine q sa cl _ (fun b o e => ?_) (sH3.free hsa) ((s2.trans s3.g).free f4) ⟨_, 1, m, 0, upd_same, by rw [upd_ne nsa]; exact hcl, fun c hc => ?_, by decide, hm0, hm1, by decide, by decide⟩
          · have e3 := sH3 b o e
            have nb := ne_of_none e3 hsa
            rw [upd_ne nb]
            exact s4.k.k b o (fun z => z) (by rw [upd_ne nb]; exact e3)
          · obtain ⟨j, hj, rfl⟩ := List.mem_map.mp hc
            have := List.mem_range.mp hj
            rw [List.getD_eq_getElem?_getD, List.getElem?_eq_getElem (by omega)]
            exact cp _ (List.getElem_mem _)
abbrev s__law_pick : Stmt := top 45
theorem sc__law_pick : FnScope ["_law_source_here", "_law_many", "_law_cells", "_law_left", "_law_turn", "_law_mixed"] ["_law_source_here", "_law_many"] (defScope s__law_pick) := ⟨rfl, rfl, rfl, by decide +kernel, rfl, by decide +kernel, by decide +kernel⟩
theorem kp_upd {S : SR} {H J : Hp} {a : Addr} {o : HO} (k : Kp S H J) (m : S.m a) : Kp S H (upd J a o) := ⟨fun b u nm e => by
  rw [upd_ne (fun z => nm (by rw [z]; exact m))]
  exact k.k b u nm e, fun b e => by
  by_cases hb : b = a
  · rw [hb, upd_same] at e
    cases e
  · rw [upd_ne hb] at e
    exact k.v b e⟩
theorem src_end {sa cl : Addr} {n : Nat} {G H F : Hp} (sG : Same G H) (gs : G sa = none) (gc : G cl = none) (k : Kp (Src sa cl) H F) (h : SrcAt sa cl n F) : Stp (Src sa cl) n G H G F :=
  ⟨Same.refl _, k, ⟨fun b o e => k.k b o (fun z => by
    rcases z with z | z
    · rw [z, gs] at e
      cases e
    · rw [z, gc] at e
      cases e) (sG b o e), gs, gc, h⟩, fun _ _ e => .inl e⟩
/-- cells are popped until a number is left -/
def PopAt (st cl : Addr) (mx t : Int) (H0 : Hp) (cs : List Int) (l : Int) (H : Hp) : Prop := Kp (Src st cl) H0 H ∧ H st = some (srcD cl l mx t) ∧ H cl = some (.lst (cs.map V.int)) ∧ (∀ c ∈ cs, 0 ≤ c) ∧ 0 ≤ l
theorem ok_pick {f : Addr} {fd : FuncData} (Z : Bi mg) (F : Fun K "_law_pick" "_law_pick" s__law_pick f fd) : FnOk P w K mg base CX0 1 f fd ["_law_source_here", "_law_many"] sp_pick := by
  refine F.ok sc__law_pick (fun vs H Q E h => ?_) (fun cdv A outer s H vs Q E hr h => ?_)
  · obtain ⟨_, _, _, _, _, _, _, ⟨_, rfl, _⟩, _⟩ := h
    rfl
  · obtain ⟨sa, cl, n, k, G, R, hS, ⟨many, rfl, hm1, hm2, rfl, rfl⟩, q⟩ := h
    refine ⟨_, (pss_cons (ps_if (pt_cmpR op_ltA (pv 1) pe_int (nomark _)) (pss_cons (ps_ret pe_int)
  pss_nil) pss_nil)
  (pss_cons (ps_set (i := 2) sc__law_pick.nd rfl (Or.inl rfl) (pe_ix (ix_any K (hu_of hr)) (pv 0) pe_str (fun _ _ => rfl)))
  (pss_cons (ps_while PassesOwn.never (PW.pt (pw_and (pt_cmpR op_ltA (pe_ix (ix_any K (hu_of hr)) (pv 0) pe_str (fun _ _ => rfl)) pe_int (nomark _)) (pw_and1 (pt_cmpR op_gtA (pe_callB (call_lenA K) (by rfl) Z.z_len PySem.boot_len (pa_cons (pv 2) pa_nil)) pe_int (nomark _))))) (pss_cons (ps_asg (pe_bm0 PySem.F.plainAttrs_list PySem.F.slot_list_pop PySem.F.type_list_pop mt_pop (pv 2)) (pg_sub (pv 0) pe_str (set_any (hu_of hr))))
  pss_nil))
  (pss_cons (ps_set (i := 3) sc__law_pick.nd rfl (Or.inl rfl) (pe_ix (ix_any K (hu_of hr)) (pv 0) pe_str (fun _ _ => rfl)))
  (pss_cons (ps_if (pt_cmpR op_gtA (pv 3) pe_int (nomark _)) (pss_cons (ps_asg (pe_op op_divA (pv 3) (pv 1)) (pg_sub (pv 0) pe_str (set_any (hu_of hr))))
  (pss_cons (ps_ret (pe_op op_modA (pe_callTy call_intA (by rfl) Z.z_int (by decide +kernel) (pa_cons (pv 3) pa_nil)) (pv 1)))
  pss_nil)) pss_nil)
  (pss_cons (ps_asg (pe_op op_addA (pe_ix (ix_any K (hu_of hr)) (pv 0) pe_str (fun _ _ => rfl)) pe_int) (pg_sub (pv 0) pe_str (set_any (hu_of hr))))
  (pss_cons (ps_set (i := 4) sc__law_pick.nd rfl (Or.inl rfl) (pe_ix (ix_any K (hu_of hr)) (pv 0) pe_str (fun _ _ => rfl)))
  (pss_cons (ps_set (i := 5) sc__law_pick.nd rfl (Or.inl rfl) (pe_op op_modA (pe_callTy call_intA (by rfl) Z.z_int (by decide +kernel) (pa_cons (pe_op op_addA (pe_ix (ix_any K (hu_of hr)) (pv 0) pe_str (fun _ _ => rfl)) (pe_op op_mulA (pv 4) pe_int)) pa_nil)) pe_int))
  (pss_cons (ps_set (i := 5) sc__law_pick.nd rfl (Or.inl rfl) (pe_op op_modA (pe_callTy call_intA (by rfl) Z.z_int (by decide +kernel) (pa_cons (pe_op op_addA (pe_op op_mulA (pv 5) (pv 5)) (pe_op op_mulA (pv 4) pe_int)) pa_nil)) pe_int))
  (pss_cons (ps_if (pt_cmpR op_gtA (pv 1) (pe_op op_pow pe_int pe_int) (nomark _)) (pss_cons (ps_set (i := 5) sc__law_pick.nd rfl (Or.inl rfl) (pe_op op_pow (pe_callTy call_intA (by rfl) Z.z_int (by decide +kernel) (pa_cons (pe_op op_addA (pe_op op_mulA (pv 5) pe_int) (pv 4)) pa_nil)) pe_int))
  pss_nil) pss_nil)
  (pss_cons (ps_ret (pe_op op_modA (pe_callTy call_intA (by rfl) Z.z_int (by decide +kernel) (pa_cons (pe_op op_divA (pv 5) pe_int) pa_nil)) (pv 1)))
  pss_nil))))))))))), ?_⟩
    obtain ⟨sG, gs, gc, cs, l, mx, t, hsa, hcl, hcs, hl0, hx0, hx1, ht0, ht1⟩ := hS
    have nsc : sa ≠ cl := ne_of hsa hcl (by intro z; cases z)
    have st := stab0 H H
    have h0 : SP0 H H 0 H H := Grow.refl (Same.refl H)
    show tSeq _ _ (Ends.mk _ _ _ _) [some _, some _, none, none, none, none] _
    refine q_if st h0 (et_testV (ev_opV (ev_var rfl) ev_c (v_lt st))) (fun H1 p k1 h1 => ?_) (fun H1 p k1 h1 => ?_)
    · refine q_retV st h1 ev_c fun H2 k2 h2 => ?_
      have p : many < 2 := by simpa using p
      have kk := k1.trans k2
      refine q _ G H2 ⟨Same.refl _, ⟨fun b o _ e => kk.k b o (fun z => z) e, kk.v⟩, ⟨fun b o e => h2.s _ _ (sG b o e), gs, gc, cs, l, mx, t, h2.s _ _ hsa, h2.s _ _ hcl, hcs, hl0, hx0, hx1, ht0, by omega⟩, fun _ _ e => .inl e⟩ ⟨0, ⟨by decide, .inr ⟨p, rfl⟩⟩, rfl⟩
    · have p : 2 ≤ many := by simpa using p
      refine q_end ?_
      refine q_setV st h1 (ev_opV (ev_var rfl) ev_c (v_ixDs st hsa src_c)) fun H2 k2 h2 => ?_
      have hPop : PopAt sa cl mx t H cs l H2 := ⟨⟨fun b o _ e => (k1.trans k2).k b o (fun z => z) e, (k1.trans k2).v⟩, h2.s _ _ hsa, h2.s _ _ hcl, hcs, hl0⟩
      clear hsa hcl
      refine ⟨fun m σ' J => σ' = [some (.ref sa), some (.int many), some (.ref cl), none, none, none] ∧ ∃ cs l, m = cs.length ∧ PopAt sa cl mx t H cs l J, ⟨cs.length, rfl, cs, l, rfl, hPop⟩, ?_⟩
      clear hPop hcs hl0 cs l
      rintro m σ' J ⟨rfl, cs, l, rfl, kJ, hsa, hcl, hcs, hl0⟩
      have stJ := stab0 J J
      have hJ : SP0 J J 0 J J := Grow.refl (Same.refl J)
      refine et_and stJ (et_testV (ev_opV (ev_opV (ev_var rfl) ev_c (v_ixDs stJ hsa src_l)) ev_c (v_lt stJ))) (fun _ => et_testV (ev_opV (ev_cbV (ea_consV (ev_var rfl) ea_nilV) (c_lenL stJ (SqL.of hcl))) ev_c (v_gt stJ))) J J (Same.refl _) hJ _ fun b G2 J2 s2 e => ?_
      have sJ := s2.same
      have kJ2 : Kp (Src sa cl) H J2 := kJ.trans ⟨fun b o _ e => sJ b o e, fun b h => sJ.free h⟩
      have hsa2 := sJ _ _ hsa
      have hcl2 := sJ _ _ hcl
      cases b with
      | true =>
        rw [if_pos rfl]
        have e := (Bool.and_eq_true _ _).mp e.symm
        have e1 : 0 < cs.length := by have := e.2; simpa using this
        refine ⟨fun σ3 J3 => ∃ m', m' < cs.length ∧ σ3 = [some (.ref sa), some (.int many), some (.ref cl), none, none, none] ∧ ∃ cs l, m' = cs.length ∧ PopAt sa cl mx t H cs l J3, fun _ _ z => z, ?_⟩
        have ed : (cs.map V.int).dropLast = cs.dropLast.map V.int := by rw [List.map_dropLast]
        have hy : (cs.map V.int)[(cs.map V.int).length - 1]? = some (.int (cs.getD (cs.length - 1) 0)) := by
          rw [List.length_map, List.getElem?_map, List.getElem?_eq_getElem (by omega), List.getD_eq_getElem?_getD, List.getElem?_eq_getElem (by omega)]
          rfl
        refine ⟨_, rfl, .inl ⟨rfl, _, SqL.of hcl2⟩, cl, _, _, rfl, rfl, hcl2, hy, ?_⟩
        rw [ed]
        have hs3 : upd J2 cl (.lst (cs.dropLast.map V.int)) sa = some (srcD cl l mx t) := by rw [upd_ne nsc]; exact hsa2
        refine ⟨_, rfl, tC_run (.inr ⟨sa, _, rfl, DPut.k (k := .inr ("left" : Str)) hs3 src_len, ?_⟩)⟩
        rw [put_l]
        refine ⟨cs.length - 1, by omega, rfl, cs.dropLast, cs.getD (cs.length - 1) 0, by rw [List.length_dropLast], kp_upd (kp_upd kJ2 (.inr rfl)) (.inl rfl), upd_same, by rw [upd_ne (Ne.symm nsc)]; exact upd_same, fun c hc => hcs c (List.dropLast_subset _ hc), ?_⟩
        rw [List.getD_eq_getElem?_getD, List.getElem?_eq_getElem (by omega)]
        exact hcs _ (List.getElem_mem _)
      | false =>
        rw [if_neg (by decide)]
        have e : 2 ≤ l ∨ cs = [] := by
          by_cases h2 : l < 2
          · simp [h2] at e
            exact .inr e
          · exact .inl (by omega)
        generalize hB : J2 = B at *
        have stB := stab0 B B
        have hB : SP0 B B 0 B B := Grow.refl (Same.refl B)
        refine q_setV stB hB (ev_opV (ev_var rfl) ev_c (v_ixDs stB hsa2 src_l)) fun C1 kc1 hc1 => ?_
        refine q_if stB hc1 (et_testV (ev_opV (ev_var rfl) ev_c (v_gt stB))) (fun C2 p2 kc2 hc2 => ?_) (fun C2 p2 kc2 hc2 => ?_)
        · have p2 : 1 < l := by simpa using p2
          refine (ev_opV (ev_var rfl) (ev_var rfl) (v_divW stB (wide_div (b := 2000) (by omega) (by omega) (by decide) (by decide)))) B C2 (Same.refl _) hc2 _ fun v G3 C3 s3 ev => ?_
          obtain rfl : v = _ := ev
          have s3 := s3.same
          have hsa3 : C3 sa = some (srcD cl l mx t) := s3 _ _ (hc2.s _ _ hsa2)
          refine ⟨_, rfl, tC_run (.inr ⟨sa, _, rfl, DPut.k (k := .inr ("left" : Str)) hsa3 src_len, ?_⟩)⟩
          rw [put_l]
          show tSeq _ _ (Ends.mk _ _ _ _) [some (.ref sa), some (.int many), some (.ref cl), some (.int l), none, none] (upd C3 sa (srcD cl (l / many) mx t))
          have kE : Kp (Src sa cl) H (upd C3 sa (srcD cl (l / many) mx t)) := kp_upd ((kJ2.trans (Kp.of hc2.s)).trans (Kp.of s3)) (.inl rfl)
          have hE1 : upd C3 sa (srcD cl (l / many) mx t) sa = some (srcD cl (l / many) mx t) := upd_same
          have hE2 : upd C3 sa (srcD cl (l / many) mx t) cl = some (.lst (cs.map V.int)) := by
            rw [upd_ne (Ne.symm nsc)]
            exact s3 _ _ (hc2.s _ _ hcl2)
          generalize upd C3 sa (srcD cl (l / many) mx t) = C at *
          have stE := stab0 C C
          have hE : SP0 C C 0 C C := Grow.refl (Same.refl C)
          refine q_retV stE hE (ev_opV (ev_cbV (ea_consV (ev_var rfl) ea_nilV) (c_int stE)) (ev_var rfl) (v_mod stE (j := many) (by omega))) fun F kf hf => ?_
          exact q _ G F (src_end sG gs gc (kE.trans (Kp.of hf.s)) ⟨cs, _, mx, t, hf.s _ _ hE1, hf.s _ _ hE2, hcs, Int.ediv_nonneg hl0 (by omega), hx0, hx1, ht0, by omega⟩) ⟨_, ⟨Int.emod_nonneg _ (by omega), .inl (Int.emod_lt_of_pos _ (by omega))⟩, rfl⟩
        · have p2 : ¬ 1 < l := by simpa using p2
          refine q_end ?_
          refine (ev_opV (ev_opV (ev_var rfl) ev_c (v_ixDs stB hsa2 src_t)) ev_c (v_add stB)) B C2 (Same.refl _) hc2 _ fun v G3 C3 s3 ev => ?_
          obtain rfl : v = _ := ev
          have s3 := s3.same
          have hsa3 : C3 sa = some (srcD cl l mx t) := s3 _ _ (hc2.s _ _ hsa2)
          refine ⟨_, rfl, tC_run (.inr ⟨sa, _, rfl, DPut.k (k := .inr ("turn" : Str)) hsa3 src_len, ?_⟩)⟩
          rw [put_t]
          show tSeq _ _ (Ends.mk _ _ _ _) [some (.ref sa), some (.int many), some (.ref cl), some (.int l), none, none] (upd C3 sa (srcD cl l mx (t + 1)))
          have kE : Kp (Src sa cl) H (upd C3 sa (srcD cl l mx (t + 1))) := kp_upd ((kJ2.trans (Kp.of hc2.s)).trans (Kp.of s3)) (.inl rfl)
          have hE1 : upd C3 sa (srcD cl l mx (t + 1)) sa = some (srcD cl l mx (t + 1)) := upd_same
          have hE2 : upd C3 sa (srcD cl l mx (t + 1)) cl = some (.lst (cs.map V.int)) := by
            rw [upd_ne (Ne.symm nsc)]
            exact s3 _ _ (hc2.s _ _ hcl2)
          generalize upd C3 sa (srcD cl l mx (t + 1)) = C at *
          have stE := stab0 C C
          have hE : SP0 C C 0 C C := Grow.refl (Same.refl C)
          refine q_setV stE hE (ev_opV (ev_var rfl) ev_c (v_ixDs stE hE1 src_t)) fun F1 kf1 hf1 => ?_
          refine q_setV stE hf1 (ev_opV (ev_cbV (ea_consV (ev_opV (ev_opV (ev_var rfl) ev_c (v_ixDs stE hE1 src_m)) (ev_opV (ev_var rfl) ev_c (v_mul stE (.inr ⟨by decide, by decide⟩))) (v_add stE)) ea_nilV) (c_int stE)) ev_c (v_mod stE (by decide))) fun F2 kf2 hf2 => ?_
          have r1 : 0 ≤ (mx + (t + 1) * 104729) % 998244353 := Int.emod_nonneg _ (by decide)
          have r2 : (mx + (t + 1) * 104729) % 998244353 < 998244353 := Int.emod_lt_of_pos _ (by decide)
          generalize (mx + (t + 1) * 104729) % 998244353 = m1 at *
          refine q_setV stE hf2 (ev_opV (ev_cbV (ea_consV (ev_opV (ev_opV (ev_var rfl) (ev_var rfl) (v_mul stE (.inl ⟨by omega, by omega⟩))) (ev_opV (ev_var rfl) ev_c (v_mul stE (.inr ⟨by decide, by decide⟩))) (v_add stE)) ea_nilV) (c_int stE)) ev_c (v_mod stE (by decide))) fun F3 kf3 hf3 => ?_
          have r3 : 0 ≤ (m1 * m1 + (t + 1) * 17) % 2147483647 := Int.emod_nonneg _ (by decide)
          have r4 : (m1 * m1 + (t + 1) * 17) % 2147483647 < 2147483647 := Int.emod_lt_of_pos _ (by decide)
          generalize (m1 * m1 + (t + 1) * 17) % 2147483647 = m2 at *
          refine q_if stE hf3 (et_testV (ev_opV (ev_var rfl) (ev_opV ev_c ev_c (v_pow stE ⟨by decide, by decide, by decide⟩)) (v_gt stE))) (fun F4 p4 kf4 hf4 => ?_) (fun F4 p4 kf4 hf4 => ?_)
          · have p4 : (10 : Int) ^ (7 : Nat) < many := of_decide_eq_true p4.symm
            have nb : n < 2 ^ 60 := hm2 p4
            refine q_setV stE hf4 (ev_opV (ev_cbV (ea_consV (ev_opV (ev_opV (ev_var rfl) ev_c (v_mul stE (.inr ⟨by decide, by decide⟩))) (ev_var rfl) (v_add stE)) ea_nilV) (c_int stE)) ev_c (v_pow stE ⟨by decide, by decide, ?_⟩)) fun F5 kf5 hf5 => ?_
            · omega
            · refine q_end ?_
              refine q_retV stE hf5 (ev_opV (ev_cbV (ea_consV (ev_opV (ev_var rfl) ev_c (v_div stE ⟨by decide, by decide⟩)) ea_nilV) (c_int stE)) (ev_var rfl) (v_mod stE (by omega))) fun F6 kf6 hf => ?_
              exact q _ G F6 (src_end sG gs gc (kE.trans (Kp.of hf.s)) ⟨cs, _, mx, t + 1, hf.s _ _ hE1, hf.s _ _ hE2, hcs, hl0, hx0, hx1, by omega, by omega⟩) ⟨_, ⟨Int.emod_nonneg _ (by omega), .inl (Int.emod_lt_of_pos _ (by omega))⟩, rfl⟩
          · refine q_end ?_
            refine q_retV stE hf4 (ev_opV (ev_cbV (ea_consV (ev_opV (ev_var rfl) ev_c (v_div stE ⟨by decide, by decide⟩)) ea_nilV) (c_int stE)) (ev_var rfl) (v_mod stE (by omega))) fun F6 kf6 hf => ?_
            exact q _ G F6 (src_end sG gs gc (kE.trans (Kp.of hf.s)) ⟨cs, _, mx, t + 1, hf.s _ _ hE1, hf.s _ _ hE2, hcs, hl0, hx0, hx1, by omega, by omega⟩) ⟨_, ⟨Int.emod_nonneg _ (by omega), .inl (Int.emod_lt_of_pos _ (by omega))⟩, rfl⟩
abbrev s_Scale___init__ : Stmt := inClass (top 15) 0
theorem sc_Scale___init__ : FnScope ["self", "label", "names", "never_at", "still_at", "depth", "places", "place", "name", "a", "b"] ["self", "label", "names", "never_at", "still_at", "depth"] (defScope s_Scale___init__) := ⟨rfl, rfl, rfl, by decide +kernel, rfl, by decide +kernel, by decide +kernel⟩
theorem ok_Scale_init {C : Addr} {PT PJ : List V → Hp → HR → Prop} (Z : Bi mg) (hC : Cls K C) (hN : ∀ f ∈ scF, NoAttr K C f) (c_then : Method P w K mg base C "make_then" CX0 5 ["self", "first", "second"] [] (spP PT)) (c_join : Method P w K mg base C "make_join" CX0 5 ["self", "first", "second"] [] (spP PJ))
    {f : Addr} {fd : FuncData} (F : FunD K "__init__" "Scale.__init__" (defArgs s_Scale___init__) (defBody s_Scale___init__) (defScope s_Scale___init__) [.int 1] [] f fd) : FnOk P w K mg base CX0 6 f fd ["self", "label", "names", "never_at", "still_at", "depth"] (spI (PScI K C PT PJ)) := by
  refine okD F sc_Scale___init__ (fun vs H Q E h => ?_) (fun cdv A outer s H vs Q E hr h => ?_)
  · obtain ⟨x, C', dx, fs, rest, G, R, rfl, _, _, _, ⟨_, label, pn, names, nv, sl, dep, th, jn, rfl, _⟩, _⟩ := h
    rfl
  · obtain ⟨x, C', dx, fs, rest, G, R, rfl, hx, hG, gx, ⟨rfl, label, pn, names, nv, sl, dep, th, jn, rfl, hq, hnl, hnd, hfl, hm1, hm2, hM, rfl⟩, q⟩ := h
    refine ⟨_, (pss_cons (ps_fld (pv 0) (pv 1) rfl)
  (pss_cons (ps_fld (pv 0) (pe_callB (call_lenA K) (by rfl) Z.z_len PySem.boot_len (pa_cons (pv 2) pa_nil)) rfl)
  (pss_cons (ps_fld (pv 0) (pv 3) rfl)
  (pss_cons (ps_fld (pv 0) (pv 4) rfl)
  (pss_cons (ps_fld (pv 0) (pv 5) rfl)
  (pss_cons (ps_fld (pv 0) (pe_callTy (call_tupleA K) (by rfl) Z.z_tuple (by decide +kernel) (pa_cons (pv 2) pa_nil)) rfl)
  (pss_cons (ps_fld (pv 0) (pe_dc (own := [("place", 7), ("name", 8)]) (g := (gTup _ 2 (gCons (gName 7) (gCons (gName 8) gNil)))) rfl sc_Scale___init__.nd (pi_enum (by rfl) Z.z_enumerate (pa_cons (pv 2) pa_nil)) (blkOk_by (by kernel_rfl)) (fun _ _ _ _ _ => (pg_tup rfl (pgs_cons (pg_name (i := 7) sc_Scale___init__.nd rfl (Or.inl rfl)) (pgs_cons (pg_name (i := 8) sc_Scale___init__.nd rfl (Or.inl rfl)) pgs_nil)))) (fun _ _ _ _ _ => pts_nil) (fun _ _ _ _ _ => (pv 8)) (fun _ _ _ _ _ => (pv 7))) rfl)
  (pss_cons (ps_set (i := 6) sc_Scale___init__.nd rfl (Or.inr rfl) (pe_listRg rfl (by rfl) Z.z_list (prg_1 (by rfl) Z.z_range (pe_callB (call_lenA K) (by rfl) Z.z_len PySem.boot_len (pa_cons (pv 2) pa_nil)))))
  (pss_cons (ps_fld (pv 0) (pe_callTy (call_tupleA K) (by rfl) Z.z_tuple (by decide +kernel) (pa_cons (pe_lc (own := [("a", 9)]) (g := (gName 9)) rfl sc_Scale___init__.nd (pi_listK K (pv 6)) (blkOk_by (by kernel_rfl)) (fun _ _ _ _ _ => (pg_name (i := 9) sc_Scale___init__.nd rfl (Or.inr rfl))) (fun _ _ _ _ _ => pts_nil) (fun _ _ _ _ _ => (pe_callTy (call_tupleA K) (by rfl) Z.z_tuple (by decide +kernel) (pa_cons (pe_lc (own := [("b", 10)]) (g := (gName 10)) rfl sc_Scale___init__.nd (pi_listK K (pv 6)) (blkOk_by (by kernel_rfl)) (fun _ _ _ _ _ => (pg_name (i := 10) sc_Scale___init__.nd rfl (Or.inl rfl))) (fun _ _ _ _ _ => pts_nil) (fun _ _ _ _ _ => (pe_methC c_then (hr.mono (by decide)) pass0 (pv 0) (pa_cons (pv 9) (pa_cons (pv 10) pa_nil))))) pa_nil)))) pa_nil)) rfl)
  (pss_cons (ps_fld (pv 0) (pe_callTy (call_tupleA K) (by rfl) Z.z_tuple (by decide +kernel) (pa_cons (pe_lc (own := [("a", 9)]) (g := (gName 9)) rfl sc_Scale___init__.nd (pi_listK K (pv 6)) (blkOk_by (by kernel_rfl)) (fun _ _ _ _ _ => (pg_name (i := 9) sc_Scale___init__.nd rfl (Or.inr rfl))) (fun _ _ _ _ _ => pts_nil) (fun _ _ _ _ _ => (pe_callTy (call_tupleA K) (by rfl) Z.z_tuple (by decide +kernel) (pa_cons (pe_lc (own := [("b", 10)]) (g := (gName 10)) rfl sc_Scale___init__.nd (pi_listK K (pv 6)) (blkOk_by (by kernel_rfl)) (fun _ _ _ _ _ => (pg_name (i := 10) sc_Scale___init__.nd rfl (Or.inl rfl))) (fun _ _ _ _ _ => pts_nil) (fun _ _ _ _ _ => (pe_methC c_join (hr.mono (by decide)) pass0 (pv 0) (pa_cons (pv 9) (pa_cons (pv 10) pa_nil))))) pa_nil)))) pa_nil)) rfl)
  pss_nil)))))))))), ?_⟩
    have n1 : ∀ {f : Str}, f ∈ scF → NoAttr K C' f := fun h => hN _ h
    have l0 : names.map V.str = names.map V.str := rfl
    have ll : ((names.map V.str).length : Int) = (names.length : Nat) := by rw [List.length_map]
    have h0 := own_start (o := .ins C' dx fs) hG gx hx 0
    show tSeq _ _ (Ends.mk _ _ _ _) [some _, some _, some _, some _, some _, some _, none, none, none, none, none] _
    refine q_fldV h0 (ev_var rfl) rfl hC (n1 (by decide)) (by omega) fun H1 h1 => ?_
    have z1 := putF_len ("label" : Str) (.str label) fs
    have st := stabO G H x (.ins C' dx (putF ("label" : Str) (.str label) fs))
    refine q_fldV h1 (ev_cbV (ea_consV (ev_var rfl) ea_nilV) (c_lenL st hq)) rfl hC (n1 (by decide)) (by omega) fun H2 h2 => ?_
    rw [ll] at h2
    generalize e2 : putF ("size" : Str) (.int (names.length : Nat)) (putF ("label" : Str) (.str label) fs) = f2 at h2
    have z2 : f2.length ≤ fs.length + 2 := by rw [← e2]; exact Nat.le_trans (putF_len _ _ _) (by omega)
    refine q_fldV h2 (ev_var rfl) rfl hC (n1 (by decide)) (by omega) fun H3 h3 => ?_
    generalize e3 : putF ("never_at" : Str) (.int nv) f2 = f3 at h3
    have z3 : f3.length ≤ fs.length + 3 := by rw [← e3]; exact Nat.le_trans (putF_len _ _ _) (by omega)
    refine q_fldV h3 (ev_var rfl) rfl hC (n1 (by decide)) (by omega) fun H4 h4 => ?_
    generalize e4 : putF ("still_at" : Str) (.int sl) f3 = f4 at h4
    have z4 : f4.length ≤ fs.length + 4 := by rw [← e4]; exact Nat.le_trans (putF_len _ _ _) (by omega)
    refine q_fldV h4 (ev_var rfl) rfl hC (n1 (by decide)) (by omega) fun H5 h5 => ?_
    generalize e5 : putF ("depth" : Str) (.int dep) f4 = f5 at h5
    have z5 : f5.length ≤ fs.length + 5 := by rw [← e5]; exact Nat.le_trans (putF_len _ _ _) (by omega)
    have st5 := stabO G H x (.ins C' dx f5)
    refine q_fldO h5 (ev_cbV (ea_consV (ev_var rfl) ea_nilV) (c_tupN st5 hq)) rfl hC (n1 (by decide)) (by omega) fun v6 G6 H6 s6 h6 r6 => ?_
    obtain ⟨p6, rfl, _, g6⟩ := r6
    generalize e6 : putF ("worth_names" : Str) (.ref p6) f5 = f6 at h6
    have z6 : f6.length ≤ fs.length + 6 := by rw [← e6]; exact Nat.le_trans (putF_len _ _ _) (by omega)
    have st6 := stabO G H x (.ins C' dx f6)
    refine q_fldO h6 (ev_dcE st6 (ea_consV (ev_var rfl) ea_nilV) (s6.seq hq) (by omega) hnd (by decide) (Nat.le_of_ble_eq_true rfl) (Nat.le_of_ble_eq_true rfl) (fun _ _ => rfl)) rfl hC (n1 (by decide)) (by omega) fun v7 G7 H7 s7 h7 r7 => ?_
    obtain ⟨p7, rfl, _, g7⟩ := r7
    generalize e7 : putF ("worth_places" : Str) (.ref p7) f6 = f7 at h7
    have z7 : f7.length ≤ fs.length + 7 := by rw [← e7]; exact Nat.le_trans (putF_len _ _ _) (by omega)
    have st7 := stabO G H x (.ins C' dx f7)
    have s67 := s6.trans s7
    refine q_set h7 (ev_listRg st7 (ev_cbV (ea_consV (ev_var rfl) ea_nilV) (c_lenL st7 (s67.seq hq))) (by omega) (by rw [ll]; omega)) fun v8 G8 H8 s8 r8 => ?_
    obtain ⟨p8, rfl, _, g8⟩ := r8
    rw [ll, Int.toNat_natCast] at g8
    have off7 : ∀ f, f ∉ scF → f7.lookup f = fs.lookup f := fun f hf => by
      rw [← e7, ← e6, ← e5, ← e4, ← e3, ← e2]
      iterate 7 rw [lk_off hf (by decide)]
    have s08 := s67.trans s8.g
    refine q_fldO s8.s (ev_look (R := IsTN names.length fun i => IsTN names.length fun j => IsV (.int (th i j))) (fun G1 s1 x1 => ev_table stabA upd_same (by rw [off7 _ (by decide)]; exact hm1) (by rw [upd_ne (ne_of_none (s1 _ _ g8) x1)]; exact s1 _ _ g8) (by omega)
      (fun G' s' a b ha hb => (hM x dx f7 G' (fun c o e => s' c o (by rw [upd_ne (ne_of_none (s1 _ _ (s08 _ _ e)) x1)]; exact s1 _ _ (s08 _ _ e))) (s' _ _ upd_same) off7 a b ha hb).1)) (fun v G2 r z => tab_del r z)) rfl hC (n1 (by decide)) (by omega) fun v9 G9 H9 s9 h9 r9 => ?_
    obtain ⟨p9, ys9, rfl, r9⟩ := r9
    have r9 : Tab G9 p9 names.length th := ⟨p9, ys9, rfl, r9⟩
    generalize e9 : putF ("product_table" : Str) (.ref p9) f7 = f9 at h9
    have z9 : f9.length ≤ fs.length + 8 := by rw [← e9]; exact Nat.le_trans (putF_len _ _ _) (by omega)
    have off9 : ∀ f, f ∉ scF → f9.lookup f = fs.lookup f := fun f hf => by
      rw [← e9, lk_off hf (by decide)]
      exact off7 f hf
    have s09 := s08.trans s9
    have g8' := s9 _ _ g8
    refine q_fldO h9 (ev_look (R := IsTN names.length fun i => IsTN names.length fun j => IsV (.int (jn i j))) (fun G1 s1 x1 => ev_table stabA upd_same (by rw [off9 _ (by decide)]; exact hm2) (by rw [upd_ne (ne_of_none (s1 _ _ g8') x1)]; exact s1 _ _ g8') (by omega)
      (fun G' s' a b ha hb => (hM x dx f9 G' (fun c o e => s' c o (by rw [upd_ne (ne_of_none (s1 _ _ (s09 _ _ e)) x1)]; exact s1 _ _ (s09 _ _ e))) (s' _ _ upd_same) off9 a b ha hb).2)) (fun v G2 r z => tab_del r z)) rfl hC (n1 (by decide)) (by omega) fun v10 G10 H10 s10 h10 r10 => ?_
    obtain ⟨p10, ys10, rfl, r10⟩ := r10
    have r10 : Tab G10 p10 names.length jn := ⟨p10, ys10, rfl, r10⟩
    refine q_end (q _ _ _ (own_n h10) ⟨⟨?_, ?_, ?_, ?_, ?_, ⟨p6, ?_, s10 _ _ (s9 _ _ (s8.g _ _ (s7 _ _ g6)))⟩, ⟨p7, ?_, s10 _ _ (s9 _ _ (s8.g _ _ g7))⟩, ⟨p9, ?_, r9.mono s10⟩, ⟨p10, ?_, r10⟩⟩, fun f hf => ?_, ?_⟩)
    · rw [← e9, ← e7, ← e6, ← e5, ← e4, ← e3, ← e2]
      iterate 8 rw [lk_ne (by decide +kernel)]
      exact lk_eq
    · rw [← e9, ← e7, ← e6, ← e5, ← e4, ← e3, ← e2]
      iterate 7 rw [lk_ne (by decide +kernel)]
      exact lk_eq
    · rw [← e9, ← e7, ← e6, ← e5, ← e4, ← e3]
      iterate 6 rw [lk_ne (by decide +kernel)]
      exact lk_eq
    · rw [← e9, ← e7, ← e6, ← e5, ← e4]
      iterate 5 rw [lk_ne (by decide +kernel)]
      exact lk_eq
    · rw [← e9, ← e7, ← e6, ← e5]
      iterate 4 rw [lk_ne (by decide +kernel)]
      exact lk_eq
    · rw [← e9, ← e7, ← e6]
      iterate 3 rw [lk_ne (by decide +kernel)]
      exact lk_eq
    · rw [← e9, ← e7]
      iterate 2 rw [lk_ne (by decide +kernel)]
      exact lk_eq
    · rw [← e9, lk_ne (by decide +kernel)]
      exact lk_eq
    · exact lk_eq
    · rw [lk_off hf (by decide)]
      exact off9 f hf
    · exact Nat.le_trans (putF_len _ _ _) (by omega)
abbrev s_Scale_then_at : Stmt := inClass (top 15) 3
theorem sc_Scale_then_at : FnScope ["self", "first", "second"] ["self", "first", "second"] (defScope s_Scale_then_at) := ⟨rfl, rfl, rfl, by decide +kernel, rfl, by decide +kernel, by decide +kernel⟩
theorem ok_then_at {f : Addr} {fd : FuncData} (F : Fun K "then_at" "Scale.then_at" s_Scale_then_at f fd) : FnOk P w K mg base CX0 1 f fd ["self", "first", "second"] (spP (PAt K fun th _ a b => .int (th a b))) := by
  refine F.ok sc_Scale_then_at (fun vs H Q E h => ?_) (fun cdv A outer s H vs Q E hr h => ?_)
  · obtain ⟨G, R, _, ⟨_, _, _, _, _, _, _, _, _, _, rfl, _⟩, _⟩ := h
    rfl
  · obtain ⟨G, R, hs, ⟨label, names, nv, sl, dep, th, jn, x, a, b, rfl, ⟨C, dx, fs, hx, hC, hN, hS⟩, ha, hb, rfl⟩, q⟩ := h
    refine ⟨_, (pss_cons (ps_ret (pe_ix (ix_any K (hu_of hr)) (pe_ix (ix_any K (hu_of hr)) (pe_fldK K (pv 0)) (pv 1) (fun _ _ => rfl)) (pv 2) (fun _ _ => rfl)))
  pss_nil), ?_⟩
    obtain ⟨p, hp, ht⟩ := hS.pro
    have st := stab0 G H
    have h0 : SP0 G H 0 G H := Grow.refl hs
    show tSeq _ _ (Ends.mk _ _ _ _) [some _, some _, some _] _
    exact q_retV st h0 (ev_tab st (ev_fld st (ev_var rfl) hx hC (hN _ (by decide)) hp) ht ha hb rfl rfl) fun H1 k1 h1 => q _ _ _ h1 rfl
abbrev s_Scale_join_at : Stmt := inClass (top 15) 4
theorem sc_Scale_join_at : FnScope ["self", "first", "second"] ["self", "first", "second"] (defScope s_Scale_join_at) := ⟨rfl, rfl, rfl, by decide +kernel, rfl, by decide +kernel, by decide +kernel⟩
theorem ok_join_at {f : Addr} {fd : FuncData} (F : Fun K "join_at" "Scale.join_at" s_Scale_join_at f fd) : FnOk P w K mg base CX0 1 f fd ["self", "first", "second"] (spP (PAt K fun _ jn a b => .int (jn a b))) := by
  refine F.ok sc_Scale_join_at (fun vs H Q E h => ?_) (fun cdv A outer s H vs Q E hr h => ?_)
  · obtain ⟨G, R, _, ⟨_, _, _, _, _, _, _, _, _, _, rfl, _⟩, _⟩ := h
    rfl
  · obtain ⟨G, R, hs, ⟨label, names, nv, sl, dep, th, jn, x, a, b, rfl, ⟨C, dx, fs, hx, hC, hN, hS⟩, ha, hb, rfl⟩, q⟩ := h
    refine ⟨_, (pss_cons (ps_ret (pe_ix (ix_any K (hu_of hr)) (pe_ix (ix_any K (hu_of hr)) (pe_fldK K (pv 0)) (pv 1) (fun _ _ => rfl)) (pv 2) (fun _ _ => rfl)))
  pss_nil), ?_⟩
    obtain ⟨p, hp, ht⟩ := hS.joi
    have st := stab0 G H
    have h0 : SP0 G H 0 G H := Grow.refl hs
    show tSeq _ _ (Ends.mk _ _ _ _) [some _, some _, some _] _
    exact q_retV st h0 (ev_tab st (ev_fld st (ev_var rfl) hx hC (hN _ (by decide)) hp) ht ha hb rfl rfl) fun H1 k1 h1 => q _ _ _ h1 rfl
abbrev s_Scale_within_at : Stmt := inClass (top 15) 5
theorem sc_Scale_within_at : FnScope ["self", "first", "second"] ["self", "first", "second"] (defScope s_Scale_within_at) := ⟨rfl, rfl, rfl, by decide +kernel, rfl, by decide +kernel, by decide +kernel⟩
theorem ok_within_at {f : Addr} {fd : FuncData} (F : Fun K "within_at" "Scale.within_at" s_Scale_within_at f fd) : FnOk P w K mg base CX0 1 f fd ["self", "first", "second"] (spP (PAt K fun _ jn a b => .bl (decide (jn a b = (b : Nat))))) := by
  refine F.ok sc_Scale_within_at (fun vs H Q E h => ?_) (fun cdv A outer s H vs Q E hr h => ?_)
  · obtain ⟨G, R, _, ⟨_, _, _, _, _, _, _, _, _, _, rfl, _⟩, _⟩ := h
    rfl
  · obtain ⟨G, R, hs, ⟨label, names, nv, sl, dep, th, jn, x, a, b, rfl, ⟨C, dx, fs, hx, hC, hN, hS⟩, ha, hb, rfl⟩, q⟩ := h
    refine ⟨_, (pss_cons (ps_ret (pe_cmpR (op_eqA K hr.units) (pe_ix (ix_any K (hu_of hr)) (pe_ix (ix_any K (hu_of hr)) (pe_fldK K (pv 0)) (pv 1) (fun _ _ => rfl)) (pv 2) (fun _ _ => rfl)) (pv 2) (nomark _)))
  pss_nil), ?_⟩
    obtain ⟨p, hp, ht⟩ := hS.joi
    have st := stab0 G H
    have h0 : SP0 G H 0 G H := Grow.refl hs
    show tSeq _ _ (Ends.mk _ _ _ _) [some _, some _, some _] _
    exact q_retV st h0 (ev_opV (ev_tab st (ev_fld st (ev_var rfl) hx hC (hN _ (by decide)) hp) ht ha hb rfl rfl) (ev_var rfl) (v_eqI st)) fun H1 k1 h1 => q _ _ _ h1 rfl
abbrev s_Scale_name_at : Stmt := inClass (top 15) 6
theorem sc_Scale_name_at : FnScope ["self", "place"] ["self", "place"] (defScope s_Scale_name_at) := ⟨rfl, rfl, rfl, by decide +kernel, rfl, by decide +kernel, by decide +kernel⟩
theorem ok_name_at {f : Addr} {fd : FuncData} (F : Fun K "name_at" "Scale.name_at" s_Scale_name_at f fd) : FnOk P w K mg base CX0 1 f fd ["self", "place"] (spP (PName K)) := by
  refine F.ok sc_Scale_name_at (fun vs H Q E h => ?_) (fun cdv A outer s H vs Q E hr h => ?_)
  · obtain ⟨G, R, _, ⟨_, _, _, _, _, _, _, _, _, _, rfl, _⟩, _⟩ := h
    rfl
  · obtain ⟨G, R, hs, ⟨label, names, nv, sl, dep, th, jn, x, a, nm, rfl, ⟨C, dx, fs, hx, hC, hN, hS⟩, ha, rfl⟩, q⟩ := h
    refine ⟨_, (pss_cons (ps_ret (pe_ix (ix_any K (hu_of hr)) (pe_fldK K (pv 0)) (pv 1) (fun _ _ => rfl)))
  pss_nil), ?_⟩
    obtain ⟨p, hp, ht⟩ := hS.nam
    have st := stab0 G H
    have h0 : SP0 G H 0 G H := Grow.refl hs
    show tSeq _ _ (Ends.mk _ _ _ _) [some _, some _] _
    exact q_retV st h0 (ev_opV (ev_fld st (ev_var rfl) hx hC (hN _ (by decide)) hp) (ev_var rfl) (v_ixT st (SqT.of ht) (atI_nat (by rw [List.getElem?_map, ha]; rfl)))) fun H1 k1 h1 => q _ _ _ h1 rfl
abbrev s_Scale_at_name : Stmt := inClass (top 15) 7
theorem sc_Scale_at_name : FnScope ["self", "name", "place"] ["self", "name"] (defScope s_Scale_at_name) := ⟨rfl, rfl, rfl, by decide +kernel, rfl, by decide +kernel, by decide +kernel⟩
theorem ok_at_name {f CU fU : Addr} {fd : FuncData} (F : Fun K "at_name" "Scale.at_name" s_Scale_at_name f fd) (x_UnknownWorth : ExI P K mg CU fU "name" "LookupError" "LookupError.__new__" "LookupError.__init__") (m_UnknownWorth : mg "UnknownWorth" = some (.ref CU)) : FnOk P w K mg base (L2.CX P w) 4 f fd ["self", "name"] (sp_at_name K CU) := by
  refine F.okX sc_Scale_at_name (fun vs H Q E h => ?_) (fun cdv A outer s H vs Q E hr h => ?_)
  · obtain ⟨_, _, _, _, _, _, _, _, _, _, rfl, _⟩ := h
    rfl
  · obtain ⟨label, names, nv, sl, dep, th, jn, x, nm, G, rfl, hs, ⟨C, dx, fs, hx, hC, hN, hS⟩, hnd, q1, q2⟩ := h
    refine ⟨_, (pss_cons (ps_set (i := 2) sc_Scale_at_name.nd rfl (Or.inl rfl) (pe_dget1 (hu_of hr) (pe_fldK K (pv 0)) (pv 1) ⟨rfl, rfl, rfl, rfl⟩))
  (pss_cons (ps_if (pt_cmpR op_isN (pv 2) pe_non (nomark _)) (pss_cons (ps_raiseX rfl ebL x_UnknownWorth m_UnknownWorth hr (takes_of rfl rfl rfl rfl) (pa_cons (pv 1) pa_nil))
  pss_nil) pss_nil)
  (pss_cons (ps_ret (pv 2))
  pss_nil))), ?_⟩
    obtain ⟨p, hp, ht⟩ := hS.pla
    have st := stab0 G H
    have h0 : SP0 G H 0 G H := Grow.refl hs
    show tSeq _ _ (Ends.mk _ _ _ _) [some _, some _, none] _
    refine q_setV st h0 (ev_dget (k := .inr nm) st (ev_fld st (ev_var rfl) hx hC (hN _ (by decide)) hp) ht (ev_var rfl)) fun H1 k1 h1 => ?_
    by_cases hm : nm ∈ names
    · obtain ⟨j, hj⟩ := List.getElem?_of_mem hm
      rw [plc_some hnd hj, Nat.zero_add]
      refine q_if st h1 (et_testV (ev_opV (ev_var rfl) ev_c (v_isN st))) (fun H2 p2 k2 h2 => ?_) (fun H2 p2 k2 h2 => ?_)
      · exact absurd p2 (by simp)
      · refine q_end ?_
        exact q_retV st h2 (ev_var rfl) fun H3 k3 h3 => q1 j _ hj h3
    · rw [plc_none hm]
      refine q_if st h1 (et_testV (ev_opV (ev_var rfl) ev_c (v_isN st))) (fun H2 p2 k2 h2 => ?_) (fun H2 p2 k2 h2 => ?_)
      · exact q_raiseX h2 (ea_consV (ev_var rfl) ea_nilV) fun G3 H3 d s3 hd => q2 hm d H3 _ (st.anti h2 s3.s s3.g) hd rfl
      · exact absurd p2 (by simp)
abbrev s_WithNever___init__ : Stmt := inClass (top 27) 0
theorem sc_WithNever___init__ : ScS ["self", "label", "contents", "words"] ["self", "label", "contents", "words"] (defScope s_WithNever___init__) := ⟨rfl, rfl, rfl, by decide +kernel, rfl, by decide +kernel, by decide +kernel, rfl, by decide +kernel, rfl⟩
abbrev s_WithNever_make_then : Stmt := inClass (top 27) 1
theorem sc_WithNever_make_then : FnScope ["self", "first", "second"] ["self", "first", "second"] (defScope s_WithNever_make_then) := ⟨rfl, rfl, rfl, by decide +kernel, rfl, by decide +kernel, by decide +kernel⟩
abbrev s_WithNever_make_join : Stmt := inClass (top 27) 2
theorem sc_WithNever_make_join : FnScope ["self", "first", "second"] ["self", "first", "second"] (defScope s_WithNever_make_join) := ⟨rfl, rfl, rfl, by decide +kernel, rfl, by decide +kernel, by decide +kernel⟩
theorem ok_make_then {C : Addr} {B : List V → Hp → HR → Prop} (hC : Cls K C) (hN : NoAttr K C "contents") (c_behind : Method P w K mg base C "behind" CX0 3 ["self", "first", "second"] [] (spP B)) {f : Addr} {fd : FuncData} (F : Fun K "make_then" "WithNever.make_then" s_WithNever_make_then f fd) :
    FnOk P w K mg base CX0 5 f fd ["self", "first", "second"] (spP (PMk K C "behind" B fun _ _ => 0)) := by
  refine F.ok sc_WithNever_make_then (fun vs H Q E h => ?_) (fun cdv A outer s H vs Q E hr h => ?_)
  · obtain ⟨G, R, _, ⟨_, _, _, _, _, _, _, _, rfl, _⟩, _⟩ := h
    rfl
  · obtain ⟨G, R, hs, ⟨x, dx, pt, fs, o, ws, a, b, rfl, hx, hc, hm, hp, hd, r0, r1⟩, q⟩ := h
    refine ⟨_, (pss_cons (ps_if (PW.pt (pw_or (pt_cmpR (op_eqA K hr.units) (pv 1) pe_int (nomark _)) (pw_or1 (pt_cmpR (op_eqA K hr.units) (pv 2) pe_int (nomark _))))) (pss_cons (ps_ret pe_int)
  pss_nil) pss_nil)
  (pss_cons (ps_ret (pe_bmT PySem.F.slot_tuple_index PySem.F.type_tuple_index (mt_indexTD K (hu2 hr)) (pe_fldK K (pv 0)) (pa_cons (pe_methC c_behind (hr.mono (by decide)) pass0 (pv 0) (pa_cons (pe_ix (ix_any K (hu_of hr)) (pe_fldK K (pv 0)) (pv 1) (fun _ _ => rfl)) (pa_cons (pe_ix (ix_any K (hu_of hr)) (pe_fldK K (pv 0)) (pv 2) (fun _ _ => rfl)) pa_nil))) pa_nil)))
  pss_nil)), ?_⟩
    have st := stab0 G H
    have h0 : SP0 G H 0 G H := Grow.refl hs
    show tSeq _ _ (Ends.mk _ _ _ _) [some _, some _, some _] _
    refine q_if st h0 (et_or st (et_testV (ev_opV (ev_var rfl) ev_c (v_eqI st))) (fun _ => et_testV (ev_opV (ev_var rfl) ev_c (v_eqI st)))) (fun H1 p1 k1 h1 => ?_) (fun H1 p1 k1 h1 => ?_)
    · have p1 : a = 0 ∨ b = 0 := by simp at p1; omega
      exact q_retV st h1 ev_c fun H2 k2 h2 => q _ _ _ h2 (by rw [r0 p1]; rfl)
    · have p1 : ¬ (a = 0 ∨ b = 0) := by simp at p1; omega
      obtain ⟨va, vb, Ry, k, e1, e2, hMy, hB, hI, rfl⟩ := r1 (fun z => p1 (.inl z)) (fun z => p1 (.inr z))
      have hf : ∀ {n : Nat} {σ : L2.St}, σ[0]? = some (some (.ref x)) → Ev (SP0 G H) n 0 (tFld K (tVar 0) "contents") σ G (IsV (.ref pt)) := fun hσ => ev_fld st (ev_var hσ) hx hC hN hc
      have ix : ∀ {c : Nat} {v : V}, c ≠ 0 → ws[c - 1]? = some v → atI (.non :: ws) (c : Nat) = some v := fun {c v} hc e => atI_nat (by
        rw [show c = (c - 1) + 1 by omega]
        exact e)
      have sq : SqT K G pt (.non :: ws) := .inl (.inr ⟨o, hp⟩)
      refine q_end ?_
      refine q_retV st h1 (ev_bmTA st (hf rfl) hp hd (ea_cons (ev_meth (RA := IsVs [va, vb]) (R := Ry) st (ev_var rfl) hx hm (ea_consV (ev_opV (hf rfl) (ev_var rfl) (v_ixT st sq (ix (fun z => p1 (.inl z)) e1))) (ea_consV (ev_opV (hf rfl) (ev_var rfl) (v_ixT st sq (ix (fun z => p1 (.inr z)) e2))) ea_nilV)) fun vs G2 s2 e => ?_) ea_nil) fun vs G2 s2 e => ?_) fun H2 k2 h2 => q _ _ _ h2 rfl
      · obtain rfl := (show vs = _ from e)
        exact hB G2 s2
      · obtain ⟨y, _, rfl, ry, e⟩ := e
        obtain rfl := (show _ = _ from e)
        exact hI y G2 s2 ry _ st
theorem ok_make_join {C : Addr} {B : List V → Hp → HR → Prop} (hC : Cls K C) (hN : NoAttr K C "contents") (c_either : Method P w K mg base C "either" CX0 3 ["self", "first", "second"] [] (spP B)) {f : Addr} {fd : FuncData} (F : Fun K "make_join" "WithNever.make_join" s_WithNever_make_join f fd) :
    FnOk P w K mg base CX0 5 f fd ["self", "first", "second"] (spP (PMk K C "either" B fun a b => (a : Int) + b)) := by
  refine F.ok sc_WithNever_make_join (fun vs H Q E h => ?_) (fun cdv A outer s H vs Q E hr h => ?_)
  · obtain ⟨G, R, _, ⟨_, _, _, _, _, _, _, _, rfl, _⟩, _⟩ := h
    rfl
  · obtain ⟨G, R, hs, ⟨x, dx, pt, fs, o, ws, a, b, rfl, hx, hc, hm, hp, hd, r0, r1⟩, q⟩ := h
    refine ⟨_, (pss_cons (ps_if (PW.pt (pw_or (pt_cmpR (op_eqA K hr.units) (pv 1) pe_int (nomark _)) (pw_or1 (pt_cmpR (op_eqA K hr.units) (pv 2) pe_int (nomark _))))) (pss_cons (ps_ret (pe_op op_addA (pv 1) (pv 2)))
  pss_nil) pss_nil)
  (pss_cons (ps_ret (pe_bmT PySem.F.slot_tuple_index PySem.F.type_tuple_index (mt_indexTD K (hu2 hr)) (pe_fldK K (pv 0)) (pa_cons (pe_methC c_either (hr.mono (by decide)) pass0 (pv 0) (pa_cons (pe_ix (ix_any K (hu_of hr)) (pe_fldK K (pv 0)) (pv 1) (fun _ _ => rfl)) (pa_cons (pe_ix (ix_any K (hu_of hr)) (pe_fldK K (pv 0)) (pv 2) (fun _ _ => rfl)) pa_nil))) pa_nil)))
  pss_nil)), ?_⟩
    have st := stab0 G H
    have h0 : SP0 G H 0 G H := Grow.refl hs
    show tSeq _ _ (Ends.mk _ _ _ _) [some _, some _, some _] _
    refine q_if st h0 (et_or st (et_testV (ev_opV (ev_var rfl) ev_c (v_eqI st))) (fun _ => et_testV (ev_opV (ev_var rfl) ev_c (v_eqI st)))) (fun H1 p1 k1 h1 => ?_) (fun H1 p1 k1 h1 => ?_)
    · have p1 : a = 0 ∨ b = 0 := by simp at p1; omega
      exact q_retV st h1 (ev_opV (ev_var rfl) (ev_var rfl) (v_add st)) fun H2 k2 h2 => q _ _ _ h2 (by rw [r0 p1]; rfl)
    · have p1 : ¬ (a = 0 ∨ b = 0) := by simp at p1; omega
      obtain ⟨va, vb, Ry, k, e1, e2, hMy, hB, hI, rfl⟩ := r1 (fun z => p1 (.inl z)) (fun z => p1 (.inr z))
      have hf : ∀ {n : Nat} {σ : L2.St}, σ[0]? = some (some (.ref x)) → Ev (SP0 G H) n 0 (tFld K (tVar 0) "contents") σ G (IsV (.ref pt)) := fun hσ => ev_fld st (ev_var hσ) hx hC hN hc
      have ix : ∀ {c : Nat} {v : V}, c ≠ 0 → ws[c - 1]? = some v → atI (.non :: ws) (c : Nat) = some v := fun {c v} hc e => atI_nat (by
        rw [show c = (c - 1) + 1 by omega]
        exact e)
      have sq : SqT K G pt (.non :: ws) := .inl (.inr ⟨o, hp⟩)
      refine q_end ?_
      refine q_retV st h1 (ev_bmTA st (hf rfl) hp hd (ea_cons (ev_meth (RA := IsVs [va, vb]) (R := Ry) st (ev_var rfl) hx hm (ea_consV (ev_opV (hf rfl) (ev_var rfl) (v_ixT st sq (ix (fun z => p1 (.inl z)) e1))) (ea_consV (ev_opV (hf rfl) (ev_var rfl) (v_ixT st sq (ix (fun z => p1 (.inr z)) e2))) ea_nilV)) fun vs G2 s2 e => ?_) ea_nil) fun vs G2 s2 e => ?_) fun H2 k2 h2 => q _ _ _ h2 rfl
      · obtain rfl := (show vs = _ from e)
        exact hB G2 s2
      · obtain ⟨y, _, rfl, ry, e⟩ := e
        obtain rfl := (show _ = _ from e)
        exact hI y G2 s2 ry _ st
theorem ok_WithNever_init {C D fS : Addr} {PT PJ : List V → Hp → HR → Prop} (Z : Bi mg) (hC : Cls K C) (hN : ∀ f ∈ wnF, NoAttr K C f) (opq : PySem.W.nsIn K cStatics "thirdparty.any" = some none) (top0 : (P.main.scope.names.lookup ("super" : Str)).isSome = false)
    (hm : PySem.W.mroIn K C (.ref D) = some true) (hf : PySem.W.ks_superIn K C D "__init__" = some (some (.ref fS))) (c_super : SupC P w K mg base fS CX0 6 ["self", "label", "names", "never_at", "still_at", "depth"] [.int 1] (spI (PScI K C PT PJ)))
    {f : Addr} {fd : FuncData} (F : FunSD P K "__init__" "WithNever.__init__" s_WithNever___init__ [] [] f fd D) : FnOk P w K mg base (L2.CX P w) 8 f fd ["self", "label", "contents", "words"] (spI (PWnI K C PT PJ)) := by
  refine F.toS.okX sc_WithNever___init__ Z.z_super opq top0 rfl rfl (fun vs H Q E h => ?_) (fun cdv cc A outer s H vs Q E hr h SA => ?_)
  · obtain ⟨x, C', dx, fs, rest, G, R, rfl, _, _, _, ⟨_, label, pc, pw, ws, words, th, jn, rfl, _⟩, _⟩ := h
    rfl
  · obtain ⟨x, C', dx, fs, rest, G, R, rfl, hx, hG, gx, ⟨rfl, label, pc, pw, ws, words, th, jn, rfl, hq, hw, hl1, hl2, hnd, hfl, hm1, hm2, hM, rfl⟩, q⟩ := h
    refine ⟨_, (psa_cons (ps_fld (pv 0) (pe_tupF (pa_cons pe_non (StX.pa_star (pv 2) pa_nil))) rfl)
  (psa_supC SA rfl (Or.inl rfl) c_super (hr.mono (by decide)) pass0 (pa_cons (pv 1) (pa_cons (pe_lst (pa_cons pe_str (StX.pa_star (pv 3) pa_nil))) (pa_cons pe_int (pa_cons pe_int pa_nil))))
  (psa_end pss_nil))), ?_⟩
    have h0 := own_start (o := .ins C' dx fs) hG gx hx 0
    show tSeq _ _ (Ends.mk _ _ _ _) [some _, some _, some _, some _] _
    have st0 := stabO G H x (.ins C' dx fs)
    refine q_fldO h0 (ev_tupF st0 (ea_consV ev_c (ea_star st0 (ev_var rfl) hq ea_nilV)) (by simp; omega)) rfl hC (hN _ (by decide)) (by omega) fun v1 G1 H1 s1 h1 r1 => ?_
    obtain ⟨pt, o, rfl, _, hd, hp⟩ := r1
    rw [List.append_nil] at hp
    generalize e1 : putF ("contents" : Str) (.ref pt) fs = f1 at h1
    have z1 : f1.length ≤ fs.length + 1 := by rw [← e1]; exact putF_len _ _ _
    have off1 : ∀ f, f ≠ ("contents" : Str) → f1.lookup f = fs.lookup f := fun f hf => by rw [← e1]; exact lk_ne hf
    have on1 : f1.lookup ("contents" : Str) = some (.ref pt) := by rw [← e1]; exact lk_eq
    have st1 := stabO G H x (.ins C' dx f1)
    refine q_supO h1 rfl hm hf (ea_cons (ev_var rfl) (ea_cons (ev_lstN st1 (ea_consV ev_c (ea_star st1 (ev_var rfl) (.inl (s1.seq hw)) ea_nilV)) (by simp; omega)) (ea_cons ev_c (ea_cons ev_c ea_nil)))) (RO := fun _ _ fs' G' => ScIs label (("never" : Str) :: words) 0 1 1 th jn fs' G' ∧ (∀ f, f ∉ scF → fs'.lookup f = f1.lookup f) ∧ fs'.length ≤ f1.length + 9)
      (fun vs G2 s2 r2 => ?_) (fun f2 G2 H2 s2 h2 r2 => ?_)
    · obtain ⟨_, _, rfl, a1, _, _, rfl, ⟨pn, rfl, _, hpn⟩, _, _, rfl, a3, _, _, rfl, a4, a5⟩ := r2
      obtain rfl := (show _ = _ from a1)
      obtain rfl := (show _ = _ from a3)
      obtain rfl := (show _ = _ from a4)
      obtain rfl := (show _ = _ from a5)
      rw [List.append_nil] at hpn
      refine ⟨rfl, label, pn, ("never" : Str) :: words, 0, 1, 1, th, jn, rfl, SqL.of hpn, by simp; omega, hnd, by omega, by rw [off1 _ (by decide +kernel)]; exact hm1, by rw [off1 _ (by decide +kernel)]; exact hm2, fun y dy fs' G' s3 hy hfs a b ha hb => ?_, rfl⟩
      exact hM y dy pt o fs' G' ((s1.trans s2).trans s3) hy (fun f hf => (hfs f (wn_sc hf)).trans (off1 f fun z => hf (by rw [z]; exact List.mem_cons_self))) ((hfs _ (by decide +kernel)).trans on1) (s3 _ _ (s2 _ _ hp)) hd a b ha hb
    · obtain ⟨c1, c2, c3⟩ := r2
      refine q_end (q f2 _ _ (own_n h2) ⟨c1, fun f hf => (c2 f (wn_sc hf)).trans (off1 f fun z => hf (by rw [z]; exact List.mem_cons_self)), by omega⟩)
abbrev s_cut_down : Stmt := top 32
theorem sc_cut_down : FnScope ["number", "most"] ["number", "most"] (defScope s_cut_down) := ⟨rfl, rfl, rfl, by decide +kernel, rfl, by decide +kernel, by decide +kernel⟩
abbrev s_number_name : Stmt := top 33
theorem sc_number_name : FnScope ["number", "most"] ["number", "most"] (defScope s_number_name) := ⟨rfl, rfl, rfl, by decide +kernel, rfl, by decide +kernel, by decide +kernel⟩
abbrev s_CountScale_behind : Stmt := inClass (top 28) 1
theorem sc_CountScale_behind : FnScope ["self", "first", "second"] ["self", "first", "second"] (defScope s_CountScale_behind) := ⟨rfl, rfl, rfl, by decide +kernel, rfl, by decide +kernel, by decide +kernel⟩
abbrev s_CountScale_either : Stmt := inClass (top 28) 2
theorem sc_CountScale_either : FnScope ["self", "first", "second"] ["self", "first", "second"] (defScope s_CountScale_either) := ⟨rfl, rfl, rfl, by decide +kernel, rfl, by decide +kernel, by decide +kernel⟩
abbrev s_CountScale___init__ : Stmt := inClass (top 28) 0
theorem sc_CountScale___init__ : ScS ["self", "most", "order", "numbers", "number"] ["self", "most", "order"] (defScope s_CountScale___init__) := ⟨rfl, rfl, rfl, by decide +kernel, rfl, by decide +kernel, by decide +kernel, rfl, by decide +kernel, rfl⟩
theorem ok_cut_down {f : Addr} {fd : FuncData} (F : Fun K "cut_down" "cut_down" s_cut_down f fd) : FnOk P w K mg base CX0 1 f fd ["number", "most"] (spP PCut) := by
  refine F.ok sc_cut_down (fun vs H Q E h => ?_) (fun cdv A outer s H vs Q E hr h => ?_)
  · obtain ⟨G, R, _, ⟨_, _, rfl, _⟩, _⟩ := h
    rfl
  · obtain ⟨G, R, hs, ⟨n, m, rfl, rfl⟩, q⟩ := h
    refine ⟨_, (pss_cons (ps_ret (pe_ifExp (pt_cmpR op_gtA (pv 0) (pv 1) (nomark _)) (pv 1) (pv 0)))
  pss_nil), ?_⟩
    have st := stab0 G H
    have h0 : SP0 G H 0 G H := Grow.refl hs
    show tSeq _ _ (Ends.mk _ _ _ _) [some _, some _] _
    refine q_retV st h0 (ev_ifV st (et_testV (ev_opV (ev_var rfl) (ev_var rfl) (v_gt st))) (fun _ => ev_var rfl) (fun _ => ev_var rfl)) fun H1 k1 h1 => q _ _ _ h1 ?_
    by_cases c : m < n <;> simp [c, IsV]
theorem ok_number_name {f : Addr} {fd : FuncData} (Z : Bi mg) (F : Fun K "number_name" "number_name" s_number_name f fd) : FnOk P w K mg base CX0 1 f fd ["number", "most"] (spP PNum) := by
  refine F.ok sc_number_name (fun vs H Q E h => ?_) (fun cdv A outer s H vs Q E hr h => ?_)
  · obtain ⟨G, R, _, ⟨_, _, rfl, _⟩, _⟩ := h
    rfl
  · obtain ⟨G, R, hs, ⟨n, m, rfl, hl, rfl⟩, q⟩ := h
    refine ⟨_, (pss_cons (ps_ret (pe_ifExp (pt_cmpR (op_eqA K hr.units) (pv 0) (pv 1) (nomark _)) pe_str (pe_callTy call_strA (by rfl) Z.z_str (by decide +kernel) (pa_cons (pv 0) pa_nil))))
  pss_nil), ?_⟩
    have st := stab0 G H
    have h0 : SP0 G H 0 G H := Grow.refl hs
    show tSeq _ _ (Ends.mk _ _ _ _) [some _, some _] _
    refine q_retV st h0 (ev_ifV st (et_testV (ev_opV (ev_var rfl) (ev_var rfl) (v_eqI st))) (fun _ => ev_c) (fun _ => ev_cbV (ea_consV (ev_var rfl) ea_nilV) (c_str st hl))) fun H1 k1 h1 => q _ _ _ h1 ?_
    unfold cword
    by_cases c : n = m <;> simp [c, IsV]
theorem ok_behind {C : Addr} (hC : Cls K C) (hN : NoAttr K C "most") (c_cut_down : Callee P w K mg base "cut_down" CX0 1 ["number", "most"] [] (spP PCut)) {f : Addr} {fd : FuncData} (F : Fun K "behind" "CountScale.behind" s_CountScale_behind f fd) : FnOk P w K mg base CX0 3 f fd ["self", "first", "second"] (spP (PBeh C)) := by
  refine F.ok sc_CountScale_behind (fun vs H Q E h => ?_) (fun cdv A outer s H vs Q E hr h => ?_)
  · obtain ⟨G, R, _, ⟨_, _, _, _, _, _, rfl, _⟩, _⟩ := h
    rfl
  · obtain ⟨G, R, hs, ⟨x, dx, fs, m, i, j, rfl, hx, hm, rfl⟩, q⟩ := h
    refine ⟨_, (pss_cons (ps_ret (pe_callC c_cut_down (hr.mono (by decide)) pass0 (pa_cons (pe_op op_addA (pv 1) (pv 2)) (pa_cons (pe_fldK K (pv 0)) pa_nil))))
  pss_nil), ?_⟩
    have st := stab0 G H
    have h0 : SP0 G H 0 G H := Grow.refl hs
    show tSeq _ _ (Ends.mk _ _ _ _) [some _, some _, some _] _
    exact q_retV st h0 (ev_callV st (ea_consV (ev_opV (ev_var rfl) (ev_var rfl) (v_add st)) (ea_consV (ev_fld st (ev_var rfl) hx hC hN hm) ea_nilV)) fun G2 s2 => ⟨_, _, rfl, rfl⟩) fun H1 k1 h1 => q _ _ _ h1 rfl
theorem ok_either {C : Addr} (hC : Cls K C) (hN : NoAttr K C "rising") {f : Addr} {fd : FuncData} (F : Fun K "either" "CountScale.either" s_CountScale_either f fd) : FnOk P w K mg base CX0 3 f fd ["self", "first", "second"] (spP (PEit C)) := by
  refine F.ok sc_CountScale_either (fun vs H Q E h => ?_) (fun cdv A outer s H vs Q E hr h => ?_)
  · obtain ⟨G, R, _, ⟨_, _, _, _, _, _, rfl, _⟩, _⟩ := h
    rfl
  · obtain ⟨G, R, hs, ⟨x, dx, fs, up, i, j, rfl, hx, hm, rfl⟩, q⟩ := h
    refine ⟨_, (pss_cons (ps_ret (pe_ifExp (pt_cmpR (op_eqA K hr.units) (pe_cmpR op_gtA (pv 1) (pv 2) (nomark _)) (pe_fldK K (pv 0)) (nomark _)) (pv 1) (pv 2)))
  pss_nil), ?_⟩
    have st := stab0 G H
    have h0 : SP0 G H 0 G H := Grow.refl hs
    show tSeq _ _ (Ends.mk _ _ _ _) [some _, some _, some _] _
    refine q_retV st h0 (ev_ifV st (et_testV (ev_opV (ev_opV (ev_var rfl) (ev_var rfl) (v_gt st)) (ev_fld st (ev_var rfl) hx hC hN hm) (v_eqB st))) (fun _ => ev_var rfl) (fun _ => ev_var rfl)) fun H1 k1 h1 => q _ _ _ h1 ?_
    unfold ceit
    by_cases c : decide (j < i) = up <;> simp [c, IsV]
theorem ok_CountScale_init {C D fW : Addr} {tM : Tok} (Z : Bi mg) (g_MOST_WORTHS : mg "MOST_WORTHS" = some (.int 64 tM)) (hC : Cls K C) (hN : ∀ f ∈ ("most" : Str) :: "rising" :: wnF, NoAttr K C f) (opq : PySem.W.nsIn K cStatics "thirdparty.any" = some none) (top0 : (P.main.scope.names.lookup ("super" : Str)).isSome = false)
    (hm : PySem.W.mroIn K C (.ref D) = some true) (hf : PySem.W.ks_superIn K C D "__init__" = some (some (.ref fW))) (c_super : SupC P w K mg base fW (L2.CX P w) 8 ["self", "label", "contents", "words"] [] (spI (PWnI K C (PMk K C "behind" (PBeh C) fun _ _ => 0) (PMk K C "either" (PEit C) fun a b => (a : Int) + b))))
    (c_number_name : Callee P w K mg base "number_name" CX0 1 ["number", "most"] [] (spP PNum)) {f : Addr} {fd : FuncData} (F : FunSD P K "__init__" "CountScale.__init__" s_CountScale___init__ [] [("order", .str "up")] f fd D) : FnOk P w K mg base (L2.CX P w) 10 f fd ["self", "most", "order"] (spI (PCsI C)) := by
  refine F.toS.okX sc_CountScale___init__ Z.z_super opq top0 rfl rfl (fun vs H Q E h => ?_) (fun cdv cc A outer s H vs Q E hr h SA => ?_)
  · obtain ⟨x, C', dx, fs, rest, G, R, rfl, _, _, _, ⟨_, _, m, up, _, rfl, _⟩, _⟩ := h
    rfl
  · obtain ⟨x, C', dx, fs, rest, G, R, rfl, hx, hG, gx, ⟨rfl, rfl, m, up, hm1, rfl, rfl⟩, q⟩ := h
    refine ⟨_, (psa_cons (ps_if (PW.pt (pw_or (pt_cmpR (op_ninA K (hu_of hr)) (pv 2) (pe_tup (pa_cons pe_str (pa_cons pe_str pa_nil))) (by rfl)) (pw_or1 (pt_not (pt_chain op_leA op_leA pe_int (pv 1) (pe_op op_subA (pe_glob (v := .int 64) rfl g_MOST_WORTHS ⟨_, rfl⟩) pe_int)))))) (pss_cons ps_never
  pss_nil) pss_nil)
  (psa_cons (ps_fld (pv 0) (pv 1) rfl)
  (psa_cons (ps_fld (pv 0) (pe_cmpR (op_eqA K hr.units) (pv 2) pe_str (nomark _)) rfl)
  (psa_cons (ps_set (i := 3) sc_CountScale___init__.nd rfl (Or.inl rfl) (pe_listRg rfl (by rfl) Z.z_list (prg_1 (by rfl) Z.z_range (pe_op op_addA (pv 1) pe_int))))
  (psa_supC SA rfl (Or.inl rfl) c_super (hr.mono (by decide)) passL (pa_cons (pe_joined (PJ.cons pe_str (PJ.cons (pe_fmt (pv 1)) (PJ.cons pe_str (PJ.cons (pe_fmt (pv 2)) (PJ.cons pe_str PJ.nil)))))) (pa_cons (pv 3) (pa_cons (pe_lc (own := [("number", 4)]) (g := (gName 4)) rfl sc_CountScale___init__.nd (pi_listK K (pv 3)) (blkOk_by (by kernel_rfl)) (fun _ _ _ _ _ => (pg_name (i := 4) sc_CountScale___init__.nd rfl (Or.inl rfl))) (fun _ _ _ _ _ => pts_nil) (fun _ _ _ _ _ => (pe_callC c_number_name (hr.mono (by decide)) pass0 (pa_cons (pv 4) (pa_cons (pv 1) pa_nil))))) pa_nil)))
  (psa_end pss_nil)))))), ?_⟩
    have h0 := own_start (o := .ins C' dx []) hG gx hx 0
    have st0 := stabO G H x (.ins C' dx [])
    show tSeq _ _ (Ends.mk _ _ _ _) [some _, some _, some _, none, none] _
    refine q_if st0 h0 (et_or st0 (et_testV (b := (!inV (.str (ordS up)) [.str ("up" : Str), .str ("down" : Str)])) (ev_op (ev_var rfl) (ev_tupN st0 (ea_consV ev_c (ea_consV ev_c ea_nilV)) (by simp)) fun a b G2 s2 ea eb => ?_)) (fun _ => et_not (et_testV (ev_chain st0 ev_c (ev_var rfl) (v_le st0) (ev_opV ev_c ev_c (v_sub st0)) (v_le st0))))) (fun H1 p1 k1 h1 => ?_) (fun H1 p1 k1 h1 => ?_)
    · obtain rfl := (show _ = _ from ea)
      obtain ⟨tp, rfl, _, ht⟩ := eb
      exact v_inT (neg := true) st0 (SqT.of ht) rfl rfl
    · refine absurd p1 ?_
      have e1 : (!inV (.str (ordS up)) [.str ("up" : Str), .str ("down" : Str)]) = false := by cases up <;> decide +kernel
      rw [e1]
      simp
      omega
    refine q_end ?_
    refine q_fldV h1 (ev_var rfl) rfl hC (hN _ (by decide)) (by decide) fun H2 h2 => ?_
    have st2 := stabO G H x (.ins C' dx (putF ("most" : Str) (.int (m : Nat)) []))
    have eup : decide (ordS up = ("up" : Str)) = up := by cases up <;> decide +kernel
    refine q_fldV h2 (ev_opV (ev_var rfl) ev_c (v_eqS st2)) rfl hC (hN _ (by decide)) (Nat.lt_of_le_of_lt (putF_len _ _ _) (by decide)) fun H3 h3 => ?_
    rw [eup] at h3
    generalize e3 : putF ("rising" : Str) (.bl up) (putF ("most" : Str) (.int (m : Nat)) []) = f3 at h3
    have z3 : f3.length ≤ 2 := by
      rw [← e3]
      exact Nat.le_trans (putF_len _ _ _) (Nat.succ_le_succ (putF_len _ _ _))
    have on1 : f3.lookup ("most" : Str) = some (.int (m : Nat)) := by rw [← e3, lk_ne (by decide +kernel)]; exact lk_eq
    have on2 : f3.lookup ("rising" : Str) = some (.bl up) := by rw [← e3]; exact lk_eq
    have off3 : ∀ f, f ≠ ("most" : Str) → f ≠ ("rising" : Str) → f3.lookup f = none := fun f a b => by rw [← e3, lk_ne b, lk_ne a]; rfl
    have st3 := stabO G H x (.ins C' dx f3)
    have lll := clabel_len m hm1 up
    have hsz : (100 : Nat) ≤ sizeLine := by decide
    refine q_set h3 (ev_listRg st3 (ev_opV (ev_var rfl) ev_c (v_add st3)) (by omega) (by omega)) fun v4 G4 H4 s4 r4 => ?_
    obtain ⟨pn, rfl, _, hpn⟩ := r4
    rw [show ((m : Int) + 1).toNat = m + 1 by omega] at hpn
    have ln : ((List.range (m + 1)).map fun i => V.int (i : Nat)).length = m + 1 := by rw [List.length_map, List.length_range]
    have es : Str.empty ++ ("(count " : Str) = ("(count " : Str) := by decide +kernel
    have hlog : ∀ i : Nat, i < 64 → ((i : Nat) : Int).natAbs.log2 < 1920 := by decide +kernel
    refine q_supO s4.s rfl hm hf (ea_cons (ev_joined (ej_cons ev_c (by rw [es]; decide +kernel) (ej_cons (ev_fmtI (ev_var rfl) (hlog m (by omega))) (by rw [es]; exact Nat.le_trans lll.2.1 hsz) (ej_cons ev_c (by rw [es]; exact Nat.le_trans lll.2.2.1 hsz) (ej_cons (ev_fmtS (ev_var rfl) (by cases up <;> decide +kernel)) (by rw [es]; exact Nat.le_trans lll.2.2.2 hsz) (ej_cons ev_c (by rw [es]; exact Nat.le_trans lll.1 hsz) ej_nil))))))
      (ea_cons (ev_var rfl) (ea_cons (ev_lcL (c1 := 0) st3 (fun i => IsV (.str (cword (m : Nat) (i : Nat)))) (ev_var rfl) (SqL.of hpn) (by omega) (fun j v G5 hj s5 => ?_) (fun _ => rfl)) ea_nil))) (RO := fun _ _ fs' G' => ScIs (clabel (m : Nat) up) (("never" : Str) :: cwords m) 0 1 1 (cth (m : Nat)) (cjn up) fs' G' ∧ (∀ f, f ∉ wnF → fs'.lookup f = f3.lookup f) ∧ fs'.length ≤ f3.length + 10)
      (fun vs G2 s2 r2 => ?_) (fun f5 G5 H5 s5 h5 r5 => ?_)
    · have hj2 : j < m + 1 := by
        have := (List.getElem?_eq_some_iff.mp hj).1
        omega
      rw [List.getElem?_map, List.getElem?_range hj2] at hj
      obtain rfl := Option.some.inj hj
      exact ev_callV st3 (ea_consV (ev_var rfl) (ea_consV (ev_var rfl) ea_nilV)) fun G6 s6 => ⟨_, _, rfl, hlog j (by omega), rfl⟩
    · obtain ⟨_, _, rfl, a1, _, _, rfl, a2, _, _, rfl, a3, a4⟩ := r2
      obtain rfl := (show _ = _ from a1)
      obtain rfl := (show _ = _ from a2)
      obtain ⟨pw, ys, rfl, _, hw, hwl, hwr⟩ := a3
      obtain rfl := (show _ = _ from a4)
      have ew : ys = (cwords m).map V.str := by
        refine List.ext_getElem? fun j => ?_
        unfold cwords
        rw [List.map_map, List.getElem?_map]
        by_cases hj : j < m + 1
        · have e1 : ys[j]? = some ys[j] := List.getElem?_eq_getElem (by omega)
          rw [e1, show ys[j] = V.str (cword (m : Nat) (j : Nat)) from hwr j _ e1, List.getElem?_range hj]
          rfl
        · rw [List.getElem?_eq_none (by omega), List.getElem?_eq_none (by rw [List.length_range]; omega)]
          rfl
      rw [ew] at hw
      have lw : (cwords m).length = m + 1 := by unfold cwords; rw [List.length_map, List.length_range]
      refine ⟨rfl, clabel (m : Nat) up, pn, pw, (List.range (m + 1)).map fun i => V.int (i : Nat), cwords m, cth (m : Nat), cjn up, by rw [es]; rfl, .inl (SqL.of (s2 _ _ hpn)), SqL.of hw, by omega, by omega, cwords_nodup m hm1, by omega, off3 _ (by decide +kernel) (by decide +kernel), off3 _ (by decide +kernel) (by decide +kernel), fun y dy pt o fs' G' s3 hy hfs hct hpt hod a b ha hb => ?_, rfl⟩
      have w1 : fs'.lookup ("most" : Str) = some (.int (m : Nat)) := (hfs _ (by decide +kernel)).trans on1
      have w2 : fs'.lookup ("rising" : Str) = some (.bl up) := (hfs _ (by decide +kernel)).trans on2
      have at_ : ∀ {c : Nat}, c < m + 1 → ((List.range (m + 1)).map fun i => V.int (i : Nat))[c]? = some (.int (c : Nat)) := fun {c} hc => by
        rw [List.getElem?_map, List.getElem?_range hc]
        rfl
      refine ⟨⟨y, dy, pt, fs', o, _, a, b, rfl, hy, hct, (hfs _ (by decide +kernel)).trans (off3 _ (by decide +kernel) (by decide +kernel)), hpt, hod, fun z => by unfold cth; rw [if_pos z], fun ha0 hb0 => ?_⟩, ⟨y, dy, pt, fs', o, _, a, b, rfl, hy, hct, (hfs _ (by decide +kernel)).trans (off3 _ (by decide +kernel) (by decide +kernel)), hpt, hod, fun z => by unfold cjn; rw [if_pos z], fun ha0 hb0 => ?_⟩⟩
      · have c0 : 0 ≤ cthen (m : Nat) ((a - 1 : Nat) : Int) ((b - 1 : Nat) : Int) ∧ cthen (m : Nat) ((a - 1 : Nat) : Int) ((b - 1 : Nat) : Int) ≤ m := by unfold cthen; split <;> omega
        have c1 : cth (m : Nat) a b = cthen (m : Nat) ((a - 1 : Nat) : Int) ((b - 1 : Nat) : Int) + 1 := by
          unfold cth
          rw [if_neg (by omega), show ((a : Int) - 1) = ((a - 1 : Nat) : Int) by omega, show ((b : Int) - 1) = ((b - 1 : Nat) : Int) by omega]
        rw [c1]
        generalize hc : cthen (m : Nat) ((a - 1 : Nat) : Int) ((b - 1 : Nat) : Int) = c at c0
        refine ⟨_, _, IsV (.int (c.toNat : Nat)), c.toNat + 1, at_ (by omega), at_ (by omega), inferInstance, fun G6 s6 => ⟨y, dy, fs', (m : Nat), _, _, rfl, s6 _ _ hy, w1, by rw [hc, show ((c.toNat : Nat) : Int) = c by omega]⟩, fun v G6 s6 hv => ?_, by rw [show ((c.toNat + 1 : Nat) : Int) = c + 1 by omega]⟩
        obtain rfl := (show v = _ from hv)
        exact idx_count (s6 _ _ hpt) (by omega)
      · have c0 : 0 ≤ ceit up ((a - 1 : Nat) : Int) ((b - 1 : Nat) : Int) ∧ ceit up ((a - 1 : Nat) : Int) ((b - 1 : Nat) : Int) ≤ m := by unfold ceit; split <;> omega
        have c1 : cjn up a b = ceit up ((a - 1 : Nat) : Int) ((b - 1 : Nat) : Int) + 1 := by
          unfold cjn
          rw [if_neg (by omega), show ((a : Int) - 1) = ((a - 1 : Nat) : Int) by omega, show ((b : Int) - 1) = ((b - 1 : Nat) : Int) by omega]
        rw [c1]
        generalize hc : ceit up ((a - 1 : Nat) : Int) ((b - 1 : Nat) : Int) = c at c0
        refine ⟨_, _, IsV (.int (c.toNat : Nat)), c.toNat + 1, at_ (by omega), at_ (by omega), inferInstance, fun G6 s6 => ⟨y, dy, fs', up, _, _, rfl, s6 _ _ hy, w2, by rw [hc, show ((c.toNat : Nat) : Int) = c by omega]⟩, fun v G6 s6 hv => ?_, by rw [show ((c.toNat + 1 : Nat) : Int) = c + 1 by omega]⟩
        obtain rfl := (show v = _ from hv)
        exact idx_count (s6 _ _ hpt) (by omega)
    · exact q_end (q f5 _ _ (own_n h5) ⟨r5.1, fun f hf h1 h2 => (r5.2.1 f hf).trans (off3 f h1 h2)⟩)
abbrev s_is_table_name : Stmt := top 16
theorem sc_is_table_name : FnScope ["name", "sign"] ["name"] (defScope s_is_table_name) := ⟨rfl, rfl, rfl, by decide +kernel, rfl, by decide +kernel, by decide +kernel⟩
abbrev s_table_places : Stmt := top 17
theorem sc_table_places : FnScope ["places", "table", "found", "row", "name"] ["places", "table"] (defScope s_table_places) := ⟨rfl, rfl, rfl, by decide +kernel, rfl, by decide +kernel, by decide +kernel⟩
abbrev s_TableScale___init__ : Stmt := inClass (top 18) 0
theorem sc_TableScale___init__ : ScS ["self", "names", "joins", "products", "never", "still", "places", "blocks", "table", "label", "place", "name", "row"] ["self", "names", "joins", "products", "never", "still"] (defScope s_TableScale___init__) := ⟨rfl, rfl, rfl, by decide +kernel, rfl, by decide +kernel, by decide +kernel, rfl, by decide +kernel, rfl⟩
abbrev s_TableScale_make_then : Stmt := inClass (top 18) 1
theorem sc_TableScale_make_then : FnScope ["self", "first", "second"] ["self", "first", "second"] (defScope s_TableScale_make_then) := ⟨rfl, rfl, rfl, by decide +kernel, rfl, by decide +kernel, by decide +kernel⟩
abbrev s_TableScale_make_join : Stmt := inClass (top 18) 2
theorem sc_TableScale_make_join : FnScope ["self", "first", "second"] ["self", "first", "second"] (defScope s_TableScale_make_join) := ⟨rfl, rfl, rfl, by decide +kernel, rfl, by decide +kernel, by decide +kernel⟩
theorem ok_is_table_name {tS : Tok} {f : Addr} {fd : FuncData} (Z : Bi mg) (g_SIGNS : mg "SIGNS" = some (.str signsL tS)) (F : Fun K "is_table_name" "is_table_name" s_is_table_name f fd) : FnOk P w K mg base CX0 1 f fd ["name"] (spP PIsN) := by
  refine F.ok sc_is_table_name (fun vs H Q E h => ?_) (fun cdv A outer s H vs Q E hr h => ?_)
  · obtain ⟨_, _, _, ⟨_, rfl, _⟩, _⟩ := h
    rfl
  · obtain ⟨G, R, hs, ⟨nm, rfl, hl, rfl⟩, q⟩ := h
    refine ⟨_, (pss_cons (ps_ret (pe_and (pe_chain op_leA op_leA pe_int (pe_callB (call_lenA K) (by rfl) Z.z_len PySem.boot_len (pa_cons (pv 0) pa_nil)) pe_int) (pe_one (pe_callB (call_allA K) (by rfl) Z.z_all (by decide +kernel) (pa_cons (pe_lc (own := [("sign", 1)]) (g := (gName 1)) rfl sc_is_table_name.nd (pi_str (pv 0)) (blkOk_by (by kernel_rfl)) (fun _ _ _ _ _ => (pg_name (i := 1) sc_is_table_name.nd rfl (Or.inl rfl))) (fun _ _ _ _ _ => pts_nil) (fun _ _ _ _ _ => (pe_cmpR op_in_str (pv 1) (pe_glob (v := .str "abcdefghijklmnopqrstuvwxyz0123456789") rfl g_SIGNS ⟨_, rfl⟩) (by rfl)))) pa_nil)))))
  pss_nil), ?_⟩
    have st := stab0 G H
    have h0 : SP0 G H 0 G H := Grow.refl hs
    show tSeq _ _ (Ends.mk _ _ _ _) [some _, none] _
    have hsz : (1000 : Nat) ≤ sizeLine := by decide
    refine q_retV st h0 (x := .bl (okNm nm)) (ev_andV st (ev_chain st ev_c (ev_cbV (ea_consV (ev_var rfl) ea_nilV) (c_lenS st (Nat.le_trans hl hsz))) (v_le st) ev_c (v_le st)) (fun _ => ev_cb (ea_cons (ev_lcS (f := fun c => .bl (sgn c)) st (ev_var rfl) (by omega) (fun _ => rfl) fun c G' hc s' => ev_opV (ev_var rfl) ev_c (v_inS st)) ea_nil) fun vs G' s' e => ?_)) fun H1 k1 h1 => q _ _ _ h1 rfl
    obtain ⟨_, _, rfl, ⟨p, rfl, _, g⟩, e2⟩ := e
    obtain rfl := (show _ = _ from e2)
    exact c_all st (SqL.of (by rw [g, List.map_map]; rfl))
theorem ok_table_places {f : Addr} {fd : FuncData} (Z : Bi mg) (F : Fun K "table_places" "table_places" s_table_places f fd) : FnOk P w K mg base CX0 1 f fd ["places", "table"] (spP PTp) := by
  refine F.ok sc_table_places (fun vs H Q E h => ?_) (fun cdv A outer s H vs Q E hr h => ?_)
  · obtain ⟨_, _, _, ⟨_, _, _, _, rfl, _⟩, _⟩ := h
    rfl
  · obtain ⟨G, R, hs, ⟨pd, pt, names, rows, rfl, hd, hnd, hn, ⟨vs, ht, rl⟩, hl, hr2, rfl⟩, q⟩ := h
    refine ⟨_, (pss_cons (ps_if (PW.pt (pw_or (pt_cmpR (op_neA K hr.units) (pe_callB (call_lenA K) (by rfl) Z.z_len PySem.boot_len (pa_cons (pv 1) pa_nil)) (pe_callB (call_lenA K) (by rfl) Z.z_len PySem.boot_len (pa_cons (pv 0) pa_nil)) (nomark _)) (pw_or1 (pt_val (pe_callB (call_anyA K) (by rfl) Z.z_any (by decide +kernel) (pa_cons (pe_lc (own := [("row", 3)]) (g := (gName 3)) rfl sc_table_places.nd (pi_listK K (pv 1)) (blkOk_by (by kernel_rfl)) (fun _ _ _ _ _ => (pg_name (i := 3) sc_table_places.nd rfl (Or.inl rfl))) (fun _ _ _ _ _ => pts_nil) (fun _ _ _ _ _ => (pe_cmpR (op_neA K hr.units) (pe_callB (call_lenA K) (by rfl) Z.z_len PySem.boot_len (pa_cons (pv 3) pa_nil)) (pe_callB (call_lenA K) (by rfl) Z.z_len PySem.boot_len (pa_cons (pv 0) pa_nil)) (nomark _)))) pa_nil)))))) (pss_cons ps_never
  pss_nil) pss_nil)
  (pss_cons (ps_setLc (i := 2) (own := [("row", 3)]) (g := (gName 3)) rfl sc_table_places.nd rfl rfl (sw_true rfl rfl rfl (by decide +kernel)) (pi_listK K (pv 1)) (blkOk_by (by kernel_rfl)) (fun _ _ _ _ _ => (pg_name (i := 3) sc_table_places.nd rfl (Or.inl rfl))) (fun _ _ _ _ _ => pts_nil) (fun _ _ _ _ _ => (pe_lc (own := [("name", 4)]) (g := (gName 4)) rfl sc_table_places.nd (pi_listK K (pv 3)) (blkOk_by (by kernel_rfl)) (fun _ _ _ _ _ => (pg_name (i := 4) sc_table_places.nd rfl (Or.inl rfl))) (fun _ _ _ _ _ => pts_nil) (fun _ _ _ _ _ => (pe_dget1 (hu_of hr) (pv 0) (pv 4) ⟨rfl, rfl, rfl, rfl⟩)))))
  (pss_cons (ps_if (pt_val (pe_callB (call_anyA K) (by rfl) Z.z_any (by decide +kernel) (pa_cons (pe_lc (own := [("row", 3)]) (g := (gName 3)) rfl sc_table_places.nd (pi_listK K (pv 2)) (blkOk_by (by kernel_rfl)) (fun _ _ _ _ _ => (pg_name (i := 3) sc_table_places.nd rfl (Or.inl rfl))) (fun _ _ _ _ _ => pts_nil) (fun _ _ _ _ _ => (pe_cmpR (op_inA K (hu_of hr)) pe_non (pv 3) (by rfl)))) pa_nil))) (pss_cons ps_never
  pss_nil) pss_nil)
  (pss_cons (ps_ret (pv 2))
  pss_nil)))), ?_⟩
    have st := stab0 G H
    have h0 : SP0 G H 0 G H := Grow.refl hs
    show tSeq _ _ (Ends.mk _ _ _ _) [some _, some _, none, none, none] _
    have lv := rl_len rl
    have lp := plc_len names 0
    have row : ∀ {j : Nat} {y : V} {G' : Hp}, vs[j]? = some y → Same G G' → ∃ r, rows[j]? = some r ∧ r ∈ rows ∧ IsSR r y G' := fun {j y G'} hy s' => by
      have hj : j < rows.length := by
        have := (List.getElem?_eq_some_iff.mp hy).1
        omega
      have e1 : rows[j]? = some rows[j] := List.getElem?_eq_getElem hj
      obtain ⟨u, hu, iu⟩ := rl_get rl e1
      rw [hu] at hy
      obtain rfl := Option.some.inj hy
      exact ⟨_, e1, List.getElem_mem hj, Mon.mon s' iu⟩
    refine q_if st h0 (et_or st (et_testV (ev_opV (ev_cbV (ea_consV (ev_var rfl) ea_nilV) (c_lenL st (SqL.of ht))) (ev_cbV (ea_consV (ev_var rfl) ea_nilV) (c_lenD st hd)) (v_neI st))) (fun _ => et_B (b := false) (ev_cb (ea_cons (ev_lcVL (f := fun _ => .bl false) st (ev_var rfl) (SqL.of ht) (by omega) (fun _ => rfl) fun j y G' hy s' => ?_) ea_nil) fun us G' s' e => ?_))) (fun H1 p1 k1 h1 => ?_) (fun H1 p1 k1 h1 => ?_)
    · obtain ⟨r, _, hm, p, rfl, hp⟩ := row hy s'
      refine ev_eq ?_ (ev_opV (ev_cbV (ea_consV (ev_var rfl) ea_nilV) (c_lenL st (SqL.of hp))) (ev_cbV (ea_consV (ev_var rfl) ea_nilV) (c_lenD st (s' _ _ hd))) (v_neI st))
      rw [List.length_map, lp, (hr2 r hm).1]
      simp
    · obtain ⟨_, _, rfl, ⟨p, rfl, _, g⟩, e2⟩ := e
      obtain rfl := (show _ = _ from e2)
      have e3 : (vs.map fun _ => false).any id = false := by
        rw [List.any_eq_false]
        intro b hb
        obtain ⟨_, _, rfl⟩ := List.mem_map.mp hb
        simp
      rw [← e3]
      exact c_any st (SqL.of (by rw [g, List.map_map]; rfl))
    · rw [lv, hl, lp] at p1
      simp at p1
    refine q_end ?_
    refine q_set (R := IsNX G (RL (IsIR names) rows)) h1 (ev_lcG (R := IsIR names) (ss := rows) (σf := fun j => [some (.ref pd), some (.ref pt), none, vs[j]?, none]) st (ev_var rfl) (SqL.of ht) lv (by omega) (fun j y G' J hy s' t' Qs q' => ?_) (fun _ => rfl) (fun j y r G' hy hrj s' => ?_)) fun v2 G2 H2 s2 r2 => ?_
    · rw [hy] at q'
      exact q'
    · show Ev _ _ _ _ [some (.ref pd), some (.ref pt), none, vs[j]?, none] _ _
      rw [hy]
      obtain ⟨r', er, hm, p, rfl, hp⟩ := row hy s'
      rw [hrj] at er
      obtain rfl := Option.some.inj er
      refine (ev_lcVL (f := fun v => match v with | .str e => .int (names.idxOf e : Nat) | _ => .non) st (ev_var rfl) (SqL.of hp) (by rw [List.length_map, (hr2 r hm).1]; omega) (fun _ => rfl) fun i z G'' hz s'' => ?_).imp fun v G'' s'' ⟨p2, e, _, g⟩ => ⟨p2, e, by rw [g, List.map_map]; rfl⟩
      obtain ⟨hi, rfl⟩ := map_get hz
      have hmem := (hr2 r hm).2 _ (List.getElem_mem hi)
      refine ev_eq ?_ (ev_dget (k := .inr r[i]) st (ev_var rfl) (s'' _ _ (s' _ _ hd)) (ev_var rfl))
      rw [plc_some hnd (idx_get hmem), Nat.zero_add]
      rfl
    obtain ⟨p2, ws, rfl, _, g2, rl2⟩ := r2
    have lw := rl_len rl2
    refine q_if st s2.s (et_B (b := false) (ev_cb (ea_cons (ev_lcVL (f := fun _ => .bl false) st (ev_var rfl) (SqL.of g2) (by omega) (fun _ => rfl) fun j y G' hy s' => ?_) ea_nil) fun us G' s' e => ?_)) (fun H3 p3 k3 h3 => ?_) (fun H3 p3 k3 h3 => ?_)
    · have hj : j < rows.length := by
        have := (List.getElem?_eq_some_iff.mp hy).1
        omega
      obtain ⟨u, hu, p, rfl, hp⟩ := rl_get rl2 (List.getElem?_eq_getElem hj)
      rw [hu] at hy
      obtain rfl := Option.some.inj hy
      refine ev_eq ?_ (ev_opV ev_c (ev_var rfl) (v_inL (neg := false) st (SqL.of (s' _ _ hp)) rfl ?_))
      · have e4 : inV .non (rows[j].map fun e => V.int (names.idxOf e : Nat)) = false := by
          unfold inV
          rw [List.any_eq_false]
          intro b hb
          obtain ⟨_, _, rfl⟩ := List.mem_map.mp hb
          exact Bool.false_ne_true
        rw [e4]
        rfl
      · rw [List.all_map, List.all_eq_true]
        exact fun _ _ => rfl
    · obtain ⟨_, _, rfl, ⟨p, rfl, _, g⟩, e2⟩ := e
      obtain rfl := (show _ = _ from e2)
      have e3 : (ws.map fun _ => false).any id = false := by
        rw [List.any_eq_false]
        intro b hb
        obtain ⟨_, _, rfl⟩ := List.mem_map.mp hb
        simp
      rw [← e3]
      exact c_any st (SqL.of (by rw [g, List.map_map]; rfl))
    · cases p3
    · refine q_end ?_
      refine q_ret h3 (ev_var rfl) fun v G4 H4 s4 e4 => q v G4 H4 s4.s ⟨p2, e4, ws, s4.g _ _ g2, rl_mon s4.g rl2⟩
theorem ok_tb_m {C : Addr} {fld : Str} (hC : Cls K C) (hN : NoAttr K C fld) {G H : Hp} {x dx p : Addr} {fs : List (Str × V)} {names : List Str} {rows : List (List Str)} {a b : Nat} {σ : L2.St} {n : Nat} (st : Stab (SP0 G H)) (h0 : σ[0]? = some (some (.ref x))) (h1 : σ[1]? = some (some (.int (a : Nat)))) (h2 : σ[2]? = some (some (.int (b : Nat))))
    (hx : G x = some (.ins C dx fs)) (hf : fs.lookup fld = some (.ref p)) (ht : TabI names G p rows) (ha : a < rows.length) (hb : ∀ r ∈ rows, b < r.length) : Ev (SP0 G H) n (0 + 0 + 0) (tOp (rIxA K) (tOp (rIxA K) (tFld K (tVar 0) fld) (tVar 1)) (tVar 2)) σ G (IsV (.int (idxT names rows a b))) := by
  obtain ⟨vs, hp, rl⟩ := ht
  have e1 : rows[a]? = some rows[a] := List.getElem?_eq_getElem ha
  obtain ⟨u, hu, q, rfl, hq⟩ := rl_get rl e1
  have hb' := hb _ (List.getElem_mem ha)
  refine ev_opV (ev_opV (ev_fld st (ev_var h0) hx hC hN hf) (ev_var h1) (v_ixL st (SqL.of hp) (atI_nat hu))) (ev_var h2) (v_ixL st (SqL.of hq) (atI_nat ?_))
  unfold idxT
  rw [List.getElem?_map, List.getElem?_eq_getElem hb', List.getD_eq_getElem?_getD, List.getD_eq_getElem?_getD, e1]
  show _ = some (V.int ((names.idxOf ((rows[a])[b]?.getD ("" : Str)) : Nat)))
  rw [List.getElem?_eq_getElem hb']
  rfl
theorem ok_tb_then {C : Addr} (hC : Cls K C) (hN : NoAttr K C "written_products") {f : Addr} {fd : FuncData} (F : Fun K "make_then" "TableScale.make_then" s_TableScale_make_then f fd) : FnOk P w K mg base CX0 5 f fd ["self", "first", "second"] (spP (PTbM C "written_products")) := by
  refine F.ok sc_TableScale_make_then (fun vs H Q E h => ?_) (fun cdv A outer s H vs Q E hr h => ?_)
  · obtain ⟨G, R, _, ⟨_, _, _, _, _, _, _, _, rfl, _⟩, _⟩ := h
    rfl
  · obtain ⟨G, R, hs, ⟨x, dx, p, fs, names, rows, a, b, rfl, hx, hf, ht, ha, hb, rfl⟩, q⟩ := h
    refine ⟨_, (pss_cons (ps_ret (pe_ix (ix_any K (hu_of hr)) (pe_ix (ix_any K (hu_of hr)) (pe_fldK K (pv 0)) (pv 1) (fun _ _ => rfl)) (pv 2) (fun _ _ => rfl)))
  pss_nil), ?_⟩
    have st := stab0 G H
    have h0 : SP0 G H 0 G H := Grow.refl hs
    show tSeq _ _ (Ends.mk _ _ _ _) [some _, some _, some _] _
    exact q_retV st h0 (ok_tb_m hC hN st rfl rfl rfl hx hf ht ha hb) fun H1 k1 h1 => q _ _ _ h1 rfl
theorem ok_tb_join {C : Addr} (hC : Cls K C) (hN : NoAttr K C "written_joins") {f : Addr} {fd : FuncData} (F : Fun K "make_join" "TableScale.make_join" s_TableScale_make_join f fd) : FnOk P w K mg base CX0 5 f fd ["self", "first", "second"] (spP (PTbM C "written_joins")) := by
  refine F.ok sc_TableScale_make_join (fun vs H Q E h => ?_) (fun cdv A outer s H vs Q E hr h => ?_)
  · obtain ⟨G, R, _, ⟨_, _, _, _, _, _, _, _, rfl, _⟩, _⟩ := h
    rfl
  · obtain ⟨G, R, hs, ⟨x, dx, p, fs, names, rows, a, b, rfl, hx, hf, ht, ha, hb, rfl⟩, q⟩ := h
    refine ⟨_, (pss_cons (ps_ret (pe_ix (ix_any K (hu_of hr)) (pe_ix (ix_any K (hu_of hr)) (pe_fldK K (pv 0)) (pv 1) (fun _ _ => rfl)) (pv 2) (fun _ _ => rfl)))
  pss_nil), ?_⟩
    have st := stab0 G H
    have h0 : SP0 G H 0 G H := Grow.refl hs
    show tSeq _ _ (Ends.mk _ _ _ _) [some _, some _, some _] _
    exact q_retV st h0 (ok_tb_m hC hN st rfl rfl rfl hx hf ht ha hb) fun H1 k1 h1 => q _ _ _ h1 rfl
theorem ok_TableScale_init {C fS : Addr} (Z : Bi mg) (hC : Cls K C) (hN : ∀ f ∈ ("written_joins" : Str) :: "written_products" :: scF, NoAttr K C f) (opq : PySem.W.nsIn K cStatics "thirdparty.any" = some none) (top0 : (P.main.scope.names.lookup ("super" : Str)).isSome = false)
    (hm : PySem.W.mroIn K C (.ref C) = some true) (hf : PySem.W.ks_superIn K C C "__init__" = some (some (.ref fS))) (c_super : SupC P w K mg base fS CX0 6 ["self", "label", "names", "never_at", "still_at", "depth"] [.int 1] (spI (PScI K C (PTbM C "written_products") (PTbM C "written_joins"))))
    (c_is_table_name : Callee P w K mg base "is_table_name" CX0 1 ["name"] [] (spP PIsN)) (c_table_places : Callee P w K mg base "table_places" CX0 1 ["places", "table"] [] (spP PTp)) {f : Addr} {fd : FuncData} (F : FunSD P K "__init__" "TableScale.__init__" s_TableScale___init__ [] [] f fd C) :
    FnOk P w K mg base (L2.CX P w) 10 f fd ["self", "names", "joins", "products", "never", "still"] (spI (PTbI C)) := by
  refine F.toS.okX sc_TableScale___init__ Z.z_super opq top0 rfl rfl (fun vs H Q E h => ?_) (fun cdv cc A outer s H vs Q E hr h SA => ?_)
  · obtain ⟨x, C', dx, fs, rest, G, R, rfl, _, _, _, ⟨_, _, _, _, _, _, _, _, _, _, rfl, _⟩, _⟩ := h
    rfl
  · obtain ⟨x, C', dx, fs, rest, G, R, rfl, hx, hG, gx, ⟨rfl, rfl, pn, pj, pp, names, joins, products, never, still, rfl, gn, tj, tp, T, rfl⟩, q⟩ := h
    refine ⟨_, (psa_cons (ps_setDc (i := 6) (own := [("place", 10), ("name", 11)]) (g := (gTup _ 2 (gCons (gName 10) (gCons (gName 11) gNil)))) rfl sc_TableScale___init__.nd rfl rfl (sw_dc rfl rfl rfl (by decide +kernel)) (pi_enum (by rfl) Z.z_enumerate (pa_cons (pv 1) pa_nil)) (blkOk_by (by kernel_rfl)) (fun _ _ _ _ _ => (pg_tup rfl (pgs_cons (pg_name (i := 10) sc_TableScale___init__.nd rfl (Or.inl rfl)) (pgs_cons (pg_name (i := 11) sc_TableScale___init__.nd rfl (Or.inl rfl)) pgs_nil)))) (fun _ _ _ _ _ => pts_nil) (fun _ _ _ _ _ => (pv 11)) (fun _ _ _ _ _ => (pv 10)))
  (psa_cons (ps_if (PW.pt (pw_or (pt_not (pt_chain op_leA op_leA pe_int (pe_callB (call_lenA K) (by rfl) Z.z_len PySem.boot_len (pa_cons (pv 1) pa_nil)) pe_int)) (pw_or1 (pt_cmpR (op_neA K hr.units) (pe_callB (call_lenA K) (by rfl) Z.z_len PySem.boot_len (pa_cons (pv 6) pa_nil)) (pe_callB (call_lenA K) (by rfl) Z.z_len PySem.boot_len (pa_cons (pv 1) pa_nil)) (nomark _))))) (pss_cons ps_never
  pss_nil) pss_nil)
  (psa_cons (ps_if (PW.pt (pw_or (pt_not (pt_val (pe_callB (call_allA K) (by rfl) Z.z_all (by decide +kernel) (pa_cons (pe_lc (own := [("name", 11)]) (g := (gName 11)) rfl sc_TableScale___init__.nd (pi_listK K (pv 1)) (blkOk_by (by kernel_rfl)) (fun _ _ _ _ _ => (pg_name (i := 11) sc_TableScale___init__.nd rfl (Or.inl rfl))) (fun _ _ _ _ _ => pts_nil) (fun _ _ _ _ _ => (pe_callC c_is_table_name (hr.mono (by decide)) pass0 (pa_cons (pv 11) pa_nil)))) pa_nil)))) (pw_or (pt_cmpR (op_ninA K (hu_of hr)) (pv 4) (pv 6) (by rfl)) (pw_or1 (pt_cmpR (op_ninA K (hu_of hr)) (pv 5) (pv 6) (by rfl)))))) (pss_cons ps_never
  pss_nil) pss_nil)
  (psa_cons (ps_fld (pv 0) (pe_callC c_table_places (hr.mono (by decide)) pass0 (pa_cons (pv 6) (pa_cons (pv 2) pa_nil))) rfl)
  (psa_cons (ps_fld (pv 0) (pe_callC c_table_places (hr.mono (by decide)) pass0 (pa_cons (pv 6) (pa_cons (pv 3) pa_nil))) rfl)
  (psa_cons (ps_set (i := 7) sc_TableScale___init__.nd rfl (Or.inl rfl) (pe_lst (pa_cons (pe_joinK K pe_str (pv 1)) (pa_cons (pe_joined (PJ.cons (pe_fmt (pv 4)) (PJ.cons pe_str (PJ.cons (pe_fmt (pv 5)) PJ.nil)))) pa_nil))))
  (psa_cons (ps_for (passes_of rfl) rfl (pi_listK K (pe_lst (pa_cons (pv 2) (pa_cons (pv 3) pa_nil)))) (pg_name (i := 8) sc_TableScale___init__.nd rfl (Or.inl rfl)) (pss_cons (ps_expr (pe_bm PySem.F.plainAttrs_list PySem.F.slot_list_append PySem.F.type_list_append mt_append (pv 7) (pa_cons (pe_joinK K pe_str (pe_lc (own := [("row", 12)]) (g := (gName 12)) rfl sc_TableScale___init__.nd (pi_listK K (pv 8)) (blkOk_by (by kernel_rfl)) (fun _ _ _ _ _ => (pg_name (i := 12) sc_TableScale___init__.nd rfl (Or.inl rfl))) (fun _ _ _ _ _ => pts_nil) (fun _ _ _ _ _ => (pe_joinK K pe_str (pv 12))))) pa_nil)))
  pss_nil))
  (psa_cons (ps_set (i := 9) sc_TableScale___init__.nd rfl (Or.inl rfl) (pe_joined (PJ.cons pe_str (PJ.cons (pe_fmt (pe_ix (ix_any K (hu_of hr)) (pv 7) pe_int (fun _ _ => rfl))) (PJ.cons pe_str (PJ.cons (pe_fmt (pe_ix (ix_any K (hu_of hr)) (pv 7) pe_int (fun _ _ => rfl))) (PJ.cons pe_str (PJ.cons (pe_fmt (pe_ix (ix_any K (hu_of hr)) (pv 7) pe_int (fun _ _ => rfl))) (PJ.cons pe_str (PJ.cons (pe_fmt (pe_ix (ix_any K (hu_of hr)) (pv 7) pe_int (fun _ _ => rfl))) (PJ.cons pe_str PJ.nil)))))))))))
  (psa_supC SA rfl (Or.inl rfl) c_super (hr.mono (by decide)) pass0 (pa_cons (pv 9) (pa_cons (pv 1) (pa_cons (pe_ix (ix_any K (hu_of hr)) (pv 6) (pv 4) (fun _ _ => rfl)) (pa_cons (pe_ix (ix_any K (hu_of hr)) (pv 6) (pv 5) (fun _ _ => rfl)) pa_nil))))
  (psa_end pss_nil)))))))))), ?_⟩
    have h0 := own_start (o := .ins C' dx []) hG gx hx 0
    have st0 := stabO G H x (.ins C' dx [])
    show tSeq _ _ (Ends.mk _ _ _ _) [some _, some _, some _, some _, some _, some _, none, none, none, none, none, none, none] _
    have l1 := T.l1
    have l2 := T.l2
    have lm : (names.map V.str).length = names.length := List.length_map _
    refine q_set h0 (ev_dcE st0 (ea_consV (ev_var rfl) ea_nilV) (SqL.of gn) (by omega) T.nd (by decide) (Nat.le_of_ble_eq_true rfl) (Nat.le_of_ble_eq_true rfl) (fun _ _ => rfl)) fun v1 G1 H1 s1 r1 => ?_
    obtain ⟨pd, rfl, _, gd⟩ := r1
    have gn1 := s1.g _ _ gn
    have lp := plc_len names 0
    refine q_if st0 s1.s (et_or st0 (et_not (et_testV (ev_chain st0 ev_c (ev_cbV (ea_consV (ev_var rfl) ea_nilV) (c_lenL st0 (SqL.of gn1))) (v_le st0) ev_c (v_le st0)))) (fun _ => et_testV (ev_opV (ev_cbV (ea_consV (ev_var rfl) ea_nilV) (c_lenD st0 gd)) (ev_cbV (ea_consV (ev_var rfl) ea_nilV) (c_lenL st0 (SqL.of gn1))) (v_neI st0)))) (fun H2 p2 k2 h2 => ?_) (fun H2 p2 k2 h2 => ?_)
    · refine absurd p2 ?_
      rw [lm, lp]
      simp
      omega
    refine q_end ?_
    have isn : ∀ {nm : Str}, nm ∈ names → okNm nm = true := fun h => T.ok _ h
    refine q_if st0 h2 (et_or st0 (et_not (et_B (b := true) (ev_cb (ea_cons (ev_lcVL (f := fun _ => .bl true) st0 (ev_var rfl) (SqL.of gn1) (by omega) (fun _ => rfl) fun j y G' hy s' => ?_) ea_nil) fun us G' s' e => ?_))) (fun _ => et_or st0 (et_testV (ev_opV (ev_var rfl) (ev_var rfl) (v_inD (neg := true) (key := .inr never) st0 gd))) (fun _ => et_testV (ev_opV (ev_var rfl) (ev_var rfl) (v_inD (neg := true) (key := .inr still) st0 gd))))) (fun H3 p3 k3 h3 => ?_) (fun H3 p3 k3 h3 => ?_)
    · obtain ⟨hj, rfl⟩ := map_get hy
      exact ev_eq (congrArg V.bl (isn (List.getElem_mem hj))) (ev_callV st0 (ea_consV (ev_var rfl) ea_nilV) fun G6 s6 => ⟨_, rfl, by have := okNm_len (isn (List.getElem_mem hj)); omega, rfl⟩)
    · obtain ⟨_, _, rfl, ⟨p, rfl, _, g⟩, e2⟩ := e
      obtain rfl := (show _ = _ from e2)
      have e3 : ((names.map V.str).map fun _ => true).all id = true := by
        rw [List.all_eq_true]
        intro b hb
        obtain ⟨_, _, rfl⟩ := List.mem_map.mp hb
        rfl
      rw [← e3]
      exact c_all st0 (SqL.of (by rw [g, List.map_map, List.map_map, List.map_map]; rfl))
    · refine absurd p3 ?_
      rw [plc_some T.nd (idx_get T.nv), plc_some T.nd (idx_get T.sl)]
      simp
    refine q_end ?_
    refine q_fldO h3 (ev_callV (R := fun v G' => ∃ p, v = .ref p ∧ TabI names G' p joins) (ws := [.ref pd, .ref pj]) st0 (ea_consV (ev_var rfl) (ea_consV (ev_var rfl) ea_nilV)) fun G' s' => ⟨pd, pj, names, joins, rfl, s' _ _ gd, T.nd, by omega, tj.mono (s1.g.trans s'), T.jl, T.jr, rfl⟩) rfl hC (hN _ (by decide)) (by decide) fun v4 G4 H4 s4 h4 r4 => ?_
    obtain ⟨p4, rfl, t4⟩ := r4
    generalize e4 : putF ("written_joins" : Str) (.ref p4) [] = f4 at h4
    have z4 : f4.length ≤ 1 := by rw [← e4]; exact putF_len _ _ _
    have st4 := stabO G H x (.ins C' dx f4)
    have gd4 := s4 _ _ gd
    refine q_fldO h4 (ev_callV (R := fun v G' => ∃ p, v = .ref p ∧ TabI names G' p products) (ws := [.ref pd, .ref pp]) st4 (ea_consV (ev_var rfl) (ea_consV (ev_var rfl) ea_nilV)) fun G' s' => ⟨pd, pp, names, products, rfl, s' _ _ gd4, T.nd, by omega, tp.mono ((s1.g.trans s4).trans s'), T.pl, T.pr, rfl⟩) rfl hC (hN _ (by decide)) (by omega) fun v5 G5 H5 s5 h5 r5 => ?_
    obtain ⟨p5, rfl, t5⟩ := r5
    generalize e5 : putF ("written_products" : Str) (.ref p5) f4 = f5 at h5
    have z5 : f5.length ≤ 2 := by rw [← e5]; exact Nat.le_trans (putF_len _ _ _) (by omega)
    have on4 : f5.lookup ("written_joins" : Str) = some (.ref p4) := by rw [← e5, lk_ne (by decide +kernel), ← e4]; exact lk_eq
    have on5 : f5.lookup ("written_products" : Str) = some (.ref p5) := by rw [← e5]; exact lk_eq
    have off5 : ∀ f, f ≠ ("written_joins" : Str) → f ≠ ("written_products" : Str) → f5.lookup f = none := fun f a b => by rw [← e5, lk_ne b, ← e4, lk_ne a]; rfl
    have st5 := stabO G H x (.ins C' dx f5)
    have s15 := (s1.g.trans s4).trans s5
    have gn5 := s15 _ _ gn
    have nj := names_join T.ok l2
    have jj := joinR_len T.ok l2 T.jl T.jr
    have jp := joinR_len T.ok l2 T.pl T.pr
    have hsz : (100000 : Nat) ≤ sizeLine := by decide
    have w1 : (" " : Str).length = 1 := by decide +kernel
    have ln := okNm_len (T.ok _ T.nv)
    have ls := okNm_len (T.ok _ T.sl)
    have ee : ∀ z : Str, Str.empty ++ z = z := Str.empty_append
    refine q_newX (R := fun s : Str => IsV (.str s)) (ss := [Txt.join (" " : Str) names, never ++ (" " : Str) ++ still]) st5 h5 (ea_cons (ev_join st5 ev_c ((ev_var rfl).imp fun v G' s' e => ⟨pn, e, SqL.of (s' _ _ gn5)⟩) (by rw [w1]; exact nj.1)) (ea_cons (ev_joined (ej_cons (ev_fmtS (ev_var rfl) (by omega)) (by rw [ee]; omega) (ej_cons ev_c (by rw [ee, Str.length_append]; omega) (ej_cons (ev_fmtS (ev_var rfl) (by omega)) (by rw [ee, Str.length_append, Str.length_append]; omega) (by rw [ee]; exact ej_nil))))) ea_nil)) (by simp) fun D G6 H6 J s6 hD hJ => ?_
    obtain ⟨G7, g7, s7, mv⟩ := hJ.step2 st5 s6.s hD
    have old : ∀ {b : Addr} {o : HO} {G' : Hp}, G b = some o → Same G6 G' → G' b = some o := fun e s' => s' _ _ (s6.g _ _ (s15 _ _ e))
    have rowsJ : ∀ {rows : List (List Str)} {pt : Addr} {G' : Hp} {n : Nat} {σ : L2.St}, TabS G pt rows → (∀ r ∈ rows, (r.map (·.length)).sum + r.length * 1 ≤ 208 ∧ (Txt.join (" " : Str) r).length ≤ 208) → rows.length ≤ 16 → ((rows.map fun r => Txt.join (" " : Str) r).map (·.length)).sum + (rows.map fun r => Txt.join (" " : Str) r).length * 1 ≤ 16777216 → Same G6 G' →
        σ = [some (.ref x), some (.ref pn), some (.ref pj), some (.ref pp), some (.str never), some (.str still), some (.ref pd), some (.ref D), some (.ref pt), none, none, none, none] →
        Ev (Own G H x (.ins C' dx f5)) n (0 + 0) (tM1 (rJoinK K) (tC (.str (" " : Str))) (tLc (iList K (tVar 8)) (gName 12) tYes (tM1 (rJoinK K) (tC (.str (" " : Str))) (tVar 12)) [12])) σ G' (IsV (.str (joinR rows))) := fun {rows pt G' n σ} ht hl h16 hs' s' eσ => by
      subst eσ
      obtain ⟨vs, hp, rl⟩ := ht
      have lv := rl_len rl
      refine ev_join st5 ev_c ((ev_lcG (R := fun r : List Str => IsV (.str (Txt.join (" " : Str) r))) (ss := rows) (σf := fun j => [some (.ref x), some (.ref pn), some (.ref pj), some (.ref pp), some (.str never), some (.str still), some (.ref pd), some (.ref D), some (.ref pt), none, none, none, vs[j]?]) st5 (ev_var rfl) (SqL.of (old hp s')) lv (by omega) (fun j y G'' J'' hy s'' t'' Qs q' => ?_) (fun _ => rfl) (fun j y r G'' hy hr s'' => ?_)).imp fun v G'' s'' ⟨p, ys, e, _, g, rl'⟩ => ?_) (by rw [w1]; exact hs')
      · rw [hy] at q'
        exact q'
      · show Ev _ _ _ _ [some (.ref x), some (.ref pn), some (.ref pj), some (.ref pp), some (.str never), some (.str still), some (.ref pd), some (.ref D), some (.ref pt), none, none, none, vs[j]?] _ _
        rw [hy]
        obtain ⟨u, hu, pr, rfl, hpr⟩ := rl_get rl hr
        rw [hu] at hy
        obtain rfl := Option.some.inj hy
        exact ev_join st5 ev_c ((ev_var rfl).imp fun v G3 s3 e => ⟨pr, e, SqL.of (s3 _ _ (s'' _ _ (old hpr s')))⟩) (by rw [w1]; have := (hl r (List.mem_of_getElem? hr)).1; omega)
      · rw [rl_vals rl'] at g
        exact ⟨p, e, SqL.of (by rw [g, List.map_map]; rfl)⟩
    refine q_forIX (RA := IsVs [.ref pj, .ref pp]) st5 s7 ((ev_lstN st5 (ea_consV (ev_var rfl) (ea_consV (ev_var rfl) ea_nilV)) (by simp)).imp fun v G' s' ⟨p, e, _, g⟩ => ⟨p, _, e, g, rfl⟩)
      (fun q j τ J => (∃ a, τ = [some (.ref x), some (.ref pn), some (.ref pj), some (.ref pp), some (.str never), some (.str still), some (.ref pd), some (.ref D), a, none, none, none, none]) ∧ LcQ (Own G H x (.ins C' dx f5)) G6 H6 0 D (fun s : Str => IsV (.str s)) ([Txt.join (" " : Str) names, never ++ (" " : Str) ++ still] ++ [joinR joins, joinR products].take j) J ∧ J q = some (.lst [.ref pj, .ref pp]) ∧ q ≠ D) fun q0 xs G8 H8 s8 gq ex => ?_
    obtain rfl := (show xs = _ from ex)
    refine ⟨fun j τ J hp => SqL.of hp.2.2.1, ⟨⟨_, rfl⟩, (mv s8).1, st5.sub s8.s _ _ gq, fun e => by rw [e, (mv s8).2] at gq; cases gq⟩, fun j y σ' J hy hp => ?_, fun σ' J hp => ?_⟩
    · obtain ⟨⟨a, rfl⟩, hq, hJq, hne⟩ := hp
      rcases j with _ | _ | j
      · cases hy
        show tSeq _ _ (Ends.mk _ _ _ _) [some (.ref x), some (.ref pn), some (.ref pj), some (.ref pp), some (.str never), some (.str still), some (.ref pd), some (.ref D), some (.ref pj), none, none, none, none] _
        exact q_appX2 st5 s6.s hD hq (x := joinR joins) (by simp) rfl (fun G' g' => ea_cons (rowsJ tj (rows_len T.ok l2 T.jl T.jr) (by rw [T.jl]; exact l2) jj.1 g' rfl) ea_nil) fun J' h' kp => q_end ⟨⟨_, rfl⟩, h', kp _ _ (fun z => z) hne hJq, hne⟩
      · cases hy
        show tSeq _ _ (Ends.mk _ _ _ _) [some (.ref x), some (.ref pn), some (.ref pj), some (.ref pp), some (.str never), some (.str still), some (.ref pd), some (.ref D), some (.ref pp), none, none, none, none] _
        exact q_appX2 st5 s6.s hD hq (x := joinR products) (by simp) rfl (fun G' g' => ea_cons (rowsJ tp (rows_len T.ok l2 T.pl T.pr) (by rw [T.pl]; exact l2) jp.1 g' rfl) ea_nil) fun J' h' kp => q_end ⟨⟨_, rfl⟩, h', kp _ _ (fun z => z) hne hJq, hne⟩
      · simp at hy
    · obtain ⟨⟨a, rfl⟩, hq, _, _⟩ := hp
      obtain ⟨G9, s9, r9⟩ := hq.pub st5 s6.s (Nat.le_refl _) hD
      obtain ⟨p9, ys, e, _, g9, rl9⟩ := r9
      obtain rfl : D = p9 := by cases e; rfl
      rw [rl_vals (g := V.str) rl9] at g9
      have ix : ∀ {n j : Nat} {z : Str} {σ : L2.St}, σ[7]? = some (some (.ref D)) → [Txt.join (" " : Str) names, never ++ (" " : Str) ++ still, joinR joins, joinR products][j]? = some z → Ev (Own G H x (.ins C' dx f5)) n (0 + 0) (tOp (rIxA K) (tVar 7) (tC (.int (j : Nat)))) σ G9 (IsV (.str z)) := fun hv hz => ev_opV (ev_var hv) ev_c (v_ixL st5 (SqL.of g9) (atI_nat (by
        show (List.map V.str [Txt.join (" " : Str) names, never ++ (" " : Str) ++ still, joinR joins, joinR products])[_]? = _
        rw [List.getElem?_map, hz]
        rfl)))
      have c1 : ("(table (" : Str).length = 8 ∧ (") " : Str).length = 2 ∧ (" (" : Str).length = 2 ∧ (") (" : Str).length = 3 ∧ ("))" : Str).length = 2 := by decide +kernel
      have la : ∀ a b : Str, (a ++ b).length = a.length + b.length := Str.length_append
      refine q_setV st5 s9.s (x := .str (tbLab names never still joins products)) (ev_joined (ej_cons ev_c (by rw [ee]; omega) (ej_cons (ev_fmtS (ix (j := 0) rfl rfl) (by omega)) (by simp only [ee, la]; omega) (ej_cons ev_c (by simp only [ee, la]; omega) (ej_cons (ev_fmtS (ix (j := 1) rfl rfl) (by simp only [la]; omega)) (by simp only [ee, la]; omega)
        (ej_cons ev_c (by simp only [ee, la]; omega) (ej_cons (ev_fmtS (ix (j := 2) rfl rfl) (by omega)) (by simp only [ee, la]; omega) (ej_cons ev_c (by simp only [ee, la]; omega) (ej_cons (ev_fmtS (ix (j := 3) rfl rfl) (by omega)) (by simp only [ee, la]; omega) (ej_cons ev_c (by simp only [ee, la]; omega) (by rw [ee]; exact ej_nil))))))))))) fun H10 k10 h10 => ?_
      have s69 := s6.g.trans s9.g
      have gd9 : G9 pd = some (.dK (plc names 0)) := s69 _ _ (s5 _ _ (s4 _ _ gd))
      refine q_supO h10 rfl hm hf (ea_cons (ev_var rfl) (ea_cons (ev_var rfl) (ea_cons (ev_opV (ev_var rfl) (ev_var rfl) (v_ixDs st5 gd9 (plc_some T.nd (idx_get T.nv)))) (ea_cons (ev_opV (ev_var rfl) (ev_var rfl) (v_ixDs st5 gd9 (plc_some T.nd (idx_get T.sl)))) ea_nil))))
        (RO := fun _ _ fs' G' => ScIs (tbLab names never still joins products) names (names.idxOf never : Nat) (names.idxOf still : Nat) 1 (idxT names products) (idxT names joins) fs' G' ∧ (∀ f, f ∉ scF → fs'.lookup f = f5.lookup f) ∧ fs'.length ≤ f5.length + 9) (fun vs G2 s2 r2 => ?_) (fun f6 G11 H11 s11 h11 r11 => ?_)
      · obtain ⟨_, _, rfl, a1, _, _, rfl, a2, _, _, rfl, a3, _, _, rfl, a4, a5⟩ := r2
        obtain rfl := (show _ = _ from a1)
        obtain rfl := (show _ = _ from a2)
        obtain rfl := (show _ = _ from a3)
        obtain rfl := (show _ = _ from a4)
        obtain rfl := (show _ = _ from a5)
        have sGs : Same G5 G2 := s69.trans s2
        refine ⟨rfl, tbLab names never still joins products, pn, names, (names.idxOf never : Nat), (names.idxOf still : Nat), 1, idxT names products, idxT names joins, by rw [Nat.zero_add, Nat.zero_add]; rfl, SqL.of (s2 _ _ (old gn s9.g)), by omega, T.nd, by omega, off5 _ (by decide +kernel) (by decide +kernel), off5 _ (by decide +kernel) (by decide +kernel), fun y dy fs' G' s3 hy hfs a b ha hb => ?_, rfl⟩
        have w4 := (hfs ("written_joins" : Str) (by decide +kernel)).trans on4
        have w5 := (hfs ("written_products" : Str) (by decide +kernel)).trans on5
        exact ⟨⟨y, dy, p5, fs', names, products, a, b, rfl, hy, w5, t5.mono (sGs.trans s3), by rw [T.pl]; exact ha, fun r hr => by rw [(T.pr r hr).1]; exact hb, rfl⟩, ⟨y, dy, p4, fs', names, joins, a, b, rfl, hy, w4, t4.mono ((s5.trans sGs).trans s3), by rw [T.jl]; exact ha, fun r hr => by rw [(T.jr r hr).1]; exact hb, rfl⟩⟩
      · exact q_end (q f6 _ _ (own_n h11) ⟨r11.1, fun f hf h1 => (r11.2.1 f hf).trans (off5 f (fun e => h1 (by rw [e]; decide)) (fun e => h1 (by rw [e]; decide)))⟩)
abbrev s_depth_above : Stmt := top 21
theorem sc_depth_above : FnScope ["size", "inner", "depth", "scale"] ["size", "inner"] (defScope s_depth_above) := ⟨rfl, rfl, rfl, by decide +kernel, rfl, by decide +kernel, by decide +kernel⟩
abbrev s_TurnedScale___init__ : Stmt := inClass (top 24) 0
theorem sc_TurnedScale___init__ : ScS ["self", "inner", "depth", "names", "place"] ["self", "inner"] (defScope s_TurnedScale___init__) := ⟨rfl, rfl, rfl, by decide +kernel, rfl, by decide +kernel, by decide +kernel, rfl, by decide +kernel, rfl⟩
abbrev s_TurnedScale_make_then : Stmt := inClass (top 24) 1
theorem sc_TurnedScale_make_then : FnScope ["self", "first", "second"] ["self", "first", "second"] (defScope s_TurnedScale_make_then) := ⟨rfl, rfl, rfl, by decide +kernel, rfl, by decide +kernel, by decide +kernel⟩
abbrev s_TurnedScale_make_join : Stmt := inClass (top 24) 2
theorem sc_TurnedScale_make_join : FnScope ["self", "first", "second"] ["self", "first", "second"] (defScope s_TurnedScale_make_join) := ⟨rfl, rfl, rfl, by decide +kernel, rfl, by decide +kernel, by decide +kernel⟩
theorem ok_depth_above {Cs : List Addr} {tM tD : Tok} (Z : Bi mg) (g_MOST_WORTHS : mg "MOST_WORTHS" = some (.int 64 tM)) (g_DEEPEST_combined : mg "DEEPEST_combined" = some (.int 10 tD)) {f : Addr} {fd : FuncData} (F : Fun K "depth_above" "depth_above" s_depth_above f fd) (hm : mg "depth_above" = some (.ref f)) (hk : PySem.W.keepIn K (.ref f) = true) :
    CalleeR P w K mg base "depth_above" CX0 2 (spP (PDepC K Cs)) := by
  refine ⟨f, hm, hk, (okStar (ps := ["size"]) (pv := "inner") (k := 1) (sp0 := spP (PDep K Cs)) F sc_depth_above (fun kV doc pm an cdv ct => StX.bind_star1 (p1 := "size") (pv := "inner") (B := fun us => bindArgs (PySem.W.fnOf "depth_above" "depth_above" (defArgs s_depth_above) (defBody s_depth_above) (defScope s_depth_above) .none kV doc pm an cdv ct) ⟨us, []⟩) (fun a => rfl) (fun a r rs => rfl)) (fun cdv A outer s H vs Q E hr h => ?_)).imp fun vs H Q E h => ?_⟩
  · obtain ⟨G, R, hs, ⟨size, p, xs, ds, rfl, hp, rl, hz, hd, rfl⟩, q⟩ := h
    refine ⟨_, (pss_cons (ps_set (i := 2) sc_depth_above.nd rfl (Or.inl rfl) pe_int)
  (pss_cons (ps_for PassesOwn.never rfl (pi_tupK K (pv 1)) (pg_name (i := 3) sc_depth_above.nd rfl (Or.inl rfl)) (pss_cons (ps_if (pt_cmpR op_geA (pe_fldK K (pv 3)) (pv 2) (nomark _)) (pss_cons (ps_set (i := 2) sc_depth_above.nd rfl (Or.inl rfl) (pe_op op_addA (pe_fldK K (pv 3)) pe_int))
  pss_nil) pss_nil)
  pss_nil))
  (pss_cons (ps_if (PW.pt (pw_or (pt_cmpR op_gtA (pv 0) (pe_glob (v := .int 64) rfl g_MOST_WORTHS ⟨_, rfl⟩) (nomark _)) (pw_or1 (pt_cmpR op_gtA (pv 2) (pe_glob (v := .int 10) rfl g_DEEPEST_combined ⟨_, rfl⟩) (nomark _))))) (pss_cons ps_never
  pss_nil) pss_nil)
  (pss_cons (ps_ret (pv 2))
  pss_nil)))), ?_⟩
    have st := stab0 G H
    have h0 : SP0 G H 0 G H := Grow.refl hs
    show tSeq _ _ (Ends.mk _ _ _ _) [some _, some _, none, none] _
    refine q_setV st h0 ev_c fun H1 k1 h1 => ?_
    have lx := rl_len rl
    refine q_forPT st h1 (ev_var rfl) (SqT.of hp) (fun j σ' => ∃ a, σ' = [some (.int size), some (.ref p), some (.int (depL (ds.take j))), a]) ⟨_, rfl⟩ (fun j y σ' J hy hp' s2 => ?_) (fun σ' J hp' s2 => ?_)
    · obtain ⟨a, rfl⟩ := hp'
      have hj : j < ds.length := by
        have := (List.getElem?_eq_some_iff.mp hy).1
        omega
      obtain ⟨u, hu, x, rfl, hx⟩ := rl_get rl (List.getElem?_eq_getElem hj)
      rw [hu] at hy
      obtain rfl := Option.some.inj hy
      have e : depL (ds.take (j + 1)) = if (ds[j]).dep ≥ depL (ds.take j) then (ds[j]).dep + 1 else depL (ds.take j) := by
        unfold depL
        rw [List.take_succ_eq_append_getElem hj, List.foldl_append]
        rfl
      rw [e]
      generalize depL (ds.take j) = acc
      show tSeq _ _ (Ends.mk _ _ _ _) [some (.int size), some (.ref p), some (.int acc), some (.ref x)] _
      have fd := fun {n : Nat} {σ : L2.St} (e : σ[3]? = some (some (.ref x))) => (ev_sF (K := K) (n := n) st hx (ev_var e)).2.2.2.2
      refine q_if st s2.s (et_testV (ev_opV (fd rfl) (ev_var rfl) (v_ge st))) (fun H3 p3 k3 h3 => ?_) (fun H3 p3 k3 h3 => ?_)
      · have p3 : (ds[j]).dep ≥ acc := by simpa using p3
        refine q_setV st h3 (ev_opV (fd rfl) ev_c (v_add st)) fun H4 k4 h4 => q_end (q_end ⟨⟨_, by rw [if_pos p3]; rfl⟩, (s2.go k3 h3).go k4 h4⟩)
      · have p3 : ¬ (ds[j]).dep ≥ acc := by simpa using p3
        exact q_end (q_end ⟨⟨_, by rw [if_neg p3]⟩, s2.go k3 h3⟩)
    · obtain ⟨a, rfl⟩ := hp'
      rw [lx, List.take_length]
      refine q_if st s2.s (et_or st (et_testV (ev_opV (ev_var rfl) ev_c (v_gt st))) (fun _ => et_testV (ev_opV (ev_var rfl) ev_c (v_gt st)))) (fun H3 p3 k3 h3 => ?_) (fun H3 p3 k3 h3 => ?_)
      · refine absurd p3 ?_
        simp
        omega
      · refine q_end ?_
        exact q_retV st h3 (ev_var rfl) fun H4 k4 h4 => q _ _ _ h4 rfl
  · obtain ⟨G, R, hs, ⟨size, xs, ds, rfl, hl, rl, hz, hd, rfl⟩, q⟩ := h
    refine ⟨[.int size], xs, rfl, rfl, Nat.le_trans hl (by decide), fun p hp => ?_⟩
    have g := Grow.new hs hp (.tup xs)
    exact ⟨_, _, g.s, ⟨size, p, xs, ds, rfl, upd_same, rl_mon g.g rl, hz, hd, rfl⟩, fun v G' H' g' r => q v G' H' (g.trans g') r⟩
theorem ok_turn_then {Cs : List Addr} {C : Addr} (hC : Cls K C) (hl : NoAttr K C "inner") (c_then_at : ∀ C ∈ Cs, Method P w K mg base C "then_at" CX0 1 ["self", "first", "second"] [] (spP (PAt K fun th _ a b => .int (th a b))))
    {f : Addr} {fd : FuncData} (F : Fun K "make_then" "TurnedScale.make_then" s_TurnedScale_make_then f fd) : FnOk P w K mg base CX0 5 f fd ["self", "first", "second"] (spP (PTuM K Cs C SD.th)) := by
  refine F.ok sc_TurnedScale_make_then (fun vs H Q E h => ?_) (fun cdv A outer s H vs Q E hr h => ?_)
  · obtain ⟨G, R, _, ⟨_, _, _, _, _, _, _, rfl, _⟩, _⟩ := h
    rfl
  · obtain ⟨G, R, hs, ⟨x, dx, l, fs, d, a, b, rfl, hx, fl, h1, ha, hb, rfl⟩, q⟩ := h
    refine ⟨_, (pss_cons (ps_ret (pe_methA c_then_at (hr.mono (by decide)) pass0 (pe_fldK K (pv 0)) (pa_cons (pv 2) (pa_cons (pv 1) pa_nil))))
  pss_nil), ?_⟩
    have st := stab0 G H
    have h0 : SP0 G H 0 G H := Grow.refl hs
    show tSeq _ _ (Ends.mk _ _ _ _) [some _, some _, some _] _
    exact q_retV st h0 (ev_sAt (pk := fun th _ a b => .int (th a b)) st h1 (by decide) (ev_fld st (ev_var rfl) hx hC hl fl) (ea_consV (ev_var rfl) (ea_consV (ev_var rfl) ea_nilV)) hb ha) fun H1 k1 h1 => q _ _ _ h1 rfl
theorem ok_turn_join {Cs : List Addr} {C : Addr} (hC : Cls K C) (hl : NoAttr K C "inner") (c_join_at : ∀ C ∈ Cs, Method P w K mg base C "join_at" CX0 1 ["self", "first", "second"] [] (spP (PAt K fun _ jn a b => .int (jn a b))))
    {f : Addr} {fd : FuncData} (F : Fun K "make_join" "TurnedScale.make_join" s_TurnedScale_make_join f fd) : FnOk P w K mg base CX0 5 f fd ["self", "first", "second"] (spP (PTuM K Cs C SD.jn)) := by
  refine F.ok sc_TurnedScale_make_join (fun vs H Q E h => ?_) (fun cdv A outer s H vs Q E hr h => ?_)
  · obtain ⟨G, R, _, ⟨_, _, _, _, _, _, _, rfl, _⟩, _⟩ := h
    rfl
  · obtain ⟨G, R, hs, ⟨x, dx, l, fs, d, a, b, rfl, hx, fl, h1, ha, hb, rfl⟩, q⟩ := h
    refine ⟨_, (pss_cons (ps_ret (pe_methA c_join_at (hr.mono (by decide)) pass0 (pe_fldK K (pv 0)) (pa_cons (pv 1) (pa_cons (pv 2) pa_nil))))
  pss_nil), ?_⟩
    have st := stab0 G H
    have h0 : SP0 G H 0 G H := Grow.refl hs
    show tSeq _ _ (Ends.mk _ _ _ _) [some _, some _, some _] _
    exact q_retV st h0 (ev_sAt (pk := fun _ jn a b => .int (jn a b)) st h1 (by decide) (ev_fld st (ev_var rfl) hx hC hl fl) (ea_consV (ev_var rfl) (ea_consV (ev_var rfl) ea_nilV)) ha hb) fun H1 k1 h1 => q _ _ _ h1 rfl
theorem ok_TurnedScale_init {Cs : List Addr} {C fS : Addr} (Z : Bi mg) (hC : Cls K C) (hN : ∀ f ∈ ("inner" : Str) :: scF, NoAttr K C f) (opq : PySem.W.nsIn K cStatics "thirdparty.any" = some none) (top0 : (P.main.scope.names.lookup ("super" : Str)).isSome = false)
    (hm : PySem.W.mroIn K C (.ref C) = some true) (hf : PySem.W.ks_superIn K C C "__init__" = some (some (.ref fS))) (c_super : SupC P w K mg base fS CX0 6 ["self", "label", "names", "never_at", "still_at", "depth"] [] (spI (PScI K C (PTuM K Cs C SD.th) (PTuM K Cs C SD.jn))))
    (c_depth_above : CalleeR P w K mg base "depth_above" CX0 2 (spP (PDepC K Cs))) (c_name_at : ∀ C ∈ Cs, Method P w K mg base C "name_at" CX0 1 ["self", "place"] [] (spP (PName K))) {f : Addr} {fd : FuncData} (F : FunSD P K "__init__" "TurnedScale.__init__" s_TurnedScale___init__ [] [] f fd C) :
    FnOk P w K mg base (L2.CX P w) 10 f fd ["self", "inner"] (spI (PTuI K Cs C)) := by
  refine F.toS.okX sc_TurnedScale___init__ Z.z_super opq top0 rfl rfl (fun vs H Q E h => ?_) (fun cdv cc A outer s H vs Q E hr h SA => ?_)
  · obtain ⟨x, C', dx, fs, rest, G, R, rfl, _, _, _, ⟨_, _, _, _, rfl, _⟩, _⟩ := h
    rfl
  · obtain ⟨x, C', dx, fs, rest, G, R, rfl, hx, hG, gx, ⟨rfl, rfl, l, d, rfl, h1, o, hd, rfl⟩, q⟩ := h
    refine ⟨_, (psa_cons (ps_set (i := 2) sc_TurnedScale___init__.nd rfl (Or.inl rfl) (pe_callRC c_depth_above (hr.mono (by decide)) pass0 (pa_cons (pe_fldK K (pv 1)) (pa_cons (pv 1) pa_nil))))
  (psa_cons (ps_fld (pv 0) (pv 1) rfl)
  (psa_cons (ps_setLc (i := 3) (own := [("place", 4)]) (g := (gName 4)) rfl sc_TurnedScale___init__.nd rfl rfl (sw_true rfl rfl rfl (by decide +kernel)) (pi_range1 (by rfl) Z.z_range (pa_cons (pe_fldK K (pv 1)) pa_nil)) (blkOk_by (by kernel_rfl)) (fun _ _ _ _ _ => (pg_name (i := 4) sc_TurnedScale___init__.nd rfl (Or.inl rfl))) (fun _ _ _ _ _ => pts_nil) (fun _ _ _ _ _ => (pe_methA c_name_at (hr.mono (by decide)) pass0 (pv 1) (pa_cons (pv 4) pa_nil))))
  (psa_supC SA rfl (Or.inl rfl) c_super (hr.mono (by decide)) pass0 (pa_cons (pe_joined (PJ.cons pe_str (PJ.cons (pe_fmt (pe_fldK K (pv 1))) (PJ.cons pe_str PJ.nil)))) (pa_cons (pv 3) (pa_cons (pe_fldK K (pv 1)) (pa_cons (pe_fldK K (pv 1)) (pa_cons (pv 2) pa_nil)))))
  (psa_end pss_nil))))), ?_⟩
    have h0 := own_start (o := .ins C' dx []) hG gx hx 0
    have st0 := stabO G H x (.ins C' dx [])
    show tSeq _ _ (Ends.mk _ _ _ _) [some _, some _, none, none, none] _
    have l2 := o.l2
    refine q_setV st0 h0 (x := .int (depL [d])) (ev_call st0 (ea_cons (ev_sF st0 h1 (ev_var rfl)).1 (ea_cons (ev_var rfl) ea_nil)) fun vs G' s' e => ?_) fun H1 k1 h1' => ?_
    · obtain ⟨_, _, rfl, a1, _, _, rfl, a2, a3⟩ := e
      obtain rfl := (show _ = _ from a1)
      obtain rfl := (show _ = _ from a2)
      obtain rfl := (show _ = _ from a3)
      exact ⟨_, [.ref l], [d], rfl, by simp, ⟨.ref l, [], rfl, ⟨l, rfl, h1.mono s'⟩, rfl⟩, by omega, hd, rfl⟩
    refine q_fldV h1' (ev_var rfl) rfl hC (hN _ (by decide)) (by decide) fun H2 h2 => ?_
    generalize e3 : putF ("inner" : Str) (.ref l) [] = f3 at h2
    have z3 : f3.length ≤ 1 := by rw [← e3]; exact putF_len _ _ _
    have on1 : f3.lookup ("inner" : Str) = some (.ref l) := by rw [← e3]; exact lk_eq
    have off3 : ∀ f, f ≠ ("inner" : Str) → f3.lookup f = none := fun f a => by rw [← e3, lk_ne a]; rfl
    have st3 := stabO G H x (.ins C' dx f3)
    refine q_set h2 (ev_lcV (f := fun k => .str (d.names.getD k ("" : Str))) st3 (ea_consV (ev_sF st3 h1 (ev_var rfl)).1 ea_nilV) (by omega) (by omega) (fun _ => rfl) fun j G' hj s' => ev_sNm st3 (h1.mono s') (ev_var rfl) (ea_consV (ev_var rfl) ea_nilV) (getD_names (by omega))) fun v4 G4 H4 s4 r4 => ?_
    obtain ⟨p4, rfl, _, g4⟩ := r4
    rw [Int.toNat_natCast] at g4
    have g4 : G4 p4 = some (.lst (d.names.map V.str)) := by
      rw [g4]
      refine congrArg (fun z => some (HO.lst z)) (List.ext_getElem? fun j => ?_)
      rw [List.getElem?_map, List.getElem?_map]
      by_cases hj : j < d.names.length
      · rw [List.getElem?_range hj, getD_names hj]
        rfl
      · rw [List.getElem?_eq_none (by rw [List.length_range]; omega), List.getElem?_eq_none (by omega)]
        rfl
    have es : ∀ z : Str, Str.empty ++ z = z := Str.empty_append
    have ll := o.ll
    have hsz : (2000000 : Nat) ≤ sizeLine := by decide
    have c1 : ("(turned " : Str).length = 8 ∧ (")" : Str).length = 1 := by decide +kernel
    have la : ∀ a b : Str, (a ++ b).length = a.length + b.length := Str.length_append
    have h14 := h1.mono s4.g
    refine q_supO s4.s rfl hm hf (ea_cons (ev_joined (ej_cons ev_c (by simp only [es]; omega) (ej_cons (ev_fmtS (ev_sF st3 h14 (ev_var rfl)).2.2.2.1 (by omega)) (by simp only [es, la]; omega) (ej_cons ev_c (by simp only [es, la]; omega) ej_nil))))
      (ea_cons (ev_var rfl) (ea_cons (ev_sF st3 h14 (ev_var rfl)).2.1 (ea_cons (ev_sF st3 h14 (ev_var rfl)).2.2.1 (ea_cons (ev_var rfl) ea_nil))))) (RO := fun _ _ fs' G' => ScI (turnSD d) fs' G' ∧ (∀ f, f ∉ scF → fs'.lookup f = f3.lookup f) ∧ fs'.length ≤ f3.length + 9) (fun vs G2 s2 r2 => ?_) (fun f5 G5 H5 s5 h5 r5 => ?_)
    · obtain ⟨_, _, rfl, a1, _, _, rfl, a2, _, _, rfl, a3, _, _, rfl, a4, _, _, rfl, a5, a6⟩ := r2
      obtain rfl := (show _ = _ from a1)
      obtain rfl := (show _ = _ from a2)
      obtain rfl := (show _ = _ from a3)
      obtain rfl := (show _ = _ from a4)
      obtain rfl := (show _ = _ from a5)
      obtain rfl := (show _ = _ from a6)
      refine ⟨rfl, (turnSD d).label, p4, d.names, d.nv, d.sl, depL [d], (turnSD d).th, (turnSD d).jn, by rw [es]; rfl, SqL.of (s2 _ _ g4), by omega, o.nd, by omega, off3 _ (by decide +kernel), off3 _ (by decide +kernel), fun y dy fs' G' s3 hy hfs a b ha hb => ?_, rfl⟩
      have w1 : fs'.lookup ("inner" : Str) = some (.ref l) := (hfs _ (by decide +kernel)).trans on1
      have h15 := h14.mono (s2.trans s3)
      exact ⟨⟨y, dy, l, fs', d, a, b, rfl, hy, w1, h15, ha, hb, rfl⟩, ⟨y, dy, l, fs', d, a, b, rfl, hy, w1, h15, ha, hb, rfl⟩⟩
    · exact q_end (q f5 _ _ (own_n h5) ⟨r5.1, fun f hf h1 => (r5.2.1 f hf).trans (off3 f h1), (r5.2.1 _ (by decide +kernel)).trans on1⟩)
abbrev s_together : Stmt := top 9
theorem sc_together : FnScope ["first", "second"] ["first", "second"] (defScope s_together) := ⟨rfl, rfl, rfl, by decide +kernel, rfl, by decide +kernel, by decide +kernel⟩
theorem ok_together {Cs : List Addr} {CM : Addr} (x_MixedScales : Ex0C K CM) (m_MixedScales : mg "MixedScales" = some (.ref CM)) {f : Addr} {fd : FuncData} (F : Fun K "together" "together" s_together f fd) : FnOk P w K mg base (L2.CX P w) 1 f fd ["first", "second"] (sp_tog K Cs CM) := by
  refine F.okX sc_together (fun vs H Q E h => ?_) (fun cdv A outer s H vs Q E hr h => ?_)
  · obtain ⟨_, _, _, _, _, rfl, _⟩ := h
    rfl
  · obtain ⟨x, y, d, e, G, rfl, hs, sd, se, q1, q2⟩ := h
    refine ⟨_, (pss_cons (ps_if (pt_cmpR (op_neA K hr.units) (pe_fldK K (pv 0)) (pe_fldK K (pv 1)) (nomark _)) (pss_cons (ps_raise0 rfl x_MixedScales m_MixedScales (takes_of rfl rfl rfl rfl))
  pss_nil) pss_nil)
  pss_nil), ?_⟩
    have st := stab0 G H
    have h0 : SP0 G H 0 G H := Grow.refl hs
    show tSeq _ _ (Ends.mk _ _ _ _) [some _, some _] _
    refine q_if st h0 (et_testV (ev_opV (ev_sF st sd (ev_var rfl)).2.2.2.1 (ev_sF st se (ev_var rfl)).2.2.2.1 (v_neS st))) (fun H1 p1 k1 h1 => ?_) (fun H1 p1 k1 h1 => ?_)
    · have p1 : ¬ d.label = e.label := by simpa using p1.symm
      exact q_raise0 (q2 p1 _ h1)
    · have p1 : d.label = e.label := by simpa using p1.symm
      exact q_end (q_end (q1 p1 _ h1))
abbrev s_Worth___init__ : Stmt := inClass (top 11) 0
theorem sc_Worth___init__ : FnScope ["self", "scale", "place"] ["self", "scale", "place"] (defScope s_Worth___init__) := ⟨rfl, rfl, rfl, by decide +kernel, rfl, by decide +kernel, by decide +kernel⟩
theorem ok_Worth_init {Cs : List Addr} {a_Worth : Addr} (hW : WtC K a_Worth) (c_name_at : ∀ C ∈ Cs, Method P w K mg base C "name_at" CX0 1 ["self", "place"] [] (spP (PName K))) {f : Addr} {fd : FuncData} (F : Fun K "__init__" "Worth.__init__" s_Worth___init__ f fd) : FnOk P w K mg base CX0 2 f fd ["self", "scale", "place"] (spI (PWoI K Cs a_Worth)) := by
  refine F.ok sc_Worth___init__ (fun vs H Q E h => ?_) (fun cdv A outer s H vs Q E hr h => ?_)
  · obtain ⟨x, C', dx, fs, rest, G, R, rfl, _, _, _, ⟨_, _, _, _, _, rfl, _⟩, _⟩ := h
    rfl
  · obtain ⟨x, C', dx, fs, rest, G, R, rfl, hx, hG, gx, ⟨rfl, rfl, y, d, p, rfl, sd, hp, rfl⟩, q⟩ := h
    refine ⟨_, (pss_cons (ps_fld (pv 0) (pv 1) rfl)
  (pss_cons (ps_fld (pv 0) (pv 2) rfl)
  (pss_cons (ps_fld (pv 0) (pe_methA c_name_at (hr.mono (by decide)) pass0 (pv 1) (pa_cons (pv 2) pa_nil)) rfl)
  pss_nil))), ?_⟩
    have h0 := own_start (o := .ins C' dx []) hG gx hx 0
    show tSeq _ _ (Ends.mk _ _ _ _) [some _, some _, some _] _
    refine q_fldV h0 (ev_var rfl) rfl hW.c (hW.n _ (by decide)) (by decide) fun H1 h1 => ?_
    refine q_fldV h1 (ev_var rfl) rfl hW.c (hW.n _ (by decide)) (Nat.lt_of_le_of_lt (putF_len _ _ _) (by decide)) fun H2 h2 => ?_
    have st2 := stabO G H x (.ins C' dx (putF ("place" : Str) (.int (p : Nat)) (putF ("scale" : Str) (.ref y) [])))
    refine q_fldV h2 (ev_sNm st2 sd (ev_var rfl) (ea_consV (ev_var rfl) ea_nilV) (getD_names hp)) rfl hW.c (hW.n _ (by decide)) (Nat.lt_of_le_of_lt (putF_len _ _ _) (Nat.lt_of_le_of_lt (Nat.succ_le_succ (putF_len _ _ _)) (by decide))) fun H3 h3 => ?_
    refine q_end (q _ _ _ (own_n h3) ⟨?_, ?_, lk_eq, sd, fun f hf => ?_⟩)
    · rw [lk_ne (by decide +kernel), lk_ne (by decide +kernel)]
      exact lk_eq
    · rw [lk_ne (by decide +kernel)]
      exact lk_eq
    · have n1 : f ≠ "scale" := fun e => hf (by rw [e]; decide +kernel)
      have n2 : f ≠ "place" := fun e => hf (by rw [e]; decide +kernel)
      have n3 : f ≠ "name" := fun e => hf (by rw [e]; decide +kernel)
      rw [lk_ne n3, lk_ne n2, lk_ne n1]
      rfl
abbrev s_Worth___eq__ : Stmt := inClass (top 11) 5
theorem sc_Worth___eq__ : FnScope ["self", "other"] ["self", "other"] (defScope s_Worth___eq__) := ⟨rfl, rfl, rfl, by decide +kernel, rfl, by decide +kernel, by decide +kernel⟩
theorem ok_wt_eq {Cs : List Addr} {a_Worth : Addr} (Z : Bi mg) (hW : WtC K a_Worth) (W_ins : C8.InsC K a_Worth) (g_Worth : mg "Worth" = some (.ref a_Worth)) {f : Addr} {fd : FuncData} (F : Fun K "__eq__" "Worth.__eq__" s_Worth___eq__ f fd) : FnOk P w K mg base CX0 1 f fd ["self", "other"] (spP (PEqW K Cs a_Worth)) := by
  refine F.ok sc_Worth___eq__ (fun vs H Q E h => ?_) (fun cdv A outer s H vs Q E hr h => ?_)
  · obtain ⟨_, _, _, ⟨_, _, _, _, _, _, rfl, _⟩, _⟩ := h
    rfl
  · obtain ⟨G, R, hs, ⟨a, b, d, e, p, q', rfl, ha, hb, rfl⟩, q⟩ := h
    refine ⟨_, (pss_cons (ps_if (pt_not (pt_val (pe_callB (call_isW W_ins) (by rfl) Z.z_isinstance (by decide +kernel) (pa_cons (pv 1) (pa_cons (pe_glob (v := .ref a_Worth) rfl g_Worth rfl) pa_nil))))) (pss_cons (ps_ret pe_bl)
  pss_nil) pss_nil)
  (pss_cons (ps_ret (pe_and (pe_cmpR (op_eqA K hr.units) (pe_fldK K (pe_fldK K (pv 0))) (pe_fldK K (pe_fldK K (pv 1))) (nomark _)) (pe_one (pe_cmpR (op_eqA K hr.units) (pe_fldK K (pv 0)) (pe_fldK K (pv 1)) (nomark _)))))
  pss_nil)), ?_⟩
    have st := stab0 G H
    have h0 : SP0 G H 0 G H := Grow.refl hs
    show tSeq _ _ (Ends.mk _ _ _ _) [some _, some _] _
    obtain ⟨x, sx, ex⟩ := ev_wtS st hW ha
    obtain ⟨y, sy, ey⟩ := ev_wtS st hW hb
    obtain ⟨dy, gs, gb⟩ := hb.at
    refine q_if st h0 (et_not (et_B (ev_cbV (ea_consV (ev_var rfl) (ea_consV ev_c ea_nilV)) (isW_yes st gb)))) (fun H1 p1 k1 h1 => by cases p1) (fun H1 p1 k1 h1 => q_end ?_)
    exact q_retV st h1 (ev_andV st (ev_opV (ev_sF st sx (ex (Same.refl _) (ev_var rfl))).2.2.2.1 (ev_sF st sy (ey (Same.refl _) (ev_var rfl))).2.2.2.1 (v_eqS st)) fun _ => ev_eq (congrArg V.bl (dNat p q')) (ev_opV (ev_wtP st hW ha (ev_var rfl)) (ev_wtP st hW hb (ev_var rfl)) (v_eqI st))) fun H2 k2 h2 => q _ _ _ h2 rfl
abbrev s_Worth___mul__ : Stmt := inClass (top 11) 6
theorem sc_Worth___mul__ : FnScope ["self", "other"] ["self", "other"] (defScope s_Worth___mul__) := ⟨rfl, rfl, rfl, by decide +kernel, rfl, by decide +kernel, by decide +kernel⟩
theorem ok_wt__mul__ {Cs : List Addr} {a_Worth CM : Addr} (Z : Bi mg) (hW : WtC K a_Worth) (W_ins : C8.InsC K a_Worth) (g_Worth : mg "Worth" = some (.ref a_Worth)) (c_together : Callee P w K mg base "together" (L2.CX P w) 1 ["first", "second"] [] (sp_tog K Cs CM)) (c_then_at : ∀ C ∈ Cs, Method P w K mg base C "then_at" CX0 1 ["self", "first", "second"] [] (spP (PAt K fun th _ a b => .int (th a b)))) (c_Worth : Maker P w K mg base "Worth" a_Worth CX0 2 ["self", "scale", "place"] [] (spI (PWoI K Cs a_Worth)))
    {f : Addr} {fd : FuncData} (F : Fun K "__mul__" "Worth.__mul__" s_Worth___mul__ f fd) : FnOk P w K mg base (L2.CX P w) 4 f fd ["self", "other"] (sp_wop K Cs a_Worth CM (rMulW K Cs a_Worth)) := by
  refine F.okX sc_Worth___mul__ (fun vs H Q E h => ?_) (fun cdv A outer s H vs Q E hr h => ?_)
  · obtain ⟨_, _, _, _, _, _, _, rfl, _⟩ := h
    rfl
  · obtain ⟨a, b, d, e, p, q', G, rfl, hs, ha, hb, o, q1, qm⟩ := h
    refine ⟨_, (pss_cons (ps_if (pt_not (pt_val (pe_callB (call_isW W_ins) (by rfl) Z.z_isinstance (by decide +kernel) (pa_cons (pv 1) (pa_cons (pe_glob (v := .ref a_Worth) rfl g_Worth rfl) pa_nil))))) (pss_cons ps_never
  pss_nil) pss_nil)
  (pss_cons (ps_expr (pe_callC c_together (hr.mono (by decide)) (passE (takes_of rfl rfl rfl rfl)) (pa_cons (pe_fldK K (pv 0)) (pa_cons (pe_fldK K (pv 1)) pa_nil))))
  (pss_cons (ps_ret (pe_makeC c_Worth (hr.mono (by decide)) pass0 (pa_cons (pe_fldK K (pv 0)) (pa_cons (pe_methA c_then_at (hr.mono (by decide)) pass0 (pe_fldK K (pv 0)) (pa_cons (pe_fldK K (pv 0)) (pa_cons (pe_fldK K (pv 1)) pa_nil))) pa_nil))))
  pss_nil))), ?_⟩
    have st := stab0 G H
    have h0 : SP0 G H 0 G H := Grow.refl hs
    show tSeq _ _ (Ends.mk _ _ _ _) [some _, some _] _
    obtain ⟨x, sx, ex⟩ := ev_wtS st hW ha
    obtain ⟨y, sy, ey⟩ := ev_wtS st hW hb
    obtain ⟨dy, gs, gb⟩ := hb.at
    refine q_if st h0 (et_not (et_B (ev_cbV (ea_consV (ev_var rfl) (ea_consV ev_c ea_nilV)) (isW_yes st gb)))) (fun H1 p1 k1 h1 => by cases p1) (fun H1 p1 k1 h1 => q_end ?_)
    refine q_dropCall h1 (ea_consV (ex (Same.refl _) (ev_var rfl)) (ea_consV (ey (Same.refl _) (ev_var rfl)) ea_nilV)) fun G2 H2 s2 => ⟨x, y, d, e, G2, rfl, st.sub s2.s, sx.mono s2.g, sy.mono s2.g, fun hl H3 g3 => ?_, fun hl H3 g3 => qm hl H3 (Grow.trans (show Grow G H G H2 from st.anti h0 s2.s s2.g) ⟨Same.refl _, g3.h, (s2.g.trans g3.s), fun _ _ z => .inl z⟩)⟩
    obtain ⟨hq, q2⟩ := q1 hl
    have h3 : SP0 G H 0 G H3 := Grow.trans (show Grow G H G H2 from st.anti h0 s2.s s2.g) ⟨Same.refl _, g3.h, (s2.g.trans g3.s), fun _ _ z => .inl z⟩
    refine q_ret h3 (ev_mkWt (p := d.T p q') st (sx.mono (Same.refl _)) (o.T ha.lt hq).2 (ea_consV (ex (Same.refl _) (ev_var rfl)) (ea_consV (ev_T st sx o (ex (Same.refl _) (ev_var rfl)) (ev_wtP st hW ha (ev_var rfl)) (ev_wtP st hW hb (ev_var rfl)) ha.lt hq) ea_nilV))) fun v G' H' s' r => q2 v G' H' s'.s r
abbrev s_Worth___or__ : Stmt := inClass (top 11) 7
theorem sc_Worth___or__ : FnScope ["self", "other"] ["self", "other"] (defScope s_Worth___or__) := ⟨rfl, rfl, rfl, by decide +kernel, rfl, by decide +kernel, by decide +kernel⟩
theorem ok_wt__or__ {Cs : List Addr} {a_Worth CM : Addr} (Z : Bi mg) (hW : WtC K a_Worth) (W_ins : C8.InsC K a_Worth) (g_Worth : mg "Worth" = some (.ref a_Worth)) (c_together : Callee P w K mg base "together" (L2.CX P w) 1 ["first", "second"] [] (sp_tog K Cs CM)) (c_join_at : ∀ C ∈ Cs, Method P w K mg base C "join_at" CX0 1 ["self", "first", "second"] [] (spP (PAt K fun _ jn a b => .int (jn a b)))) (c_Worth : Maker P w K mg base "Worth" a_Worth CX0 2 ["self", "scale", "place"] [] (spI (PWoI K Cs a_Worth)))
    {f : Addr} {fd : FuncData} (F : Fun K "__or__" "Worth.__or__" s_Worth___or__ f fd) : FnOk P w K mg base (L2.CX P w) 4 f fd ["self", "other"] (sp_wop K Cs a_Worth CM (rOrW K Cs a_Worth)) := by
  refine F.okX sc_Worth___or__ (fun vs H Q E h => ?_) (fun cdv A outer s H vs Q E hr h => ?_)
  · obtain ⟨_, _, _, _, _, _, _, rfl, _⟩ := h
    rfl
  · obtain ⟨a, b, d, e, p, q', G, rfl, hs, ha, hb, o, q1, qm⟩ := h
    refine ⟨_, (pss_cons (ps_if (pt_not (pt_val (pe_callB (call_isW W_ins) (by rfl) Z.z_isinstance (by decide +kernel) (pa_cons (pv 1) (pa_cons (pe_glob (v := .ref a_Worth) rfl g_Worth rfl) pa_nil))))) (pss_cons ps_never
  pss_nil) pss_nil)
  (pss_cons (ps_expr (pe_callC c_together (hr.mono (by decide)) (passE (takes_of rfl rfl rfl rfl)) (pa_cons (pe_fldK K (pv 0)) (pa_cons (pe_fldK K (pv 1)) pa_nil))))
  (pss_cons (ps_ret (pe_makeC c_Worth (hr.mono (by decide)) pass0 (pa_cons (pe_fldK K (pv 0)) (pa_cons (pe_methA c_join_at (hr.mono (by decide)) pass0 (pe_fldK K (pv 0)) (pa_cons (pe_fldK K (pv 0)) (pa_cons (pe_fldK K (pv 1)) pa_nil))) pa_nil))))
  pss_nil))), ?_⟩
    have st := stab0 G H
    have h0 : SP0 G H 0 G H := Grow.refl hs
    show tSeq _ _ (Ends.mk _ _ _ _) [some _, some _] _
    obtain ⟨x, sx, ex⟩ := ev_wtS st hW ha
    obtain ⟨y, sy, ey⟩ := ev_wtS st hW hb
    obtain ⟨dy, gs, gb⟩ := hb.at
    refine q_if st h0 (et_not (et_B (ev_cbV (ea_consV (ev_var rfl) (ea_consV ev_c ea_nilV)) (isW_yes st gb)))) (fun H1 p1 k1 h1 => by cases p1) (fun H1 p1 k1 h1 => q_end ?_)
    refine q_dropCall h1 (ea_consV (ex (Same.refl _) (ev_var rfl)) (ea_consV (ey (Same.refl _) (ev_var rfl)) ea_nilV)) fun G2 H2 s2 => ⟨x, y, d, e, G2, rfl, st.sub s2.s, sx.mono s2.g, sy.mono s2.g, fun hl H3 g3 => ?_, fun hl H3 g3 => qm hl H3 (Grow.trans (show Grow G H G H2 from st.anti h0 s2.s s2.g) ⟨Same.refl _, g3.h, (s2.g.trans g3.s), fun _ _ z => .inl z⟩)⟩
    obtain ⟨hq, q2⟩ := q1 hl
    have h3 : SP0 G H 0 G H3 := Grow.trans (show Grow G H G H2 from st.anti h0 s2.s s2.g) ⟨Same.refl _, g3.h, (s2.g.trans g3.s), fun _ _ z => .inl z⟩
    refine q_ret h3 (ev_mkWt (p := d.J p q') st (sx.mono (Same.refl _)) (o.J ha.lt hq).2 (ea_consV (ex (Same.refl _) (ev_var rfl)) (ea_consV (ev_J st sx o (ex (Same.refl _) (ev_var rfl)) (ev_wtP st hW ha (ev_var rfl)) (ev_wtP st hW hb (ev_var rfl)) ha.lt hq) ea_nilV))) fun v G' H' s' r => q2 v G' H' s'.s r
abbrev s_Worth___le__ : Stmt := inClass (top 11) 8
theorem sc_Worth___le__ : FnScope ["self", "other"] ["self", "other"] (defScope s_Worth___le__) := ⟨rfl, rfl, rfl, by decide +kernel, rfl, by decide +kernel, by decide +kernel⟩
theorem ok_wt__le__ {Cs : List Addr} {a_Worth CM : Addr} (Z : Bi mg) (hW : WtC K a_Worth) (W_ins : C8.InsC K a_Worth) (g_Worth : mg "Worth" = some (.ref a_Worth)) (c_together : Callee P w K mg base "together" (L2.CX P w) 1 ["first", "second"] [] (sp_tog K Cs CM)) (c_within_at : ∀ C ∈ Cs, Method P w K mg base C "within_at" CX0 1 ["self", "first", "second"] [] (spP (PAt K fun _ jn a b => .bl (decide (jn a b = (b : Nat))))))
    {f : Addr} {fd : FuncData} (F : Fun K "__le__" "Worth.__le__" s_Worth___le__ f fd) : FnOk P w K mg base (L2.CX P w) 2 f fd ["self", "other"] (sp_wop K Cs a_Worth CM (rLeW)) := by
  refine F.okX sc_Worth___le__ (fun vs H Q E h => ?_) (fun cdv A outer s H vs Q E hr h => ?_)
  · obtain ⟨_, _, _, _, _, _, _, rfl, _⟩ := h
    rfl
  · obtain ⟨a, b, d, e, p, q', G, rfl, hs, ha, hb, o, q1, qm⟩ := h
    refine ⟨_, (pss_cons (ps_if (pt_not (pt_val (pe_callB (call_isW W_ins) (by rfl) Z.z_isinstance (by decide +kernel) (pa_cons (pv 1) (pa_cons (pe_glob (v := .ref a_Worth) rfl g_Worth rfl) pa_nil))))) (pss_cons ps_never
  pss_nil) pss_nil)
  (pss_cons (ps_expr (pe_callC c_together (hr.mono (by decide)) (passE (takes_of rfl rfl rfl rfl)) (pa_cons (pe_fldK K (pv 0)) (pa_cons (pe_fldK K (pv 1)) pa_nil))))
  (pss_cons (ps_ret (pe_methA c_within_at (hr.mono (by decide)) pass0 (pe_fldK K (pv 0)) (pa_cons (pe_fldK K (pv 0)) (pa_cons (pe_fldK K (pv 1)) pa_nil))))
  pss_nil))), ?_⟩
    have st := stab0 G H
    have h0 : SP0 G H 0 G H := Grow.refl hs
    show tSeq _ _ (Ends.mk _ _ _ _) [some _, some _] _
    obtain ⟨x, sx, ex⟩ := ev_wtS st hW ha
    obtain ⟨y, sy, ey⟩ := ev_wtS st hW hb
    obtain ⟨dy, gs, gb⟩ := hb.at
    refine q_if st h0 (et_not (et_B (ev_cbV (ea_consV (ev_var rfl) (ea_consV ev_c ea_nilV)) (isW_yes st gb)))) (fun H1 p1 k1 h1 => by cases p1) (fun H1 p1 k1 h1 => q_end ?_)
    refine q_dropCall h1 (ea_consV (ex (Same.refl _) (ev_var rfl)) (ea_consV (ey (Same.refl _) (ev_var rfl)) ea_nilV)) fun G2 H2 s2 => ⟨x, y, d, e, G2, rfl, st.sub s2.s, sx.mono s2.g, sy.mono s2.g, fun hl H3 g3 => ?_, fun hl H3 g3 => qm hl H3 (Grow.trans (show Grow G H G H2 from st.anti h0 s2.s s2.g) ⟨Same.refl _, g3.h, (s2.g.trans g3.s), fun _ _ z => .inl z⟩)⟩
    obtain ⟨hq, q2⟩ := q1 hl
    have h3 : SP0 G H 0 G H3 := Grow.trans (show Grow G H G H2 from st.anti h0 s2.s s2.g) ⟨Same.refl _, g3.h, (s2.g.trans g3.s), fun _ _ z => .inl z⟩
    exact q_retV st h3 (ev_within st sx o (ex (Same.refl _) (ev_var rfl)) (ev_wtP st hW ha (ev_var rfl)) (ev_wtP st hW hb (ev_var rfl)) ha.lt hq) fun H4 k4 h4 => q2 _ _ _ h4 rfl
abbrev s_Worth___lt__ : Stmt := inClass (top 11) 9
theorem sc_Worth___lt__ : FnScope ["self", "other"] ["self", "other"] (defScope s_Worth___lt__) := ⟨rfl, rfl, rfl, by decide +kernel, rfl, by decide +kernel, by decide +kernel⟩
theorem ok_wt__lt__ {Cs : List Addr} {a_Worth CM : Addr} (Z : Bi mg) (hW : WtC K a_Worth) (W_ins : C8.InsC K a_Worth) (g_Worth : mg "Worth" = some (.ref a_Worth)) (c_together : Callee P w K mg base "together" (L2.CX P w) 1 ["first", "second"] [] (sp_tog K Cs CM)) (c_within_at : ∀ C ∈ Cs, Method P w K mg base C "within_at" CX0 1 ["self", "first", "second"] [] (spP (PAt K fun _ jn a b => .bl (decide (jn a b = (b : Nat))))))
    {f : Addr} {fd : FuncData} (F : Fun K "__lt__" "Worth.__lt__" s_Worth___lt__ f fd) : FnOk P w K mg base (L2.CX P w) 2 f fd ["self", "other"] (sp_wop K Cs a_Worth CM (rLtW)) := by
  refine F.okX sc_Worth___lt__ (fun vs H Q E h => ?_) (fun cdv A outer s H vs Q E hr h => ?_)
  · obtain ⟨_, _, _, _, _, _, _, rfl, _⟩ := h
    rfl
  · obtain ⟨a, b, d, e, p, q', G, rfl, hs, ha, hb, o, q1, qm⟩ := h
    refine ⟨_, (pss_cons (ps_if (pt_not (pt_val (pe_callB (call_isW W_ins) (by rfl) Z.z_isinstance (by decide +kernel) (pa_cons (pv 1) (pa_cons (pe_glob (v := .ref a_Worth) rfl g_Worth rfl) pa_nil))))) (pss_cons ps_never
  pss_nil) pss_nil)
  (pss_cons (ps_expr (pe_callC c_together (hr.mono (by decide)) (passE (takes_of rfl rfl rfl rfl)) (pa_cons (pe_fldK K (pv 0)) (pa_cons (pe_fldK K (pv 1)) pa_nil))))
  (pss_cons (ps_ret (pe_and (pe_cmpR (op_neA K hr.units) (pe_fldK K (pv 0)) (pe_fldK K (pv 1)) (nomark _)) (pe_one (pe_methA c_within_at (hr.mono (by decide)) pass0 (pe_fldK K (pv 0)) (pa_cons (pe_fldK K (pv 0)) (pa_cons (pe_fldK K (pv 1)) pa_nil))))))
  pss_nil))), ?_⟩
    have st := stab0 G H
    have h0 : SP0 G H 0 G H := Grow.refl hs
    show tSeq _ _ (Ends.mk _ _ _ _) [some _, some _] _
    obtain ⟨x, sx, ex⟩ := ev_wtS st hW ha
    obtain ⟨y, sy, ey⟩ := ev_wtS st hW hb
    obtain ⟨dy, gs, gb⟩ := hb.at
    refine q_if st h0 (et_not (et_B (ev_cbV (ea_consV (ev_var rfl) (ea_consV ev_c ea_nilV)) (isW_yes st gb)))) (fun H1 p1 k1 h1 => by cases p1) (fun H1 p1 k1 h1 => q_end ?_)
    refine q_dropCall h1 (ea_consV (ex (Same.refl _) (ev_var rfl)) (ea_consV (ey (Same.refl _) (ev_var rfl)) ea_nilV)) fun G2 H2 s2 => ⟨x, y, d, e, G2, rfl, st.sub s2.s, sx.mono s2.g, sy.mono s2.g, fun hl H3 g3 => ?_, fun hl H3 g3 => qm hl H3 (Grow.trans (show Grow G H G H2 from st.anti h0 s2.s s2.g) ⟨Same.refl _, g3.h, (s2.g.trans g3.s), fun _ _ z => .inl z⟩)⟩
    obtain ⟨hq, q2⟩ := q1 hl
    have h3 : SP0 G H 0 G H3 := Grow.trans (show Grow G H G H2 from st.anti h0 s2.s s2.g) ⟨Same.refl _, g3.h, (s2.g.trans g3.s), fun _ _ z => .inl z⟩
    exact q_retV st h3 (ev_andV st (ev_eq (congrArg V.bl (congrArg not (dNat p q'))) (ev_opV (ev_wtP st hW ha (ev_var rfl)) (ev_wtP st hW hb (ev_var rfl)) (v_neI st))) fun _ => (ev_within st sx o (ex (Same.refl _) (ev_var rfl)) (ev_wtP st hW ha (ev_var rfl)) (ev_wtP st hW hb (ev_var rfl)) ha.lt hq)) fun H4 k4 h4 => q2 _ _ _ h4 rfl
abbrev s_Worth_never : Stmt := inClass (top 11) 2
theorem sc_Worth_never : FnScope ["cls", "scale"] ["cls", "scale"] (defScope s_Worth_never) := ⟨rfl, rfl, rfl, by decide +kernel, rfl, by decide +kernel, by decide +kernel⟩
theorem ok_wt_never {Cs : List Addr} {a_Worth : Addr} (c_Worth : Maker P w K mg base "Worth" a_Worth CX0 2 ["self", "scale", "place"] [] (spI (PWoI K Cs a_Worth))) {f : Addr} {fd : FuncData} (F : Fun K "never" "Worth.never" s_Worth_never f fd) : FnOk P w K mg base CX0 4 f fd ["cls", "scale"] (spP (PCls K Cs a_Worth (fun d => d.nv.toNat))) := by
  refine F.ok sc_Worth_never (fun vs H Q E h => ?_) (fun cdv A outer s H vs Q E hr h => ?_)
  · obtain ⟨_, _, _, ⟨_, _, rfl, _⟩, _⟩ := h
    rfl
  · obtain ⟨G, R, hs, ⟨x, d, rfl, sd, o, rfl⟩, q⟩ := h
    refine ⟨_, (pss_cons (ps_ret (pe_makeV (i := 0) c_Worth (hr.mono (by decide)) rfl (.inl rfl) pass0 (pa_cons (pv 1) (pa_cons (pe_fldK K (pv 1)) pa_nil))))
  pss_nil), ?_⟩
    have st := stab0 G H
    have h0 : SP0 G H 0 G H := Grow.refl hs
    show tSeq _ _ (Ends.mk _ _ _ _) [some _, some _] _
    exact q_ret h0 (ev_makeV rfl (ev_mkWt st sd o.nv' (ea_consV (ev_var rfl) (ea_consV (ev_nv st sd o (ev_var rfl)) ea_nilV)))) fun v G' H' s' r => q v G' H' s'.s r
abbrev s_Worth_still : Stmt := inClass (top 11) 3
theorem sc_Worth_still : FnScope ["cls", "scale"] ["cls", "scale"] (defScope s_Worth_still) := ⟨rfl, rfl, rfl, by decide +kernel, rfl, by decide +kernel, by decide +kernel⟩
theorem ok_wt_still {Cs : List Addr} {a_Worth : Addr} (c_Worth : Maker P w K mg base "Worth" a_Worth CX0 2 ["self", "scale", "place"] [] (spI (PWoI K Cs a_Worth))) {f : Addr} {fd : FuncData} (F : Fun K "still" "Worth.still" s_Worth_still f fd) : FnOk P w K mg base CX0 4 f fd ["cls", "scale"] (spP (PCls K Cs a_Worth (fun d => d.sl.toNat))) := by
  refine F.ok sc_Worth_still (fun vs H Q E h => ?_) (fun cdv A outer s H vs Q E hr h => ?_)
  · obtain ⟨_, _, _, ⟨_, _, rfl, _⟩, _⟩ := h
    rfl
  · obtain ⟨G, R, hs, ⟨x, d, rfl, sd, o, rfl⟩, q⟩ := h
    refine ⟨_, (pss_cons (ps_ret (pe_makeV (i := 0) c_Worth (hr.mono (by decide)) rfl (.inl rfl) pass0 (pa_cons (pv 1) (pa_cons (pe_fldK K (pv 1)) pa_nil))))
  pss_nil), ?_⟩
    have st := stab0 G H
    have h0 : SP0 G H 0 G H := Grow.refl hs
    show tSeq _ _ (Ends.mk _ _ _ _) [some _, some _] _
    exact q_ret h0 (ev_makeV rfl (ev_mkWt st sd o.sl' (ea_consV (ev_var rfl) (ea_consV (ev_sl st sd o (ev_var rfl)) ea_nilV)))) fun v G' H' s' r => q v G' H' s'.s r
abbrev s_Worth_named : Stmt := inClass (top 11) 1
theorem sc_Worth_named : FnScope ["cls", "scale", "name"] ["cls", "scale", "name"] (defScope s_Worth_named) := ⟨rfl, rfl, rfl, by decide +kernel, rfl, by decide +kernel, by decide +kernel⟩
theorem ok_wt_named {Cs : List Addr} {a_Worth CU : Addr} (c_Worth : Maker P w K mg base "Worth" a_Worth CX0 2 ["self", "scale", "place"] [] (spI (PWoI K Cs a_Worth))) (c_at_name : ∀ C ∈ Cs, Method P w K mg base C "at_name" (L2.CX P w) 4 ["self", "name"] [] (sp_at_name K CU)) {f : Addr} {fd : FuncData} (F : Fun K "named" "Worth.named" s_Worth_named f fd) :
    FnOk P w K mg base (L2.CX P w) 5 f fd ["cls", "scale", "name"] (sp_named K Cs a_Worth CU) := by
  refine F.okX sc_Worth_named (fun vs H Q E h => ?_) (fun cdv A outer s H vs Q E hr h => ?_)
  · obtain ⟨_, _, _, _, rfl, _⟩ := h
    rfl
  · obtain ⟨x, d, nm, G, rfl, hs, sd, o, q1, q2⟩ := h
    refine ⟨_, (pss_cons (ps_ret (pe_makeV (i := 0) c_Worth (hr.mono (by decide)) rfl (.inl rfl) pass0 (pa_cons (pv 1) (pa_cons (pe_methA c_at_name (hr.mono (by decide)) (passE (takes_of rfl rfl rfl rfl)) (pv 1) (pa_cons (pv 2) pa_nil)) pa_nil))))
  pss_nil), ?_⟩
    have st := stab0 G H
    have h0 : SP0 G H 0 G H := Grow.refl hs
    show tSeq _ _ (Ends.mk _ _ _ _) [some _, some _, some _] _
    by_cases hm : nm ∈ d.names
    · obtain ⟨p, hp⟩ := List.getElem?_of_mem hm
      have lp : p < d.names.length := (List.getElem?_eq_some_iff.mp hp).1
      exact q_ret h0 (ev_makeV rfl (ev_mkWt st sd lp (ea_consV (ev_var rfl) (ea_consV (ev_sAtN st sd o.nd (ev_var rfl) hp (ea_consV (ev_var rfl) ea_nilV)) ea_nilV)))) fun v G' H' s' r => q1 p hp v G' H' s'.s r
    · refine ⟨rfl, _, rfl, ?_⟩
      exact run_sAtX st sd o.nd h0 (ev_var rfl) (ea_consV (ev_var rfl) ea_nilV) hm fun dd G' H' s' hd => q2 hm dd H' _ (st.anti h0 s'.s s'.g) hd rfl
abbrev s_Worth___str__ : Stmt := inClass (top 11) 4
theorem sc_Worth___str__ : FnScope ["self"] ["self"] (defScope s_Worth___str__) := ⟨rfl, rfl, rfl, by decide +kernel, rfl, by decide +kernel, by decide +kernel⟩
theorem ok_wt_str {Cs : List Addr} {a_Worth : Addr} (Z : Bi mg) (hW : WtC K a_Worth) {f : Addr} {fd : FuncData} (F : Fun K "__str__" "Worth.__str__" s_Worth___str__ f fd) : FnOk P w K mg base CX0 1 f fd ["self"] (spP (PStrW K Cs a_Worth)) := by
  refine F.ok sc_Worth___str__ (fun vs H Q E h => ?_) (fun cdv A outer s H vs Q E hr h => ?_)
  · obtain ⟨_, _, _, ⟨_, _, _, rfl, _⟩, _⟩ := h
    rfl
  · obtain ⟨G, R, hs, ⟨a, d, p, rfl, ha, rfl⟩, q⟩ := h
    refine ⟨_, (pss_cons (ps_ret (pe_callTy call_strS (by rfl) Z.z_str (by decide +kernel) (pa_cons (pe_fldK K (pv 0)) pa_nil)))
  pss_nil), ?_⟩
    have st := stab0 G H
    have h0 : SP0 G H 0 G H := Grow.refl hs
    show tSeq _ _ (Ends.mk _ _ _ _) [some _] _
    exact q_retV st h0 (ev_cbV (ea_consV (ev_wtN st hW ha (ev_var rfl)) ea_nilV) (c_strS st)) fun H2 k2 h2 => q _ _ _ h2 rfl
theorem ok_wt_eqN {Cs : List Addr} {a_Worth : Addr} (Z : Bi mg) (W_ins : C8.InsC K a_Worth) (g_Worth : mg "Worth" = some (.ref a_Worth)) (k1 : PySem.W.kitOne K (.type "str") (.ref a_Worth) = some false) (k2 : PySem.W.kitOne K (.type "int") (.ref a_Worth) = some false) {f : Addr} {fd : FuncData} (F : Fun K "__eq__" "Worth.__eq__" s_Worth___eq__ f fd) : FnOk P w K mg base CX0 1 f fd ["self", "other"] (spP (PEqN K Cs a_Worth)) := by
  refine F.ok sc_Worth___eq__ (fun vs H Q E h => ?_) (fun cdv A outer s H vs Q E hr h => ?_)
  · obtain ⟨_, _, _, ⟨_, _, _, _, rfl, _⟩, _⟩ := h
    rfl
  · obtain ⟨G, R, hs, ⟨a, d, p, v, rfl, ha, hv, rfl⟩, q⟩ := h
    refine ⟨_, (pss_cons (ps_if (pt_not (pt_val (pe_callB (call_isW W_ins) (by rfl) Z.z_isinstance (by decide +kernel) (pa_cons (pv 1) (pa_cons (pe_glob (v := .ref a_Worth) rfl g_Worth rfl) pa_nil))))) (pss_cons (ps_ret pe_bl)
  pss_nil) pss_nil)
  (pss_cons (ps_ret (pe_and (pe_cmpR (op_eqA K hr.units) (pe_fldK K (pe_fldK K (pv 0))) (pe_fldK K (pe_fldK K (pv 1))) (nomark _)) (pe_one (pe_cmpR (op_eqA K hr.units) (pe_fldK K (pv 0)) (pe_fldK K (pv 1)) (nomark _)))))
  pss_nil)), ?_⟩
    have st := stab0 G H
    have h0 : SP0 G H 0 G H := Grow.refl hs
    show tSeq _ _ (Ends.mk _ _ _ _) [some _, some _] _
    have no : RC (SP0 G H) (rIsW K a_Worth) [v, .ref a_Worth] G (IsV (.bl false)) := rc_val (fun H' _ Q q => by
      rcases hv with ⟨z, rfl⟩ | ⟨i, rfl⟩
      · exact .inr ⟨_, _, _, _, _, rfl, .own _, .base (.str z), k1, q⟩
      · exact .inr ⟨_, _, _, _, _, rfl, .own _, .base (.int i), k2, q⟩) st
    refine q_if st h0 (et_not (et_B (ev_cbV (ea_consV (ev_var rfl) (ea_consV ev_c ea_nilV)) no))) (fun H1 p1 k1 h1 => ?_) (fun H1 p1 k1 h1 => by cases p1)
    exact q_retV st h1 ev_c fun H2 k2 h2 => q _ _ _ h2 rfl
abbrev s__law_join : Stmt := top 46
theorem sc__law_join : FnScope ["_law_sort", "_law_a", "_law_b"] ["_law_sort", "_law_a", "_law_b"] (defScope s__law_join) := ⟨rfl, rfl, rfl, by decide +kernel, rfl, by decide +kernel, by decide +kernel⟩
abbrev s__law_then : Stmt := top 47
theorem sc__law_then : FnScope ["_law_sort", "_law_most", "_law_a", "_law_b", "_law_bits", "_law_k", "_law_row", "_law_column", "_law_one_way", "_law_other_way"] ["_law_sort", "_law_most", "_law_a", "_law_b"] (defScope s__law_then) := ⟨rfl, rfl, rfl, by decide +kernel, rfl, by decide +kernel, by decide +kernel⟩
abbrev s__law_tables : Stmt := top 48
theorem sc__law_tables : FnScope ["_law_state", "_law_sort", "_law_most", "_law_many", "_law_mid", "_law_turned", "_law_numbers", "_law_names", "_law_joins", "_law_products", "_law_k", "_law_a", "_law_b"] ["_law_state"] (defScope s__law_tables) := ⟨rfl, rfl, rfl, by decide +kernel, rfl, by decide +kernel, by decide +kernel⟩
abbrev s__law_table_scale : Stmt := top 49
theorem sc__law_table_scale : FnScope ["_law_names", "_law_joins", "_law_products", "_law_low", "_law_mid", "_law_join_names", "_law_product_names", "_law_scale", "_law_row", "_law_k"] ["_law_names", "_law_joins", "_law_products", "_law_low", "_law_mid"] (defScope s__law_table_scale) := ⟨rfl, rfl, rfl, by decide +kernel, rfl, by decide +kernel, by decide +kernel⟩
def PLjn : List V → Hp → HR → Prop := fun vs _ R => ∃ (sort : Nat) (a b : Int), vs = [.int (sort : Nat), .int a, .int b] ∧ sort < 5 ∧ R = IsV (.int (ljn sort a b))
def PLth : List V → Hp → HR → Prop := fun vs _ R => ∃ (sort : Nat) (most a b : Int), vs = [.int (sort : Nat), .int most, .int a, .int b] ∧ sort < 5 ∧ R = IsV (.int (lth sort most a b))
theorem ok_ljn {f : Addr} {fd : FuncData} (Z : Bi mg) (F : Fun K "_law_join" "_law_join" s__law_join f fd) : FnOk P w K mg base CX0 1 f fd ["_law_sort", "_law_a", "_law_b"] (spP PLjn) := by
  refine F.ok sc__law_join (fun vs H Q E h => ?_) (fun cdv A outer s H vs Q E hr h => ?_)
  · obtain ⟨_, _, _, ⟨_, _, _, rfl, _⟩, _⟩ := h
    rfl
  · obtain ⟨G, R, hs, ⟨sort, a, b, rfl, h5, rfl⟩, q⟩ := h
    refine ⟨_, (pss_cons (ps_if (PW.pt (pw_and (pt_cmpR op_ltA (pv 0) pe_int (nomark _)) (pw_and1 (PW.pt (pw_or (pt_cmpR (op_eqA K hr.units) (pv 1) pe_int (nomark _)) (pw_or1 (pt_cmpR (op_eqA K hr.units) (pv 2) pe_int (nomark _)))))))) (pss_cons (ps_ret (pe_op op_addA (pv 1) (pv 2)))
  pss_nil) pss_nil)
  (pss_cons (ps_if (pt_cmpR (op_eqA K hr.units) (pv 0) pe_int (nomark _)) (pss_cons (ps_ret (pe_callB (call_max2 rfl) (by rfl) Z.z_max (by decide +kernel) (pa_cons (pe_callTy call_intA (by rfl) Z.z_int (by decide +kernel) (pa_cons (pv 1) pa_nil)) (pa_cons (pe_callTy call_intA (by rfl) Z.z_int (by decide +kernel) (pa_cons (pv 2) pa_nil)) pa_nil))))
  pss_nil) pss_nil)
  (pss_cons (ps_if (pt_cmpR (op_eqA K hr.units) (pv 0) pe_int (nomark _)) (pss_cons (ps_ret (pe_callB (call_min2 rfl) (by rfl) Z.z_min (by decide +kernel) (pa_cons (pe_callTy call_intA (by rfl) Z.z_int (by decide +kernel) (pa_cons (pv 1) pa_nil)) (pa_cons (pe_callTy call_intA (by rfl) Z.z_int (by decide +kernel) (pa_cons (pv 2) pa_nil)) pa_nil))))
  pss_nil) pss_nil)
  (pss_cons (ps_if (pt_cmpR (op_eqA K hr.units) (pv 0) pe_int (nomark _)) (pss_cons (ps_ret (pe_op op_addA (pe_op op_and (pe_op op_subA (pv 1) pe_int) (pe_op op_subA (pv 2) pe_int)) pe_int))
  pss_nil) pss_nil)
  (pss_cons (ps_ret (pe_ifExp (pt_cmpR (op_eqA K hr.units) (pv 0) pe_int (nomark _)) (pe_op op_or (pv 1) (pv 2)) (pe_op op_addA (pe_op op_or (pe_op op_subA (pv 1) pe_int) (pe_op op_subA (pv 2) pe_int)) pe_int)))
  pss_nil))))), ?_⟩
    have st := stab0 G H
    have h0 : SP0 G H 0 G H := Grow.refl hs
    show tSeq _ _ (Ends.mk _ _ _ _) [some _, some _, some _] _
    refine q_if st h0 (et_and st (et_testV (ev_opV (ev_var rfl) ev_c (v_lt st))) fun _ => et_or st (et_testV (ev_opV (ev_var rfl) ev_c (v_eqI st))) fun _ => et_testV (ev_opV (ev_var rfl) ev_c (v_eqI st))) (fun H1 p1 k1 h1 => ?_) (fun H1 p1 k1 h1 => q_end ?_)
    · have p1 := p1.symm
      rw [Bool.and_eq_true, Bool.or_eq_true] at p1
      have c1 := of_decide_eq_true p1.1
      have c2 : a = 0 ∨ b = 0 := p1.2.imp of_decide_eq_true of_decide_eq_true
      exact q_retV st h1 (ev_opV (ev_var rfl) (ev_var rfl) (v_add st)) fun H2 k2 h2 => q _ _ _ h2 (by unfold ljn; rw [if_pos ⟨by omega, c2⟩]; rfl)
    have n1 : ¬ (sort < 4 ∧ (a = 0 ∨ b = 0)) := fun z => by
      have p1 := p1.symm
      rw [Bool.and_eq_false_iff, Bool.or_eq_false_iff] at p1
      rcases p1 with e | e
      · have := of_decide_eq_false e
        omega
      · have := of_decide_eq_false e.1
        have := of_decide_eq_false e.2
        omega
    refine q_if st h1 (et_testV (ev_opV (ev_var rfl) ev_c (v_eqI st))) (fun H2 p2 k2 h2 => ?_) (fun H2 p2 k2 h2 => q_end ?_)
    · have c2 := of_decide_eq_true p2.symm
      refine q_retV st h2 (ev_cbV (ea_consV (ev_cbV (ea_consV (ev_var rfl) ea_nilV) (c_int st)) (ea_consV (ev_cbV (ea_consV (ev_var rfl) ea_nilV) (c_int st)) ea_nilV)) (rc_val (x := .int (if b > a then b else a)) (fun H s Q q => ⟨a, b, rfl, q⟩) st)) fun H3 k3 h3 => q _ _ _ h3 (by unfold ljn; rw [if_neg n1, if_pos (by omega)]; rfl)
    have c2 := of_decide_eq_false p2.symm
    refine q_if st h2 (et_testV (ev_opV (ev_var rfl) ev_c (v_eqI st))) (fun H3 p3 k3 h3 => ?_) (fun H3 p3 k3 h3 => q_end ?_)
    · have c3 := of_decide_eq_true p3.symm
      refine q_retV st h3 (ev_cbV (ea_consV (ev_cbV (ea_consV (ev_var rfl) ea_nilV) (c_int st)) (ea_consV (ev_cbV (ea_consV (ev_var rfl) ea_nilV) (c_int st)) ea_nilV)) (rc_val (x := .int (if b < a then b else a)) (fun H s Q q => ⟨a, b, rfl, q⟩) st)) fun H4 k4 h4 => q _ _ _ h4 (by unfold ljn; rw [if_neg n1, if_neg (by omega), if_pos (by omega)]; rfl)
    have c3 := of_decide_eq_false p3.symm
    refine q_if st h3 (et_testV (ev_opV (ev_var rfl) ev_c (v_eqI st))) (fun H4 p4 k4 h4 => ?_) (fun H4 p4 k4 h4 => q_end ?_)
    · have c4 := of_decide_eq_true p4.symm
      exact q_retV st h4 (ev_opV (ev_opV (ev_opV (ev_var rfl) ev_c (v_sub st)) (ev_opV (ev_var rfl) ev_c (v_sub st)) (v_band st)) ev_c (v_add st)) fun H5 k5 h5 => q _ _ _ h5 (by unfold ljn; rw [if_neg n1, if_neg (by omega), if_neg (by omega), if_pos (by omega)]; rfl)
    have c4 := of_decide_eq_false p4.symm
    refine q_retV st h4 (ev_if (R := IsV (.int (ljn sort a b))) st (et_testV (ev_opV (ev_var rfl) ev_c (v_eqI st))) (fun c => ev_eq ?_ (ev_opV (ev_var rfl) (ev_var rfl) (v_bor st))) fun c => ev_eq ?_ (ev_opV (ev_opV (ev_opV (ev_var rfl) ev_c (v_sub st)) (ev_opV (ev_var rfl) ev_c (v_sub st)) (v_bor st)) ev_c (v_add st))) fun H5 k5 h5 => q _ _ _ h5 rfl
    · have c := of_decide_eq_true c
      unfold ljn
      rw [if_neg n1, if_neg (by omega), if_neg (by omega), if_neg (by omega), if_pos (by omega)]
    · have c := of_decide_eq_false c
      unfold ljn
      rw [if_neg n1, if_neg (by omega), if_neg (by omega), if_neg (by omega), if_neg (by omega)]
theorem ok_lth {f : Addr} {fd : FuncData} (Z : Bi mg) (F : Fun K "_law_then" "_law_then" s__law_then f fd) : FnOk P w K mg base CX0 1 f fd ["_law_sort", "_law_most", "_law_a", "_law_b"] (spP PLth) := by
  refine F.ok sc__law_then (fun vs H Q E h => ?_) (fun cdv A outer s H vs Q E hr h => ?_)
  · obtain ⟨_, _, _, ⟨_, _, _, _, rfl, _⟩, _⟩ := h
    rfl
  · obtain ⟨G, R, hs, ⟨sort, most, a, b, rfl, h5, rfl⟩, q⟩ := h
    refine ⟨_, (pss_cons (ps_if (pt_cmpR (op_eqA K hr.units) (pv 0) pe_int (nomark _)) (pss_cons (ps_set (i := 4) sc__law_then.nd rfl (Or.inl rfl) pe_int)
  (pss_cons (ps_for PassesOwn.never rfl (pi_range1 (by rfl) Z.z_range (pa_cons pe_int pa_nil)) (pg_name (i := 5) sc__law_then.nd rfl (Or.inl rfl)) (pss_cons (ps_set (i := 6) sc__law_then.nd rfl (Or.inl rfl) (pe_op op_divA (pv 5) pe_int))
  (pss_cons (ps_set (i := 7) sc__law_then.nd rfl (Or.inl rfl) (pe_op op_modA (pe_callTy call_intA (by rfl) Z.z_int (by decide +kernel) (pa_cons (pv 5) pa_nil)) pe_int))
  (pss_cons (ps_set (i := 8) sc__law_then.nd rfl (Or.inl rfl) (pe_op op_and (pe_op op_and (pe_op op_shr (pv 2) (pe_op op_subA pe_int (pe_op op_mulA (pv 6) pe_int))) (pe_op op_shr (pv 3) (pe_op op_subA pe_int (pv 7)))) pe_int))
  (pss_cons (ps_set (i := 9) sc__law_then.nd rfl (Or.inl rfl) (pe_op op_and (pe_op op_and (pe_op op_shr (pv 2) (pe_op op_subA pe_int (pe_op op_mulA (pv 6) pe_int))) (pe_op op_shr (pv 3) (pe_op op_subA pe_int (pv 7)))) pe_int))
  (pss_cons (ps_set (i := 4) sc__law_then.nd rfl (Or.inl rfl) (pe_op op_addA (pe_op op_mulA (pv 4) pe_int) (pe_op op_or (pv 8) (pv 9))))
  pss_nil))))))
  (pss_cons (ps_ret (pv 4))
  pss_nil))) pss_nil)
  (pss_cons (ps_if (PW.pt (pw_or (pt_cmpR (op_eqA K hr.units) (pv 2) pe_int (nomark _)) (pw_or1 (pt_cmpR (op_eqA K hr.units) (pv 3) pe_int (nomark _))))) (pss_cons (ps_ret pe_int)
  pss_nil) pss_nil)
  (pss_cons (ps_if (pt_cmpR op_ltA (pv 0) pe_int (nomark _)) (pss_cons (ps_ret (pe_op op_addA (pe_callB (call_min2 rfl) (by rfl) Z.z_min (by decide +kernel) (pa_cons (pe_callTy call_intA (by rfl) Z.z_int (by decide +kernel) (pa_cons (pe_op op_subA (pe_op op_addA (pv 2) (pv 3)) pe_int) pa_nil)) (pa_cons (pe_callTy call_intA (by rfl) Z.z_int (by decide +kernel) (pa_cons (pv 1) pa_nil)) pa_nil))) pe_int))
  pss_nil) pss_nil)
  (pss_cons (ps_ret (pe_op op_addA (pe_op op_or (pe_op op_subA (pv 2) pe_int) (pe_op op_subA (pv 3) pe_int)) pe_int))
  pss_nil)))), ?_⟩
    have st := stab0 G H
    have h0 : SP0 G H 0 G H := Grow.refl hs
    show tSeq _ _ (Ends.mk _ _ _ _) [some _, some _, some _, some _, none, none, none, none, none, none] _
    refine q_if st h0 (et_testV (ev_opV (ev_var rfl) ev_c (v_eqI st))) (fun H1 p1 k1 h1 => ?_) (fun H1 p1 k1 h1 => q_end ?_)
    · have c1 := of_decide_eq_true p1.symm
      refine q_setV st h1 ev_c fun H2 k2 h2 => ?_
      refine q_forP (m := 4) st h2 (ea_consV ev_c ea_nilV) (by decide) (by decide) (fun j σ' => ∃ y5 y6 y7 y8 y9, σ' = [some (.int (sort : Nat)), some (.int most), some (.int a), some (.int b), some (.int (lthW a b j)), y5, y6, y7, y8, y9]) ⟨_, _, _, _, _, rfl⟩ (fun j σ' J hj hp sJ => ?_) (fun σ' J hp sJ => ?_)
      · obtain ⟨y5, y6, y7, y8, y9, rfl⟩ := hp
        show tSeq _ _ (Ends.mk _ _ _ _) [some (.int (sort : Nat)), some (.int most), some (.int a), some (.int b), some (.int (lthW a b j)), some (.int (j : Nat)), y6, y7, y8, y9] _
        have e : lthW a b (j + 1) = lthW a b j * 2 + lthK a b j := by
          unfold lthW
          rw [List.range_succ, List.foldl_append]
          rfl
        rw [e]
        refine q_setV st sJ.s (ev_opV (ev_var rfl) ev_c (v_div st ⟨by decide, by decide⟩)) fun H3 k3 h3 => ?_
        refine q_setV st h3 (ev_opV (ev_cbV (ea_consV (ev_var rfl) ea_nilV) (c_int st)) ev_c (v_mod st (by decide))) fun H4 k4 h4 => ?_
        have r01 : 0 ≤ ((j : Nat) : Int) / 2 ∧ ((j : Nat) : Int) / 2 ≤ 1 := by omega
        have c01 : 0 ≤ ((j : Nat) : Int) % 2 ∧ ((j : Nat) : Int) % 2 ≤ 1 := by omega
        refine q_setV st h4 (ev_opV (ev_opV (ev_opV (ev_var rfl) (ev_opV ev_c (ev_opV (ev_var rfl) ev_c (v_mul st (.inr ⟨by decide, by decide⟩))) (v_sub st)) (v_shr st (by omega))) (ev_opV (ev_var rfl) (ev_opV ev_c (ev_var rfl) (v_sub st)) (v_shr st (by omega))) (v_band st)) ev_c (v_band st)) fun H5 k5 h5 => ?_
        refine q_setV st h5 (ev_opV (ev_opV (ev_opV (ev_var rfl) (ev_opV ev_c (ev_opV (ev_var rfl) ev_c (v_mul st (.inr ⟨by decide, by decide⟩))) (v_sub st)) (v_shr st (by omega))) (ev_opV (ev_var rfl) (ev_opV ev_c (ev_var rfl) (v_sub st)) (v_shr st (by omega))) (v_band st)) ev_c (v_band st)) fun H6 k6 h6 => ?_
        refine q_setV st h6 (x := .int (lthW a b j * 2 + lthK a b j)) (ev_opV (ev_opV (ev_var rfl) ev_c (v_mul st (.inr ⟨by decide, by decide⟩))) (ev_opV (ev_var rfl) (ev_var rfl) (v_bor st)) (v_add st)) fun H7 k7 h7 => ?_
        exact q_end ⟨⟨_, _, _, _, _, rfl⟩, sJ.go ((((k3.trans k4).trans k5).trans k6).trans k7) h7⟩
      · obtain ⟨y5, y6, y7, y8, y9, rfl⟩ := hp
        exact q_retV st sJ.s (ev_var rfl) fun H3 k3 h3 => q _ _ _ h3 (by unfold lth; rw [if_pos (by omega)]; rfl)
    have c1 := of_decide_eq_false p1.symm
    refine q_if st h1 (et_or st (et_testV (ev_opV (ev_var rfl) ev_c (v_eqI st))) fun _ => et_testV (ev_opV (ev_var rfl) ev_c (v_eqI st))) (fun H2 p2 k2 h2 => ?_) (fun H2 p2 k2 h2 => q_end ?_)
    · have p2 := p2.symm
      rw [Bool.or_eq_true] at p2
      have c2 : a = 0 ∨ b = 0 := p2.imp of_decide_eq_true of_decide_eq_true
      exact q_retV st h2 ev_c fun H3 k3 h3 => q _ _ _ h3 (by unfold lth; rw [if_neg (by omega), if_pos c2]; rfl)
    have n2 : ¬ (a = 0 ∨ b = 0) := fun z => by
      have p2 := p2.symm
      rw [Bool.or_eq_false_iff] at p2
      have := of_decide_eq_false p2.1
      have := of_decide_eq_false p2.2
      omega
    refine q_if st h2 (et_testV (ev_opV (ev_var rfl) ev_c (v_lt st))) (fun H3 p3 k3 h3 => ?_) (fun H3 p3 k3 h3 => q_end ?_)
    · have c3 := of_decide_eq_true p3.symm
      refine q_retV st h3 (ev_opV (ev_cbV (ea_consV (ev_cbV (ea_consV (ev_opV (ev_opV (ev_var rfl) (ev_var rfl) (v_add st)) ev_c (v_sub st)) ea_nilV) (c_int st)) (ea_consV (ev_cbV (ea_consV (ev_var rfl) ea_nilV) (c_int st)) ea_nilV)) (rc_val (x := .int (if most < a + b - 2 then most else a + b - 2)) (fun H s Q q => ⟨a + b - 2, most, rfl, q⟩) st)) ev_c (v_add st)) fun H4 k4 h4 => q _ _ _ h4 (by unfold lth; rw [if_neg (by omega), if_neg n2, if_pos (by omega)]; rfl)
    · have c3 := of_decide_eq_false p3.symm
      exact q_retV st h3 (ev_opV (ev_opV (ev_opV (ev_var rfl) ev_c (v_sub st)) (ev_opV (ev_var rfl) ev_c (v_sub st)) (v_bor st)) ev_c (v_add st)) fun H5 k5 h5 => q _ _ _ h5 (by unfold lth; rw [if_neg (by omega), if_neg n2, if_neg (by omega)]; rfl)
def IsTbA (K : PySem.W.Frag) (Cs : List Addr) (names : List Str) (nv sl : Nat) (th jn : Nat → Nat → Int) : HR := fun v G => ∃ p, v = .ref p ∧ TbAt K Cs names nv sl th jn p G
instance (K Cs names nv sl th jn) : Mon (IsTbA K Cs names nv sl th jn) := ⟨fun s ⟨p, e, h⟩ => ⟨p, e, h.mono s⟩⟩
def PTsc (K : PySem.W.Frag) (Cs : List Addr) : List V → Hp → HR → Prop := fun vs G R => ∃ (pn pj pp : Addr) (names : List Str) (nv sl : Nat) (th jn : Nat → Nat → Int), vs = [.ref pn, .ref pj, .ref pp, .int (nv : Nat), .int (sl : Nat)] ∧ G pn = some (.lst (names.map V.str)) ∧ TabN G pj names.length jn ∧ TabN G pp names.length th ∧ TbIs names nv sl th jn ∧ R = IsTbA K Cs names nv sl th jn
theorem ok_tsc {Cs : List Addr} {CT : Addr} {f : Addr} {fd : FuncData} (Z : Bi mg) (iT : CT ∈ Cs) (oT : ClsOk K CT) (k_TableScale : MakerK P w K mg base "TableScale" CT (L2.CX P w) 10 ["self", "names", "joins", "products", "never", "still"] 3 ["never", "still"] (fun vs zs => vs ++ zs) (spI (PTbI CT)))
    (F : Fun K "_law_table_scale" "_law_table_scale" s__law_table_scale f fd) : FnOk P w K mg base CX0 12 f fd ["_law_names", "_law_joins", "_law_products", "_law_low", "_law_mid"] (spP (PTsc K Cs)) := by
  refine F.ok sc__law_table_scale (fun vs H Q E h => ?_) (fun cdv A outer s H vs Q E hr h => ?_)
  · obtain ⟨_, _, _, ⟨_, _, _, _, _, _, _, _, rfl, _⟩, _⟩ := h
    rfl
  · obtain ⟨G, R, hs, ⟨pn, pj, pp, names, nv, sl, th, jn, rfl, gn, tj, tp, T, rfl⟩, q⟩ := h
    refine ⟨_, (pss_cons (ps_setLc (i := 5) (own := [("_law_row", 8)]) (g := (gName 8)) rfl sc__law_table_scale.nd rfl rfl (sw_true rfl rfl rfl (by decide +kernel)) (pi_listK K (pv 1)) (blkOk_by (by kernel_rfl)) (fun _ _ _ _ _ => (pg_name (i := 8) sc__law_table_scale.nd rfl (Or.inl rfl))) (fun _ _ _ _ _ => pts_nil) (fun _ _ _ _ _ => (pe_lc (own := [("_law_k", 9)]) (g := (gName 9)) rfl sc__law_table_scale.nd (pi_listK K (pv 8)) (blkOk_by (by kernel_rfl)) (fun _ _ _ _ _ => (pg_name (i := 9) sc__law_table_scale.nd rfl (Or.inl rfl))) (fun _ _ _ _ _ => pts_nil) (fun _ _ _ _ _ => (pe_ix (ix_any K (hu_of hr)) (pv 0) (pv 9) (fun _ _ => rfl))))))
  (pss_cons (ps_setLc (i := 6) (own := [("_law_row", 8)]) (g := (gName 8)) rfl sc__law_table_scale.nd rfl rfl (sw_true rfl rfl rfl (by decide +kernel)) (pi_listK K (pv 2)) (blkOk_by (by kernel_rfl)) (fun _ _ _ _ _ => (pg_name (i := 8) sc__law_table_scale.nd rfl (Or.inl rfl))) (fun _ _ _ _ _ => pts_nil) (fun _ _ _ _ _ => (pe_lc (own := [("_law_k", 9)]) (g := (gName 9)) rfl sc__law_table_scale.nd (pi_listK K (pv 8)) (blkOk_by (by kernel_rfl)) (fun _ _ _ _ _ => (pg_name (i := 9) sc__law_table_scale.nd rfl (Or.inl rfl))) (fun _ _ _ _ _ => pts_nil) (fun _ _ _ _ _ => (pe_ix (ix_any K (hu_of hr)) (pv 0) (pv 9) (fun _ _ => rfl))))))
  (pss_cons (ps_set (i := 7) sc__law_table_scale.nd rfl (Or.inl rfl) (pe_makeKC k_TableScale (hr.mono (by decide)) passL (pa_cons (pe_callTy (call_listA K) (by rfl) Z.z_list (by decide +kernel) (pa_cons (pv 0) pa_nil)) (pa_cons (pv 5) (pa_cons (pv 6) pa_nil))) (pk_cons (pe_ix (ix_any K (hu_of hr)) (pv 0) (pv 3) (fun _ _ => rfl)) (pk_cons (pe_ix (ix_any K (hu_of hr)) (pv 0) (pv 4) (fun _ _ => rfl)) pk_nil))))
  (pss_cons (ps_ret (pe_lst (pa_cons (pv 0) (pa_cons (pv 1) (pa_cons (pv 2) (pa_cons (pv 3) (pa_cons (pv 4) (pa_cons (pv 7) pa_nil))))))))
  pss_nil)))), ?_⟩
    have st := stab0 G H
    have h0 : SP0 G H 0 G H := Grow.refl hs
    have l2 := T.l2
    show tSeq _ _ (Ends.mk _ _ _ _) [some _, some _, some _, some _, some _, none, none, none, none, none] _
    refine q_set h0 (ev_names (r := 8) (c := 9) (i := 0) st (ev_var rfl) tj T.jn (by omega) gn (fun _ => rfl) (fun _ => rfl) fun _ _ => ⟨rfl, rfl, rfl⟩) fun v5 G5 H5 s5 r5 => ?_
    obtain ⟨p5, ws5, rfl, _, g5, rl5⟩ := r5
    refine q_set s5.s (ev_names (r := 8) (c := 9) (i := 0) st (ev_var rfl) (tp.mono s5.g) T.th (by omega) (s5.g _ _ gn) (fun _ => rfl) (fun _ => rfl) fun _ _ => ⟨rfl, rfl, rfl⟩) fun v6 G6 H6 s6 r6 => ?_
    obtain ⟨p6, ws6, rfl, _, g6, rl6⟩ := r6
    have s06 := s5.g.trans s6.g
    have gn6 := s06 _ _ gn
    have nmAt : ∀ {k : Nat} {m : Nat} {σ : L2.St} {j : Nat}, k < names.length → σ[0]? = some (some (.ref pn)) → σ[j]? = some (some (.int (k : Nat))) → Ev (SP0 G H) m (0 + 0) (tOp (rIxA K) (tVar 0) (tVar j)) σ G6 (IsV (.str (names.getD k ("" : Str)))) := fun hk e0 ej => ev_opV (ev_var e0) (ev_var ej) (v_ixL st (SqL.of gn6) (atI_nat (by rw [List.getElem?_map, List.getD_eq_getElem?_getD, List.getElem?_eq_getElem hk]; rfl)))
    refine q_set s6.s (ev_mkTab st iT oT T (ev_cbV (ea_consV (ev_var rfl) ea_nilV) (c_listN st (SqL.of gn6))) ((ev_var rfl).imp fun v G' s' e => ⟨p5, e, ws5, s' _ _ (s6.g _ _ g5), rl_mon (s6.g.trans s') rl5⟩) ((ev_var rfl).imp fun v G' s' e => ⟨p6, e, ws6, s' _ _ g6, rl_mon s' rl6⟩) (nmAt T.nv rfl rfl) (nmAt T.sl rfl rfl)) fun v7 G7 H7 s7 r7 => ?_
    obtain ⟨x, rfl, sx⟩ := r7
    refine q_ret s7.s (ev_lstN st (vs := [.ref pn, .ref pj, .ref pp, .int (nv : Nat), .int (sl : Nat), .ref x]) (ea_consV (ev_var rfl) (ea_consV (ev_var rfl) (ea_consV (ev_var rfl) (ea_consV (ev_var rfl) (ea_consV (ev_var rfl) (ea_consV (ev_var rfl) ea_nilV)))))) (by simp)) fun v8 G8 H8 s8 r8 => q v8 G8 H8 s8.s ?_
    obtain ⟨p8, rfl, _, g8⟩ := r8
    have s08 := (s06.trans s7.g).trans s8.g
    exact ⟨p8, rfl, pn, pj, pp, x, g8, s08 _ _ gn, tj.mono s08, tp.mono s08, sx.mono s8.g⟩
/-- names of a table scale that the law draws -/
def Wn (d : SD) : Prop := ∀ nm ∈ d.names, ∃ k : Nat, k < d.names.length ∧ nm = ("w" : Str) ++ (toString ((k : Nat) : Int) : Str)
theorem wn_ne : ∀ i, i < 17 → ∀ j, j < i → ("w" : Str) ++ (toString ((i : Nat) : Int) : Str) ≠ ("w" : Str) ++ (toString ((j : Nat) : Int) : Str) := by decide +kernel
theorem Wn.not {d : SD} (h : Wn d) (l : d.names.length ≤ 16) : ("w" : Str) ++ (toString ((d.names.length : Nat) : Int) : Str) ∉ d.names := fun z => by
  obtain ⟨k, hk, e⟩ := h _ z
  exact wn_ne _ (by omega) k hk e
def PTbs (K : PySem.W.Frag) (Cs : List Addr) : Addr → List V → Nat → Nat → Hp → HR → Prop := fun sa vs _ k _ R => vs = [.ref sa] ∧ k = 3 ∧ R = IsTb K Cs (fun d => Reg d ∧ Wn d)
theorem str_small : ∀ i : Nat, i < 64 → ((i : Nat) : Int).natAbs.log2 < 1920 ∧ ("w" : Str).length + (toString ((i : Nat) : Int) : Str).length ≤ 100 := by decide +kernel
theorem ok_tables {Cs : List Addr} {f : Addr} {fd : FuncData} (Z : Bi mg) (c__law_pick : Callee P w K mg base "_law_pick" CX0 1 ["_law_source_here", "_law_many"] [] sp_pick) (c__law_join : Callee P w K mg base "_law_join" CX0 1 ["_law_sort", "_law_a", "_law_b"] [] (spP PLjn)) (c__law_then : Callee P w K mg base "_law_then" CX0 1 ["_law_sort", "_law_most", "_law_a", "_law_b"] [] (spP PLth))
    (c__law_table_scale : Callee P w K mg base "_law_table_scale" CX0 12 ["_law_names", "_law_joins", "_law_products", "_law_low", "_law_mid"] [] (spP (PTsc K Cs)))
    (F : Fun K "_law_tables" "_law_tables" s__law_tables f fd) : FnOk P w K mg base CX0 13 f fd ["_law_state"] (spS (PTbs K Cs)) := by
  refine F.ok sc__law_tables (fun vs H Q E h => ?_) (fun cdv A outer s H vs Q E hr h => ?_)
  · obtain ⟨_, _, _, _, _, _, _, ⟨rfl, _⟩, _⟩ := h
    rfl
  · obtain ⟨sa, cl, n, k, G, R, h0, ⟨rfl, rfl, rfl⟩, q⟩ := h
    refine ⟨_, (pss_cons (ps_set (i := 1) sc__law_tables.nd rfl (Or.inr rfl) (pe_callC c__law_pick (hr.mono (by decide)) pass0 (pa_cons (pv 0) (pa_cons pe_int pa_nil))))
  (pss_cons (ps_set (i := 2) sc__law_tables.nd rfl (Or.inr rfl) (pe_callC c__law_pick (hr.mono (by decide)) pass0 (pa_cons (pv 0) (pa_cons pe_int pa_nil))))
  (pss_cons (ps_set (i := 3) sc__law_tables.nd rfl (Or.inl rfl) (pe_ifExp (pt_cmpR op_ltA (pv 1) pe_int (nomark _)) (pe_op op_addA (pv 2) pe_int) (pe_ifExp (pt_cmpR op_ltA (pv 1) pe_int (nomark _)) pe_int pe_int)))
  (pss_cons (ps_set (i := 4) sc__law_tables.nd rfl (Or.inl rfl) (pe_ifExp (pt_cmpR (op_eqA K hr.units) (pv 1) pe_int (nomark _)) pe_int pe_int))
  (pss_cons (ps_set (i := 5) sc__law_tables.nd rfl (Or.inr rfl) (pe_op op_mulA (pe_callC c__law_pick (hr.mono (by decide)) pass0 (pa_cons (pv 0) (pa_cons pe_int pa_nil))) (pe_op op_subA (pv 3) pe_int)))
  (pss_cons (ps_set (i := 6) sc__law_tables.nd rfl (Or.inr rfl) (pe_lc (own := [("_law_k", 10)]) (g := (gName 10)) rfl sc__law_tables.nd (pi_range1 (by rfl) Z.z_range (pa_cons (pv 3) pa_nil)) (blkOk_by (by kernel_rfl)) (fun _ _ _ _ _ => (pg_name (i := 10) sc__law_tables.nd rfl (Or.inl rfl))) (fun _ _ _ _ _ => pts_nil) (fun _ _ _ _ _ => (pe_callB call_absA (by rfl) Z.z_abs (by decide +kernel) (pa_cons (pe_op op_subA (pv 5) (pv 10)) pa_nil)))))
  (pss_cons (ps_setLc (i := 7) (own := [("_law_k", 10)]) (g := (gName 10)) rfl sc__law_tables.nd rfl rfl (sw_true rfl rfl rfl (by decide +kernel)) (pi_listK K (pv 6)) (blkOk_by (by kernel_rfl)) (fun _ _ _ _ _ => (pg_name (i := 10) sc__law_tables.nd rfl (Or.inl rfl))) (fun _ _ _ _ _ => pts_nil) (fun _ _ _ _ _ => (pe_op op_addA pe_str (pe_callTy call_strA (by rfl) Z.z_str (by decide +kernel) (pa_cons (pv 10) pa_nil)))))
  (pss_cons (ps_setLc (i := 8) (own := [("_law_a", 11)]) (g := (gName 11)) rfl sc__law_tables.nd rfl rfl (sw_true rfl rfl rfl (by decide +kernel)) (pi_listK K (pv 6)) (blkOk_by (by kernel_rfl)) (fun _ _ _ _ _ => (pg_name (i := 11) sc__law_tables.nd rfl (Or.inr rfl))) (fun _ _ _ _ _ => pts_nil) (fun _ _ _ _ _ => (pe_lc (own := [("_law_b", 12)]) (g := (gName 12)) rfl sc__law_tables.nd (pi_listK K (pv 6)) (blkOk_by (by kernel_rfl)) (fun _ _ _ _ _ => (pg_name (i := 12) sc__law_tables.nd rfl (Or.inl rfl))) (fun _ _ _ _ _ => pts_nil) (fun _ _ _ _ _ => (pe_callB call_absA (by rfl) Z.z_abs (by decide +kernel) (pa_cons (pe_op op_subA (pv 5) (pe_callC c__law_join (hr.mono (by decide)) pass0 (pa_cons (pv 1) (pa_cons (pv 11) (pa_cons (pv 12) pa_nil))))) pa_nil))))))
  (pss_cons (ps_setLc (i := 9) (own := [("_law_a", 11)]) (g := (gName 11)) rfl sc__law_tables.nd rfl rfl (sw_true rfl rfl rfl (by decide +kernel)) (pi_listK K (pv 6)) (blkOk_by (by kernel_rfl)) (fun _ _ _ _ _ => (pg_name (i := 11) sc__law_tables.nd rfl (Or.inr rfl))) (fun _ _ _ _ _ => pts_nil) (fun _ _ _ _ _ => (pe_lc (own := [("_law_b", 12)]) (g := (gName 12)) rfl sc__law_tables.nd (pi_listK K (pv 6)) (blkOk_by (by kernel_rfl)) (fun _ _ _ _ _ => (pg_name (i := 12) sc__law_tables.nd rfl (Or.inl rfl))) (fun _ _ _ _ _ => pts_nil) (fun _ _ _ _ _ => (pe_callB call_absA (by rfl) Z.z_abs (by decide +kernel) (pa_cons (pe_op op_subA (pv 5) (pe_callC c__law_then (hr.mono (by decide)) pass0 (pa_cons (pv 1) (pa_cons (pv 2) (pa_cons (pv 11) (pa_cons (pv 12) pa_nil)))))) pa_nil))))))
  (pss_cons (ps_ret (pe_callC c__law_table_scale (hr.mono (by decide)) pass0 (pa_cons (pv 7) (pa_cons (pv 8) (pa_cons (pv 9) (pa_cons (pv 5) (pa_cons (pe_callB call_absA (by rfl) Z.z_abs (by decide +kernel) (pa_cons (pe_op op_subA (pv 5) (pv 4)) pa_nil)) pa_nil)))))))
  pss_nil)))))))))), ?_⟩
    have st := stabS sa cl
    show tSeq _ _ (Ends.mk _ _ _ _) [some _, none, none, none, none, none, none, none, none, none, none, none, none] _
    refine q_setI st h0 (ev_pick (ea_consV (ev_var rfl) (ea_consV ev_c ea_nilV)) (by decide) (by decide)) fun w0 H1 hw k1 h1 => ?_
    obtain ⟨sort, rfl⟩ : ∃ a : Nat, w0 = (a : Nat) := ⟨w0.toNat, by omega⟩
    refine q_setI st h1 (ev_pick (ea_consV (ev_var rfl) (ea_consV ev_c ea_nilV)) (by decide) (by decide)) fun m0 H2 hm k2 h2 => ?_
    obtain ⟨most, rfl⟩ : ∃ a : Nat, m0 = (a : Nat) := ⟨m0.toNat, by omega⟩
    have h5 : sort < 5 := by omega
    have h4 : most < 4 := by omega
    obtain ⟨nn, hnn⟩ : ∃ nn, nn = bsN sort most := ⟨_, rfl⟩
    have n2 : 2 ≤ nn ∧ nn ≤ 16 := by
      rw [hnn]
      unfold bsN
      split <;> (try split) <;> omega
    refine q_setV st h2 (x := .int (nn : Nat)) (ev_if (ka := 0) (kb := 0) st (et_testV (ev_opV (ev_var rfl) ev_c (v_lt st))) (fun c => ev_eq (congrArg V.int ?_) (ev_opV (ev_var rfl) ev_c (v_add st))) fun c => ev_if (ka := 0) (kb := 0) st (et_testV (ev_opV (ev_var rfl) ev_c (v_lt st))) (fun c' => ev_eq (congrArg V.int ?_) ev_c) fun c' => ev_eq (congrArg V.int ?_) ev_c) fun H3 k3 h3 => ?_
    · have c := of_decide_eq_true c
      rw [hnn]
      unfold bsN
      rw [if_pos (by omega)]
      rfl
    · have c := of_decide_eq_false c
      have c' := of_decide_eq_true c'
      rw [hnn]
      unfold bsN
      rw [if_neg (by omega), if_pos (by omega)]
      rfl
    · have c := of_decide_eq_false c
      have c' := of_decide_eq_false c'
      rw [hnn]
      unfold bsN
      rw [if_neg (by omega), if_neg (by omega)]
      rfl
    refine q_setV st h3 (x := .int (bsM sort : Nat)) (ev_if (ka := 0) (kb := 0) st (et_testV (ev_opV (ev_var rfl) ev_c (v_eqI st))) (fun c => ev_eq (congrArg V.int ?_) ev_c) fun c => ev_eq (congrArg V.int ?_) ev_c) fun H4 k4 h4' => ?_
    · have c := of_decide_eq_true c
      unfold bsM
      rw [if_pos (by omega)]
      rfl
    · have c := of_decide_eq_false c
      unfold bsM
      rw [if_neg (by omega)]
      rfl
    refine q_setI st h4' (P := fun z => ∃ tt : Nat, tt < 2 ∧ z = (tt : Nat) * (((nn : Nat) : Int) - 1)) (ev_op (Ra := IsI fun r => 0 ≤ r ∧ r < 2) (Rb := IsV (.int (((nn : Nat) : Int) - 1))) (ev_pick (ea_consV (ev_var rfl) (ea_consV ev_c ea_nilV)) (by decide) (by decide)) (ev_opV (ev_var rfl) ev_c (v_sub st)) fun u v G3 s3 eu ev => ?_) fun t H5 ht k5 h5' => ?_
    · obtain ⟨i, hi, rfl⟩ := eu
      obtain rfl := (show _ = _ from ev)
      exact rv_imp (v_mul st (.inl ⟨by omega, by omega⟩)) fun v G2 s2 r => ⟨_, ⟨i.toNat, by omega, by rw [show ((i.toNat : Nat) : Int) = i by omega]⟩, r⟩
    obtain ⟨tt, ht, rfl⟩ := ht
    obtain ⟨T, rg⟩ := tbl_reg h5 h4 ht
    rw [← hnn] at T rg
    have tb : ∀ k : Nat, k < nn → ∃ j : Nat, j < nn ∧ trn ((tt : Nat) * (((nn : Nat) : Int) - 1)) k = (j : Nat) := fun k hk => ⟨_, by show (if tt = 0 then k else nn - 1 - k) < nn; split <;> omega, trn_nat ht hk⟩
    obtain ⟨t, et⟩ : ∃ t : Int, t = (tt : Nat) * (((nn : Nat) : Int) - 1) := ⟨_, rfl⟩
    have etn : t = ((tt * (nn - 1) : Nat) : Int) := by rw [et, Int.natCast_mul, Int.natCast_sub (by omega)]; rfl
    rw [← et] at T rg tb ⊢
    refine q_set h5' (ev_lcV (f := fun j => .int (trn t j)) st (ea_consV (ev_var rfl) ea_nilV) (by omega) (by omega) (fun _ => rfl) fun j G' hj s' => ev_cbV (ea_consV (ev_opV (ev_var rfl) (ev_var rfl) (v_sub st)) ea_nilV) (c_abs st)) fun v6 G6 H6 s6 r6 => ?_
    obtain ⟨p6, rfl, _, g6⟩ := r6
    rw [Int.toNat_natCast] at g6
    refine q_set s6.s (ev_lcVL (f := fun v => match v with | .int i => .str (("w" : Str) ++ (toString i : Str)) | _ => .non) st (ev_var rfl) (SqL.of g6) (by rw [List.length_map, List.length_range]; omega) (fun _ => rfl) fun j z G' hz s' => ?_) fun v7 G7 H7 s7 r7 => ?_
    · obtain ⟨hj, rfl⟩ := map_get hz
      rw [List.length_range] at hj
      rw [List.getElem_range]
      obtain ⟨i, hi, e⟩ := tb j hj
      have sm := str_small i (by omega)
      rw [e]
      exact ev_opV ev_c (ev_cbV (ea_consV (ev_var rfl) ea_nilV) (c_str st sm.1)) (v_adds st (Nat.le_trans sm.2 (by decide)))
    obtain ⟨p7, rfl, _, g7⟩ := r7
    have g7 : G7 p7 = some (.lst ((tuN nn t).map V.str)) := by
      rw [g7, List.map_map]
      unfold tuN
      rw [List.map_map]
      rfl
    have g67 := s7.g _ _ g6
    refine q_set s7.s (ev_gridU (u := trn t) (n := nn) (f := tuJ sort t) (i := 6) (ja := 11) (jb := 12) (σa := fun a => [some (.ref sa), some (.int (sort : Nat)), some (.int (most : Nat)), some (.int (nn : Nat)), some (.int (bsM sort : Nat)), some (.int t), some (.ref p6), some (.ref p7), none, none, none, some (.int (trn t a)), none]) (σb := fun a b => [some (.ref sa), some (.int (sort : Nat)), some (.int (most : Nat)), some (.int (nn : Nat)), some (.int (bsM sort : Nat)), some (.int t), some (.ref p6), some (.ref p7), none, none, none, some (.int (trn t a)), some (.int (trn t b))]) st rfl g67 (by omega) (fun _ => rfl) (fun _ => rfl) (fun _ => rfl) (fun _ _ => rfl) (fun _ _ => rfl) fun a b G' ha hb s' => ?_) fun v8 G8 H8 s8 r8 => ?_
    · exact ev_cbV (ea_consV (ev_opV (ev_var rfl) (ev_callV (R := IsV (.int (ljn sort (trn t a) (trn t b)))) st (ea_consV (ev_var rfl) (ea_consV (ev_var rfl) (ea_consV (ev_var rfl) ea_nilV))) fun G'' s'' => ⟨sort, _, _, rfl, h5, rfl⟩) (v_sub st)) ea_nilV) (c_abs st)
    obtain ⟨p8, ws8, rfl, _, g8, rl8⟩ := r8
    refine q_set s8.s (ev_gridU (u := trn t) (n := nn) (f := tuT sort (most : Nat) t) (i := 6) (ja := 11) (jb := 12) (σa := fun a => [some (.ref sa), some (.int (sort : Nat)), some (.int (most : Nat)), some (.int (nn : Nat)), some (.int (bsM sort : Nat)), some (.int t), some (.ref p6), some (.ref p7), some (.ref p8), none, none, some (.int (trn t a)), none]) (σb := fun a b => [some (.ref sa), some (.int (sort : Nat)), some (.int (most : Nat)), some (.int (nn : Nat)), some (.int (bsM sort : Nat)), some (.int t), some (.ref p6), some (.ref p7), some (.ref p8), none, none, some (.int (trn t a)), some (.int (trn t b))]) st rfl (s8.g _ _ g67) (by omega) (fun _ => rfl) (fun _ => rfl) (fun _ => rfl) (fun _ _ => rfl) (fun _ _ => rfl) fun a b G' ha hb s' => ?_) fun v9 G9 H9 s9 r9 => ?_
    · exact ev_cbV (ea_consV (ev_opV (ev_var rfl) (ev_callV (R := IsV (.int (lth sort (most : Nat) (trn t a) (trn t b)))) st (ea_consV (ev_var rfl) (ea_consV (ev_var rfl) (ea_consV (ev_var rfl) (ea_consV (ev_var rfl) ea_nilV)))) fun G'' s'' => ⟨sort, _, _, _, rfl, h5, rfl⟩) (v_sub st)) ea_nilV) (c_abs st)
    obtain ⟨p9, ws9, rfl, _, g9, rl9⟩ := r9
    have hm : bsM sort < nn := by
      rw [hnn]
      unfold bsN bsM
      split <;> split <;> (try split) <;> omega
    obtain ⟨ui, hui, eui⟩ := tb _ hm
    have uu : (trn t (bsM sort)).toNat = ui := by rw [eui, Int.toNat_natCast]
    rw [uu] at T rg
    refine q_ret s9.s (ev_callV (R := IsTbA K Cs (tuN nn t) (tt * (nn - 1)) ui (tuT sort (most : Nat) t) (tuJ sort t)) (ws := [.ref p7, .ref p8, .ref p9, .int ((tt * (nn - 1) : Nat) : Int), .int (ui : Nat)]) st (ea_consV (ev_var rfl) (ea_consV (ev_var rfl) (ea_consV (ev_var rfl) (ea_consV (ev_eq (congrArg V.int etn) (ev_var rfl)) (ea_consV (ev_eq (congrArg V.int eui) (ev_cbV (ea_consV (ev_opV (ev_var rfl) (ev_var rfl) (v_sub st)) ea_nilV) (c_abs st))) ea_nilV))))) fun G' s' => ⟨p7, p8, p9, _, _, _, _, _, rfl, s' _ _ (s9.g _ _ (s8.g _ _ g7)), by rw [tuN_len]; exact ⟨ws8, s' _ _ (s9.g _ _ g8), rl_mon (s9.g.trans s') rl8⟩, by rw [tuN_len]; exact ⟨ws9, s' _ _ g9, rl_mon s' rl9⟩, T, rfl⟩) fun v10 G10 H10 s10 r10 => q v10 G10 H10 (Fr.stp (((((((((Fr.refl G H).kp k1).kp k2).kp k3).kp k4).kp k5).trans s6.fr).trans s7.fr).trans (s8.fr.trans (s9.fr.trans s10.fr))) (st.wk s10.s (by omega))) ?_
    obtain ⟨p10, rfl, hT⟩ := r10
    refine ⟨p10, _, _, _, _, _, rfl, hT, T, rg, fun nm hnm => ?_⟩
    obtain ⟨k, hk, rfl⟩ := List.mem_map.mp (show nm ∈ (List.range nn).map (fun k => ("w" : Str) ++ (toString (trn t k) : Str)) from hnm)
    obtain ⟨j, hj, ej⟩ := tb k (List.mem_range.mp hk)
    exact ⟨j, by show j < (tuN nn t).length; unfold tuN; rw [List.length_map, List.length_range]; exact hj, by rw [ej]⟩
abbrev s_nested_words : Stmt := top 38
theorem sc_nested_words : FnScope ["text", "open_lists", "word", "row"] ["text"] (defScope s_nested_words) := ⟨rfl, rfl, rfl, by decide +kernel, rfl, by decide +kernel, by decide +kernel⟩
theorem ok_nested_words {CB : Addr} {tD : Tok} (Z : Bi mg) (e_Bad : Ex0C K CB) (m_Bad : mg "BadScale" = some (.ref CB)) (g_DEEPEST_labels : mg "DEEPEST_labels" = some (.int 12 tD)) {f : Addr} {fd : FuncData} (F : Fun K "nested_words" "nested_words" s_nested_words f fd) : FnOk P w K mg base (L2.CX P w) 1 f fd ["text"] (sp_nw CB) := by
  refine fun_okXT F sc_nested_words (by decide +kernel) (by decide) (fun vs H Q E h => ?_) (fun cdv A outer s H vs Q E hr h => ?_)
  · obtain ⟨_, _, rfl, _⟩ := h
    rfl
  · obtain ⟨x, G, rfl, hs, hx, q1, q2⟩ := h
    refine ⟨_, (psst_cons (PST.of (ps_set (i := 1) sc_nested_words.nd rfl (Or.inl rfl) (pe_lst (pa_cons (pe_lst pa_nil) pa_nil))))
  (psst_cons (pst_for (passes_of rfl) rfl (pit_list (pet_split (CwR.pet_replT (CwR.pet_replC (pv 0))) pe_str)) (pg_name (i := 2) sc_nested_words.nd rfl (Or.inl rfl)) (pss_cons (ps_if (pt_cmpR (op_eqA K hr.units) (pv 2) pe_str (nomark _)) (pss_cons (ps_expr (pe_bm PySem.F.plainAttrs_list PySem.F.slot_list_append PySem.F.type_list_append mt_append (pv 1) (pa_cons (pe_lst pa_nil) pa_nil)))
  pss_nil) (pss_cons (ps_if (pt_cmpR (op_eqA K hr.units) (pv 2) pe_str (nomark _)) (pss_cons (ps_if (pt_cmpR (op_eqA K hr.units) (pe_callB (call_lenA K) (by rfl) Z.z_len PySem.boot_len (pa_cons (pv 1) pa_nil)) pe_int (nomark _)) (pss_cons (ps_raiseS rfl e_Bad m_Bad (takes_of rfl rfl rfl rfl))
  pss_nil) pss_nil)
  (pss_cons (ps_set (i := 3) sc_nested_words.nd rfl (Or.inl rfl) (pe_bm0 PySem.F.plainAttrs_list PySem.F.slot_list_pop PySem.F.type_list_pop mt_pop (pv 1)))
  (pss_cons (ps_expr (pe_bm PySem.F.plainAttrs_list PySem.F.slot_list_append PySem.F.type_list_append mt_append (pe_ix (ix_any K (hu_of hr)) (pv 1) (pe_un un_neg pe_int) (fun _ _ => rfl)) (pa_cons (pv 3) pa_nil)))
  pss_nil))) (pss_cons (ps_if (pt_cmpR (op_neA K hr.units) (pv 2) pe_str (nomark _)) (pss_cons (ps_expr (pe_bm PySem.F.plainAttrs_list PySem.F.slot_list_append PySem.F.type_list_append mt_append (pe_ix (ix_any K (hu_of hr)) (pv 1) (pe_un un_neg pe_int) (fun _ _ => rfl)) (pa_cons (pv 2) pa_nil)))
  pss_nil) pss_nil)
  pss_nil))
  pss_nil))
  (pss_cons (ps_if (pt_cmpR op_gtA (pe_callB (call_lenA K) (by rfl) Z.z_len PySem.boot_len (pa_cons (pv 1) pa_nil)) (pe_glob (v := .int 12) rfl g_DEEPEST_labels ⟨_, rfl⟩) (nomark _)) (pss_cons (ps_raiseS rfl e_Bad m_Bad (takes_of rfl rfl rfl rfl))
  pss_nil) pss_nil)
  pss_nil)))
  (psst_cons (PST.of (ps_if (pt_cmpR op_gtA (pe_callB (call_lenA K) (by rfl) Z.z_len PySem.boot_len (pa_cons (pv 1) pa_nil)) pe_int (nomark _)) (pss_cons (ps_raiseS rfl e_Bad m_Bad (takes_of rfl rfl rfl rfl))
  pss_nil) pss_nil))
  (psst_cons (PST.of (ps_ret (pe_ix (ix_any K (hu_of hr)) (pv 1) pe_int (fun _ _ => rfl))))
  (PSsT.of pss_nil))))), ?_⟩
    have st := stab0 G H
    have h0 : SP0 G H 0 G H := Grow.refl hs
    show tSeq _ _ (Ends.mk _ _ _ _) [some _, none, none, none] _
    refine q_set h0 (ev_lst2 st) fun v1 G1 H1 s1 r1 => ?_
    obtain ⟨L, r0, rfl, Lr, gL, gr, hL, hr0⟩ := r1
    have z1 : (SP0 G H).s 0 G H1 := st.anti h0 s1.s s1.g
    have newIn : ∀ {b : Addr} {o : HO}, G1 b = some o → G b = none → H b = none := fun e g => (s1.n _ _ e).resolve_left (by rw [g]; exact fun z => nomatch z)
    have nI : NwI G H G H1 L [r0] [[]] := ⟨z1, st.sub s1.s _ _ hL, ⟨⟨[], st.sub s1.s _ _ hr0, .nil⟩, trivial⟩, List.nodup_cons.mpr ⟨by simpa using Lr, by simp⟩, fun r hm => by
      rcases List.mem_cons.mp hm with rfl | hm
      · exact newIn hL gL
      · obtain rfl := List.mem_singleton.mp hm
        exact newIn hr0 gr, fun r hm => by
      rcases List.mem_cons.mp hm with rfl | hm
      · exact gL
      · obtain rfl := List.mem_singleton.mp hm
        exact gr⟩
    have e1 : (Txt.replace x ("(" : Str) (" ( " : Str)).length ≤ 80003 := Nat.le_trans (TK.replace_len _ _ _) (by rw [show (" ( " : Str).length = 3 from by decide +kernel]; omega)
    have e2 : (Txt.replace (Txt.replace x ("(" : Str) (" ( " : Str)) (")" : Str) (" ) " : Str)).length ≤ 320015 := Nat.le_trans (TK.replace_len _ _ _) (by rw [show (" ) " : Str).length = 3 from by decide +kernel]; omega)
    have tl : (toks x).length ≤ 320016 := Nat.le_trans (Nat.le_trans (Nat.le_add_left _ _) (split_weight _ _ (by decide +kernel))) (Nat.succ_le_succ e2)
    refine q_forIX (RA := IsVs ((toks x).map V.str)) st z1 ((ev_splitS st (ev_repl (ev_repl (ev_var rfl) (by rw [show (" ( " : Str).length = 3 from by decide +kernel]; omega)) (by rw [show (" ) " : Str).length = 3 from by decide +kernel]; omega)) ev_c (by decide +kernel) (by unfold sizeLine; omega)).imp fun v G' s' ⟨p, e, _, g⟩ => ⟨p, _, e, g, rfl⟩)
      (fun p j τ J => ∃ (G' : Hp) (rs : List Addr) (sk : List (List Wd)) (y2 y3 : Option V), τ = [some (.str x), some (.ref L), y2, y3] ∧ G' p = some (.lst ((toks x).map V.str)) ∧ NwI G H G' J L rs sk ∧ nwRun 12 (toks x) [[]] = nwRun 12 ((toks x).drop j) sk ∧ (∀ ws ∈ sk, ws.length ≤ j) ∧ 1 ≤ sk.length ∧ sk.length ≤ 12)
      fun p xs G2 H2 s2 gp hxs => ?_
    obtain rfl := (show xs = _ from hxs)
    refine ⟨fun j τ J ⟨G', rs, sk, y2, y3, _, g, nI, _⟩ => SqL.of (nI.s.s _ _ g), ⟨G2, [r0], [[]], none, none, rfl, gp, nI.grow s2, rfl, by simp, by decide, by decide⟩, fun j wv τ J hj hp => ?_, fun τ J hp => ?_⟩
    · obtain ⟨G3, rs, sk, y2, y3, rfl, g3, nI, hrun, hlen, hk1, hk2⟩ := hp
      obtain ⟨t, ht, rfl⟩ : ∃ t, (toks x)[j]? = some t ∧ wv = .str t := by
        rw [List.getElem?_map] at hj
        cases hz : (toks x)[j]? with
        | none =>
          rw [hz] at hj
          cases hj
        | some t =>
          rw [hz] at hj
          exact ⟨t, rfl, (Option.some.inj hj).symm⟩
      have hj2 : j < (toks x).length := (List.getElem?_eq_some_iff.mp ht).1
      have hdrop : (toks x).drop j = t :: (toks x).drop (j + 1) := by
        rw [List.drop_eq_getElem_cons hj2]
        congr 1
        exact (List.getElem?_eq_some_iff.mp ht).2
      rw [hdrop] at hrun
      have ol := nI.o.len
      show tSeq _ _ (Ends.mk _ _ _ _) [some (.str x), some (.ref L), some (.str t), y3] J
      refine q_ifM st (fun σ' J' => ∃ (G' : Hp) (rs' : List Addr) (sk' : List (List Wd)) (y3' : Option V), σ' = [some (.str x), some (.ref L), some (.str t), y3'] ∧ G' p = some (.lst ((toks x).map V.str)) ∧ NwI G H G' J' L rs' sk' ∧ nwOp t sk = some sk' ∧ (∀ ws ∈ sk', ws.length ≤ j + 1) ∧ 1 ≤ sk'.length ∧ sk'.length ≤ 13) nI.sp (et_testV (ev_opV (ev_var rfl) ev_c (v_eqS st))) (fun σ' J' hM => ?_) (fun nx' hM J4 p4 k4 h4 => ?_) (fun nx' hM J4 p4 k4 h4 => ?_)
      · obtain ⟨G', rs', sk', y3', rfl, g', nI', hop, hl', h1', h2'⟩ := hM
        have ol' := nI'.o.len
        refine q_if st (nI'.pub hs) (et_testV (ev_opV (ev_cbV (ea_consV (ev_var rfl) ea_nilV) (c_lenL st (SqL.of upd_same))) ev_c (v_gt st))) (fun J5 p5 k5 h5 => ?_) (fun J5 p5 k5 h5 => ?_)
        · have p5 := of_decide_eq_true p5.symm
          refine q_raise0 (q2 ?_ J5 ((nI'.back hs k5 h5).out hs))
          rw [List.length_map, List.length_reverse] at p5
          unfold nw
          rw [hrun]
          show ((nwStep 12 t sk).bind _).bind _ = _
          unfold nwStep
          rw [hop]
          show ((if sk'.length ≤ 12 then some sk' else none).bind _).bind _ = _
          rw [if_neg (by omega)]
          rfl
        · have p5 := of_decide_eq_false p5.symm
          rw [List.length_map, List.length_reverse] at p5
          refine q_end (q_end ⟨G', rs', sk', some (.str t), y3', rfl, g', nI'.back hs k5 h5, ?_, hl', h1', by omega⟩)
          rw [hrun]
          show (nwStep 12 t sk).bind _ = _
          unfold nwStep
          rw [hop]
          show (if sk'.length ≤ 12 then some sk' else none).bind _ = _
          rw [if_pos (by omega)]
          rfl
      · have p4 := of_decide_eq_true p4.symm
        have nI4 := nI.k k4 h4
        refine q_appK st h0 nI4.sp (Same.refl _) nI4.sp (nI4.h0 L List.mem_cons_self) (nI4.g L List.mem_cons_self) nI4.l (by rw [List.length_map, List.length_reverse, ol]; unfold sizeLine; omega) (ev_var rfl) (ev_lstN st ea_nilV (by simp)) fun v Ga Ja sa ra ss => ?_
        obtain ⟨r, rfl, fr, gr⟩ := ra
        refine q_end (hM _ _ ⟨G3, r :: rs, [] :: sk, y3, rfl, g3, nI4.push sa.k (st.sub sa.s _ _ gr) ((sa.n _ _ gr).resolve_left (by rw [fr]; exact fun z => nomatch z)) fr ss, by unfold nwOp; rw [if_pos p4], fun ws hw => ?_, by simp, by rw [List.length_cons]; omega⟩)
        rcases List.mem_cons.mp hw with rfl | hw
        · exact Nat.zero_le _
        · exact Nat.le_succ_of_le (hlen ws hw)
      · have p4 := of_decide_eq_false p4.symm
        have nI4 := nI.k k4 h4
        refine q_if st nI4.sp (et_testV (ev_opV (ev_var rfl) ev_c (v_eqS st))) (fun J5 p5 k5 h5 => ?_) (fun J5 p5 k5 h5 => ?_)
        · have p5 := of_decide_eq_true p5.symm
          have nI5 := nI4.k k5 h5
          refine q_if st (nI5.pub hs) (et_testV (ev_opV (ev_cbV (ea_consV (ev_var rfl) ea_nilV) (c_lenL st (SqL.of upd_same))) ev_c (v_eqI st))) (fun J6 p6 k6 h6 => ?_) (fun J6 p6 k6 h6 => q_end ?_)
          · have p6 := of_decide_eq_true p6.symm
            rw [List.length_map, List.length_reverse, ol] at p6
            refine q_raise0 (q2 ?_ J6 ((nI5.back hs k6 h6).out hs))
            obtain ⟨a, rfl⟩ : ∃ a, sk = [a] := by
              match sk, p6 with
              | [a], _ => exact ⟨a, rfl⟩
              | _ :: _ :: _, h => simp at h; omega
            unfold nw
            rw [hrun]
            show ((nwStep 12 t [a]).bind _).bind _ = _
            unfold nwStep nwOp
            rw [if_neg p4, if_pos p5]
            rfl
          · have p6 := of_decide_eq_false p6.symm
            rw [List.length_map, List.length_reverse, ol] at p6
            have nI6 := nI5.back hs k6 h6
            match rs, sk, ol, hk1, p6, nI6, hlen, hk2, hM with
            | r :: r2 :: rs, a :: b :: sk, ol, hk1, p6, nI6, hlen, hk2, hM =>
              obtain ⟨⟨xa, hxa, hwa⟩, ⟨xb, hxb, hwb⟩, ho⟩ := nI6.o
              refine q_popK st h0 nI6.sp (nI6.h0 L List.mem_cons_self) (nI6.g L List.mem_cons_self) nI6.l (v := .ref r) (by rw [List.length_map, List.length_reverse, List.length_cons, Nat.add_sub_cancel]; exact rev_last) rfl fun z7 => ?_
              rw [rev_drop] at z7 ⊢
              obtain ⟨nI7, wa⟩ := nI6.close hs hxa hwa z7
              obtain ⟨⟨xb, hxb, hwb⟩, ho⟩ := nI7.o
              have r2m : r2 ∈ L :: r2 :: rs := List.mem_cons_of_mem _ List.mem_cons_self
              have lb : xb.length < sizeLine := by
                rw [hwb.len]
                have := hlen b (List.mem_cons_of_mem _ List.mem_cons_self)
                unfold sizeLine
                omega
              refine q_appK st h0 nI7.sp nI7.same (nI7.pub hs) (nI7.h0 r2 r2m) (nI7.g r2 r2m) hxb lb (ev_opV (ev_var rfl) (ev_eq (z := .int (-1)) rfl (ev_unV ev_c (u_neg st))) (v_ixL st (SqL.of upd_same) (atI_m1 (L := rs.length) (by simp) rev_last))) (ev_var rfl) fun v Ga Ja sa ra ss => ?_
              obtain rfl := (show _ = _ from ra)
              refine q_end (q_end (hM _ _ ⟨_, r2 :: rs, (b ++ [.l a]) :: sk, some (.ref r), rfl, nI6.same' (nI6.g r (List.mem_cons_of_mem _ List.mem_cons_self)) g3, nI7.word sa.k hxb hwb wa ss, by unfold nwOp; rw [if_neg p4, if_pos p5], fun ws hw => ?_, by simp, by simp at hk2 ⊢; omega⟩))
              rcases List.mem_cons.mp hw with rfl | hw
              · rw [List.length_append]
                have := hlen b (List.mem_cons_of_mem _ List.mem_cons_self)
                simp
                omega
              · exact Nat.le_succ_of_le (hlen ws (List.mem_cons_of_mem _ (List.mem_cons_of_mem _ hw)))
            | [], [], _, hk1, _, _, _, _, _ => exact absurd hk1 (by decide)
            | [_], [_], _, _, p6, _, _, _, _ => exact absurd rfl p6
        · have p5 := of_decide_eq_false p5.symm
          have nI5 := nI4.k k5 h5
          refine q_if st nI5.sp (et_testV (ev_opV (ev_var rfl) ev_c (v_neS st))) (fun J6 p6 k6 h6 => ?_) (fun J6 p6 k6 h6 => ?_)
          · have p6 : ¬ t = ("" : Str) := by simpa using p6.symm
            have nI6 := nI5.k k6 h6
            match rs, sk, ol, hk1, nI6, hlen, hk2, hM with
            | r :: rs, a :: sk, ol, hk1, nI6, hlen, hk2, hM =>
              obtain ⟨⟨xa, hxa, hwa⟩, ho⟩ := nI6.o
              have rm : r ∈ L :: r :: rs := List.mem_cons_of_mem _ List.mem_cons_self
              have la : xa.length < sizeLine := by
                rw [hwa.len]
                have := hlen a List.mem_cons_self
                unfold sizeLine
                omega
              refine q_appK st h0 nI6.sp nI6.same (nI6.pub hs) (nI6.h0 r rm) (nI6.g r rm) hxa la (ev_opV (ev_var rfl) (ev_eq (z := .int (-1)) rfl (ev_unV ev_c (u_neg st))) (v_ixL st (SqL.of upd_same) (atI_m1 (L := rs.length) (by simp) rev_last))) (ev_var rfl) fun v Ga Ja sa ra ss => ?_
              obtain rfl := (show _ = _ from ra)
              refine q_end (q_end (q_end (hM _ _ ⟨G3, r :: rs, (a ++ [.w t]) :: sk, y3, rfl, g3, nI6.word sa.k hxa hwa .w ss, by unfold nwOp; rw [if_neg p4, if_neg p5, if_neg p6], fun ws hw => ?_, by simp, by simp at hk2 ⊢; omega⟩)))
              rcases List.mem_cons.mp hw with rfl | hw
              · rw [List.length_append]
                have := hlen a List.mem_cons_self
                simp
                omega
              · exact Nat.le_succ_of_le (hlen ws (List.mem_cons_of_mem _ hw))
            | [], [], _, hk1, _, _, _, _ => exact absurd hk1 (by decide)
          · have p6 : t = ("" : Str) := by simpa using p6.symm
            have nI6 := nI5.k k6 h6
            exact q_end (q_end (q_end (hM _ _ ⟨G3, rs, sk, y3, rfl, g3, nI6, by unfold nwOp; rw [if_neg p4, if_neg p5, if_pos p6], fun ws hw => Nat.le_succ_of_le (hlen ws hw), hk1, by omega⟩)))
    · obtain ⟨G3, rs, sk, y2, y3, rfl, g3, nI, hrun, hlen, hk1, hk2⟩ := hp
      have ol := nI.o.len
      rw [List.length_map, List.drop_length] at hrun
      refine q_if st (nI.pub hs) (et_testV (ev_opV (ev_cbV (ea_consV (ev_var rfl) ea_nilV) (c_lenL st (SqL.of upd_same))) ev_c (v_gt st))) (fun J5 p5 k5 h5 => ?_) (fun J5 p5 k5 h5 => q_end ?_)
      · have p5 := of_decide_eq_true p5.symm
        rw [List.length_map, List.length_reverse, ol] at p5
        refine q_raise0 (q2 ?_ J5 ((nI.back hs k5 h5).out hs))
        unfold nw
        rw [hrun]
        match sk, p5 with
        | _ :: _ :: _, _ => rfl
        | [_], h => exact absurd h (by simp)
        | [], h => exact absurd h (by decide)
      · have p5 := of_decide_eq_false p5.symm
        rw [List.length_map, List.length_reverse, ol] at p5
        have nI5 := nI.back hs k5 h5
        match rs, sk, ol, hk1, p5, nI5, hrun with
        | [r], [a], _, _, _, nI5, hrun =>
          refine q_retV st (nI5.pub hs) (x := .ref r) (ev_opV (ev_var rfl) ev_c (v_ixL st (SqL.of upd_same) (atI_nat (j := 0) rfl))) fun J6 k6 h6 => ?_
          have nI6 := nI5.back hs k6 h6
          obtain ⟨⟨xa, hxa, hwa⟩, _⟩ := nI6.o
          have rm : r ∈ L :: [r] := List.mem_cons_of_mem _ List.mem_cons_self
          have fin := (stab0 G H).pub (n := 0) (m := 0) h0 (nI6.h0 r rm) nI6.sp (nI6.g r rm) hxa
          exact q1 a (by unfold nw; rw [hrun]; rfl) _ _ _ fin (.l upd_same (hwa.mono fun b o e => by rw [upd_ne (ne_of_none e (nI6.g r rm))]; exact e))
        | [], [], _, h, _, _, _ => exact absurd h (by decide)
        | _ :: _ :: _, _ :: _ :: _, _, _, h, _, _ => simp at h; omega
abbrev s_square_rows : Stmt := top 41
theorem sc_square_rows : FnScope ["words", "many", "start"] ["words", "many"] (defScope s_square_rows) := ⟨rfl, rfl, rfl, by decide +kernel, rfl, by decide +kernel, by decide +kernel⟩
theorem ok_square_rows {f : Addr} {fd : FuncData} (Z : Bi mg) (F : Fun K "square_rows" "square_rows" s_square_rows f fd) : FnOk P w K mg base CX0 1 f fd ["words", "many"] (spP PSq) := by
  refine F.ok sc_square_rows (fun vs H Q E h => ?_) (fun cdv A outer s H vs Q E hr h => ?_)
  · obtain ⟨_, _, _, ⟨_, _, _, rfl, _⟩, _⟩ := h
    rfl
  · obtain ⟨G, R, hs, ⟨p, m, rows, rfl, gp, hl, hr1, m1, m2, rfl⟩, q⟩ := h
    refine ⟨_, (pss_cons (ps_if (pt_cmpR (op_neA K hr.units) (pe_callB (call_lenA K) (by rfl) Z.z_len PySem.boot_len (pa_cons (pv 0) pa_nil)) (pe_op op_mulA (pv 1) (pv 1)) (nomark _)) (pss_cons ps_never
  pss_nil) pss_nil)
  (pss_cons (ps_ret (pe_ifExp (pt_cmpR op_gtA (pv 1) pe_int (nomark _)) (pe_lc (own := [("start", 2)]) (g := (gName 2)) rfl sc_square_rows.nd (pi_range3 (by rfl) Z.z_range (pa_cons pe_int (pa_cons (pe_op op_mulA (pv 1) (pv 1)) (pa_cons (pv 1) pa_nil)))) (blkOk_by (by kernel_rfl)) (fun _ _ _ _ _ => (pg_name (i := 2) sc_square_rows.nd rfl (Or.inl rfl))) (fun _ _ _ _ _ => pts_nil) (fun _ _ _ _ _ => (pe_slice (sl_listK K) (pv 0) (po_some (pv 2)) (po_some (pe_op op_addA (pv 2) (pv 1)))))) (pe_lst pa_nil)))
  pss_nil)), ?_⟩
    have st := stab0 G H
    have h0 : SP0 G H 0 G H := Grow.refl hs
    have fl : rows.flatten.length = m * m := by rw [flat_lenM hr1, hl]
    have mm : m * m ≤ 16 * 16 := Nat.mul_le_mul m2 m2
    show tSeq _ _ (Ends.mk _ _ _ _) [some _, some _, none] _
    refine q_if st h0 (et_testV (ev_opV (ev_cbV (ea_consV (ev_var rfl) ea_nilV) (c_lenL st (SqL.of gp))) (ev_opV (ev_var rfl) (ev_var rfl) (v_mul st (.inl ⟨by omega, by omega⟩))) (v_neI st))) (fun H1 p1 k1 h1 => ?_) (fun H1 p1 k1 h1 => q_end ?_)
    · rw [List.length_map, fl, Int.natCast_mul] at p1
      simp at p1
    · refine q_ret h1 (ev_if (c := true) (ka := 0) (kb := 0) (R := IsLN G m fun j => IsSR (rows.getD j [])) st ((et_testV (ev_opV (ev_var rfl) ev_c (v_gt st))).imp fun b e => by rw [e]; exact decide_eq_true (by omega)) (fun _ => ev_lcC0 (h0 := ((m * m : Nat) : Int)) st (fun j => IsSR (rows.getD j [])) (ea_consV ev_c (ea_consV (ev_eq (congrArg V.int (Int.natCast_mul m m).symm) (ev_opV (ev_var rfl) (ev_var rfl) (v_mul st (.inl ⟨by omega, by omega⟩)))) (ea_consV (ev_var rfl) ea_nilV))) (rgC_sq m1 (by omega)) (by omega) (fun j G' hj s' => ?_) (fun _ => rfl)) fun z => by cases z) fun v G' H' s' r => q v G' H' s'.s ?_
      · have e : (0 + ((j : Nat) : Int) * ((m : Nat) : Int)) = ((j * m : Nat) : Int) := by rw [Int.zero_add, Int.natCast_mul]
        rw [e]
        have b1 : (j + 1) * m ≤ m * m := Nat.mul_le_mul_right m hj
        have b2 : (j + 1) * m = j * m + m := Nat.succ_mul j m
        refine (ev_slLN st (ev_var rfl) (SqL.of (s' _ _ gp)) (eo_some (ev_var rfl)) (eo_some (ev_eq (congrArg V.int (Int.natCast_add (j * m) m).symm) (ev_opV (ev_var rfl) (ev_var rfl) (v_add st))))).imp fun v G2 s2 ⟨x, ex, _, gx⟩ => ⟨x, ex, ?_⟩
        rw [gx, cutV_nat (by omega) (by rw [List.length_map, fl]; omega), ← List.map_drop, ← List.map_take, show j * m + m - j * m = m by omega, flat_rows hr1 (by omega)]
      · obtain ⟨x, ys, rfl, _, g, ly, hy⟩ := r
        exact ⟨x, rfl, ys, g, rl_of_get (by omega) fun i row y hi hiy => by
          have : IsSR (rows.getD i []) y G' := hy i y hiy
          rw [List.getD_eq_getElem?_getD, hi] at this
          exact this⟩
abbrev s_table_of_fields : Stmt := top 40
theorem sc_table_of_fields : FnScope ["fields", "at", "many", "joins", "products", "word"] ["fields"] (defScope s_table_of_fields) := ⟨rfl, rfl, rfl, by decide +kernel, rfl, by decide +kernel, by decide +kernel⟩
theorem ok_table_of_fields {Cs : List Addr} {CT : Addr} {f : Addr} {fd : FuncData} (Z : Bi mg) (iT : CT ∈ Cs) (oT : ClsOk K CT) (k_TableScale : MakerK P w K mg base "TableScale" CT (L2.CX P w) 10 ["self", "names", "joins", "products", "never", "still"] 3 ["never", "still"] (fun vs zs => vs ++ zs) (spI (PTbI CT)))
    (c_square_rows : Callee P w K mg base "square_rows" CX0 1 ["words", "many"] [] (spP PSq))
    (F : Fun K "table_of_fields" "table_of_fields" s_table_of_fields f fd) : FnOk P w K mg base CX0 12 f fd ["fields"] (spP (PTof K Cs)) := by
  refine F.ok sc_table_of_fields (fun vs H Q E h => ?_) (fun cdv A outer s H vs Q E hr h => ?_)
  · obtain ⟨_, _, _, ⟨_, _, _, _, _, _, _, rfl, _⟩, _⟩ := h
    rfl
  · obtain ⟨G, R, hs, ⟨p, xs, names, nv, sl, th, jn, rfl, gp, wds, T, rfl⟩, q⟩ := h
    refine ⟨_, (pss_cons (ps_for PassesOwn.never rfl (pi_tupK K (pe_tup (pa_cons pe_int (pa_cons pe_int (pa_cons pe_int pa_nil))))) (pg_name (i := 1) sc_table_of_fields.nd rfl (Or.inl rfl)) (pss_cons (ps_if (PW.pt (pw_or (pt_val (pe_callB (call_isiA K) (by rfl) Z.z_isinstance (by decide +kernel) (pa_cons (pe_ix (ix_any K (hu_of hr)) (pv 0) (pv 1) (fun _ _ => rfl)) (pa_cons (pe_bltn (v := .ty "str") (by rfl) Z.z_str (by decide +kernel) rfl) pa_nil)))) (pw_or1 (pt_val (pe_callB (call_anyA K) (by rfl) Z.z_any (by decide +kernel) (pa_cons (pe_lc (own := [("word", 5)]) (g := (gName 5)) rfl sc_table_of_fields.nd (pi_listK K (pe_ix (ix_any K (hu_of hr)) (pv 0) (pv 1) (fun _ _ => rfl))) (blkOk_by (by kernel_rfl)) (fun _ _ _ _ _ => (pg_name (i := 5) sc_table_of_fields.nd rfl (Or.inl rfl))) (fun _ _ _ _ _ => pts_nil) (fun _ _ _ _ _ => (pe_not (pe_callB (call_isiA K) (by rfl) Z.z_isinstance (by decide +kernel) (pa_cons (pv 5) (pa_cons (pe_bltn (v := .ty "str") (by rfl) Z.z_str (by decide +kernel) rfl) pa_nil)))))) pa_nil)))))) (pss_cons ps_never
  pss_nil) pss_nil)
  pss_nil))
  (pss_cons (ps_if (PW.pt (pw_or (pt_not (pt_val (pe_callB (call_isiA K) (by rfl) Z.z_isinstance (by decide +kernel) (pa_cons (pe_ix (ix_any K (hu_of hr)) (pv 0) pe_int (fun _ _ => rfl)) (pa_cons (pe_bltn (v := .ty "str") (by rfl) Z.z_str (by decide +kernel) rfl) pa_nil))))) (pw_or1 (pt_not (pt_val (pe_callB (call_isiA K) (by rfl) Z.z_isinstance (by decide +kernel) (pa_cons (pe_ix (ix_any K (hu_of hr)) (pv 0) pe_int (fun _ _ => rfl)) (pa_cons (pe_bltn (v := .ty "str") (by rfl) Z.z_str (by decide +kernel) rfl) pa_nil)))))))) (pss_cons ps_never
  pss_nil) pss_nil)
  (pss_cons (ps_set (i := 2) sc_table_of_fields.nd rfl (Or.inl rfl) (pe_callB (call_lenA K) (by rfl) Z.z_len PySem.boot_len (pa_cons (pe_ix (ix_any K (hu_of hr)) (pv 0) pe_int (fun _ _ => rfl)) pa_nil)))
  (pss_cons (ps_par rfl sc_table_of_fields.nd (i := 3) (j := 4) rfl rfl (by decide) rfl rfl (pa_cons (pe_callC c_square_rows (hr.mono (by decide)) pass0 (pa_cons (pe_ix (ix_any K (hu_of hr)) (pv 0) pe_int (fun _ _ => rfl)) (pa_cons (pv 2) pa_nil))) (pa_cons (pe_callC c_square_rows (hr.mono (by decide)) pass0 (pa_cons (pe_ix (ix_any K (hu_of hr)) (pv 0) pe_int (fun _ _ => rfl)) (pa_cons (pv 2) pa_nil))) pa_nil)) rfl)
  (pss_cons (ps_ret (pe_makeKC k_TableScale (hr.mono (by decide)) passL (pa_cons (pe_ix (ix_any K (hu_of hr)) (pv 0) pe_int (fun _ _ => rfl)) (pa_cons (pv 3) (pa_cons (pv 4) pa_nil))) (pk_cons (pe_ix (ix_any K (hu_of hr)) (pv 0) pe_int (fun _ _ => rfl)) (pk_cons (pe_ix (ix_any K (hu_of hr)) (pv 0) pe_int (fun _ _ => rfl)) pk_nil))))
  pss_nil))))), ?_⟩
    have st := stab0 G H
    have h0 : SP0 G H 0 G H := Grow.refl hs
    have l1 := T.l1
    have l2 := T.l2
    obtain ⟨x0, _, rfl, w0, r0⟩ := wds.of_cons
    obtain ⟨x1, _, rfl, w1, r1⟩ := r0.of_cons
    obtain ⟨x2, _, rfl, w2, r2⟩ := r1.of_cons
    obtain ⟨x3, _, rfl, w3, r3⟩ := r2.of_cons
    obtain ⟨x4, _, rfl, w4, r4⟩ := r3.of_cons
    obtain rfl := r4.of_nil
    obtain ⟨pn, ys0, rfl, g0, u0⟩ := w0.of_l
    obtain rfl := w1.of_w
    obtain rfl := w2.of_w
    obtain ⟨pj, ys3, rfl, g3, u3⟩ := w3.of_l
    obtain ⟨pp, ys4, rfl, g4, u4⟩ := w4.of_l
    obtain rfl := u0.strs
    obtain rfl := u3.strs
    obtain rfl := u4.strs
    show tSeq _ _ (Ends.mk _ _ _ _) [some _, none, none, none, none, none] _
    have fld : ∀ {m k : Nat} {z : V} {σ : L2.St} {G' : Hp} {te : TE}, Same G G' → σ[0]? = some (some (.ref p)) → [V.ref pn, .str (names.getD nv ("" : Str)), .str (names.getD sl ("" : Str)), .ref pj, .ref pp][k]? = some z → Ev (SP0 G H) m 0 te σ G' (IsV (.int (k : Nat))) → Ev (SP0 G H) m 0 (tOp (rIxA K) (tVar 0) te) σ G' (IsV z) := fun s' e0 hz ek => ev_opV (ev_var e0) ek (v_ixL st (SqL.of (s' _ _ gp)) (atI_nat hz))
    have row : ∀ {m k : Nat} {q' : Addr} {ws : List Str} {σ : L2.St} {G' : Hp}, Same G G' → ws.length ≤ 1000 → σ[0]? = some (some (.ref p)) → σ[1]? = some (some (.int (k : Nat))) → [V.ref pn, .str (names.getD nv ("" : Str)), .str (names.getD sl ("" : Str)), .ref pj, .ref pp][k]? = some (.ref q') → G q' = some (.lst (ws.map V.str)) → (∀ x : V, wipe ((wipe σ [5]).set 5 (some x)) [5] = wipe σ [5]) → (∀ x : V, ((wipe σ [5]).set 5 (some x))[5]? = some (some x)) → Ev (SP0 G H) m 0 (tCB (rIsi K) (tCons (tOp (rIxA K) (tVar 0) (tVar 1)) (tCons (tC (.ty "str")) tNil))) σ G' (IsV (.bl false)) ∧ Ev (SP0 G H) m 0 (tCB (rAny K) (tCons (tLc (iList K (tOp (rIxA K) (tVar 0) (tVar 1))) (gName 5) tYes (tNotV (tCB (rIsi K) (tCons (tVar 5) (tCons (tC (.ty "str")) tNil)))) [5]) tNil)) σ G' (IsV (.bl false)) := fun {m k q' ws σ G'} s' hl e0 e1 hz gq hw h5 => by
      refine ⟨ev_cbV (ea_consV (fld s' e0 hz (ev_var e1)) (ea_consV ev_c ea_nilV)) (c_isiL st (s' _ _ gq)), ev_cb (RA := RCons (IsNew G' (.lst ((ws.map V.str).map fun _ => V.bl false))) RNil) (ea_cons (ev_lcVL (f := fun _ => .bl false) st (fld s' e0 hz (ev_var e1)) (SqL.of (s' _ _ gq)) (by rw [List.length_map]; omega) hw fun j x G2 hx s2 => ?_) ea_nil) fun vs G2 s2 e => ?_⟩
      · rw [List.getElem?_map] at hx
        obtain ⟨w, _, rfl⟩ : ∃ w, ws[j]? = some w ∧ x = .str w := by
          cases hz2 : ws[j]? with
          | none => rw [hz2] at hx; cases hx
          | some w => rw [hz2] at hx; exact ⟨w, rfl, (Option.some.inj hx).symm⟩
        exact ev_eq (z := .bl false) rfl (ev_notV (ev_cbV (ea_consV (ev_var (h5 _)) (ea_consV ev_c ea_nilV)) (c_isiS st)))
      · obtain ⟨_, _, rfl, ⟨q2, rfl, _, g2⟩, e2⟩ := e
        obtain rfl := (show _ = [] from e2)
        have z : (((ws.map V.str).map fun _ => V.bl false)) = (ws.map fun _ => false).map V.bl := by rw [List.map_map, List.map_map]; rfl
        rw [z] at g2
        have a := c_any (K := K) st (SqL.of g2)
        rw [show ((ws.map fun _ => false).any id) = false from by simp] at a
        exact a
    have lf : ∀ {f : Nat → Nat → Int}, (rowsS names f).flatten.length ≤ 1000 := fun {f} => by
      rw [flat_lenM rowsS_len.2, rowsS_len.1]
      have : names.length * names.length ≤ 16 * 16 := Nat.mul_le_mul l2 l2
      omega
    refine q_forNT (xs := [.int ((0 : Nat) : Int), .int ((3 : Nat) : Int), .int ((4 : Nat) : Int)]) st h0 (ev_tupN st (ea_consV ev_c (ea_consV ev_c (ea_consV ev_c ea_nilV))) (by simp)) (fun j σ' => ∃ y1, σ' = [some (.ref p), y1, none, none, none, none]) ⟨_, rfl⟩ (fun G2 H2 s2 j x σ' J hj hp sJ => ?_) (fun G2 H2 s2 σ' J hp sJ => ?_)
    · obtain ⟨y1, rfl⟩ := hp
      obtain ⟨k, q', ws, rfl, hz, gq, hl⟩ : ∃ (k : Nat) (q' : Addr) (ws : List Str), x = .int (k : Nat) ∧ [V.ref pn, .str (names.getD nv ("" : Str)), .str (names.getD sl ("" : Str)), .ref pj, .ref pp][k]? = some (.ref q') ∧ G q' = some (.lst (ws.map V.str)) ∧ ws.length ≤ 1000 := by
        match j, hj with
        | 0, hj => exact ⟨0, pn, _, (Option.some.inj hj).symm, rfl, g0, by omega⟩
        | 1, hj => exact ⟨3, pj, _, (Option.some.inj hj).symm, rfl, g3, lf⟩
        | 2, hj => exact ⟨4, pp, _, (Option.some.inj hj).symm, rfl, g4, lf⟩
        | _ + 3, hj => simp at hj
      show tSeq _ _ (Ends.mk _ _ _ _) [some (.ref p), some (.int (k : Nat)), none, none, none, none] _
      obtain ⟨r1, r2⟩ := row (m := 0) (σ := [some (.ref p), some (.int (k : Nat)), none, none, none, none]) s2.g hl rfl rfl hz gq (fun _ => rfl) (fun _ => rfl)
      refine q_if st sJ.s (P := fun c => c = false) (et_orF st (et_testV r1 |>.imp fun b e => e) (et_B r2 |>.imp fun b e => e)) (fun H4 p4 k4 h4 => by cases p4) (fun H4 p4 k4 h4 => q_end (q_end ⟨⟨_, rfl⟩, sJ.go k4 h4⟩))
    · obtain ⟨y1, rfl⟩ := hp
      have t2 := s2.g
      refine q_if st sJ.s (P := fun c => c = false) (et_orF st (et_notT (et_B (ev_cbV (ea_consV (fld t2 rfl rfl ev_c) (ea_consV ev_c ea_nilV)) (c_isiS st)))) (et_notT (et_B (ev_cbV (ea_consV (fld t2 rfl rfl ev_c) (ea_consV ev_c ea_nilV)) (c_isiS st))))) (fun H5 p5 k5 h5 => by cases p5) (fun H5 p5 k5 h5 => q_end ?_)
      refine q_setV st h5 (x := .int (names.length : Nat)) (ev_eq (by rw [List.length_map]) (ev_cbV (ea_consV (fld (k := 0) t2 rfl rfl ev_c) ea_nilV) (c_lenL st (SqL.of (t2 _ _ g0))))) fun H6 k6 h6 => ?_
      refine q_par h6 (RA := RCons (IsTabS (rowsS names jn)) (RCons (IsTabS (rowsS names th)) RNil)) (ea_cons (ev_callV (R := IsTabS (rowsS names jn)) (ws := [.ref pj, .int (names.length : Nat)]) st (ea_consV (fld (k := 3) t2 rfl rfl ev_c) (ea_consV (ev_var rfl) ea_nilV)) fun G' s' => ⟨pj, _, _, rfl, s' _ _ (t2 _ _ g3), rowsS_len.1, rowsS_len.2, l1, l2, rfl⟩) (ea_cons (ev_callV (R := IsTabS (rowsS names th)) (ws := [.ref pp, .int (names.length : Nat)]) st (ea_consV (fld (k := 4) t2 rfl rfl ev_c) (ea_consV (ev_var rfl) ea_nilV)) fun G' s' => ⟨pp, _, _, rfl, s' _ _ (t2 _ _ g4), rowsS_len.1, rowsS_len.2, l1, l2, rfl⟩) ea_nil)) fun vs G7 H7 s7 rA => ?_
      obtain ⟨_, _, rfl, ⟨qj, rfl, tj⟩, _, _, rfl, ⟨qp, rfl, tp⟩, e⟩ := rA
      obtain rfl := (show _ = [] from e)
      have t7 := t2.trans s7.g
      refine ⟨_, _, rfl, q_ret s7.s (ev_mkTabB st iT oT T ((fld (k := 0) t7 rfl rfl ev_c).imp fun v G' s' e => ⟨pn, e, s' _ _ (t7 _ _ g0)⟩) ((ev_var rfl).imp fun v G' s' e => ⟨qj, e, tj.mono s'⟩) ((ev_var rfl).imp fun v G' s' e => ⟨qp, e, tp.mono s'⟩) (fld (k := 1) t7 rfl rfl ev_c) (fld (k := 2) t7 rfl rfl ev_c)) fun v G' H' s' r => q v G' H' s'.s r⟩
abbrev s_scale_of_list : Stmt := top 39
theorem sc_scale_of_list : FnScope ["row", "head", "fields", "field"] ["row"] (defScope s_scale_of_list) := ⟨rfl, rfl, rfl, by decide +kernel, rfl, by decide +kernel, by decide +kernel⟩
theorem ok_scale_of_list {Cs : List Addr} {f : Addr} {fd : FuncData} (Z : Bi mg) (c_table_of_fields : Callee P w K mg base "table_of_fields" CX0 12 ["fields"] [] (spP (PTof K Cs)))
    (F : Fun K "scale_of_list" "scale_of_list" s_scale_of_list f fd) : FnOk P w K mg base CX0 13 f fd ["row"] (spP (PSolT K Cs)) := by
  refine F.ok sc_scale_of_list (fun vs H Q E h => ?_) (fun cdv A outer s H vs Q E hr h => ?_)
  · obtain ⟨_, _, _, ⟨_, _, _, _, _, _, rfl, _⟩, _⟩ := h
    rfl
  · obtain ⟨G, R, hs, ⟨v, names, nv, sl, th, jn, rfl, wv, T, rfl⟩, q⟩ := h
    refine ⟨_, (pss_cons (ps_if (PW.pt (pw_or (pt_val (pe_callB (call_isiA K) (by rfl) Z.z_isinstance (by decide +kernel) (pa_cons (pv 0) (pa_cons (pe_bltn (v := .ty "str") (by rfl) Z.z_str (by decide +kernel) rfl) pa_nil)))) (pw_or1 (pt_cmpR op_ltA (pe_callB (call_lenA K) (by rfl) Z.z_len PySem.boot_len (pa_cons (pv 0) pa_nil)) pe_int (nomark _))))) (pss_cons ps_never
  pss_nil) pss_nil)
  (pss_cons (ps_par rfl sc_scale_of_list.nd (i := 1) (j := 2) rfl rfl (by decide) rfl rfl (pa_cons (pe_ix (ix_any K (hu_of hr)) (pv 0) pe_int (fun _ _ => rfl)) (pa_cons (pe_slice (sl_listK K) (pv 0) (po_some pe_int) po_none) pa_nil)) rfl)
  (pss_cons (ps_if (PW.pt (pw_and (pt_cmpR (op_eqA K hr.units) (pv 1) pe_str (nomark _)) (pw_and1 (pt_cmpR (op_eqA K hr.units) (pe_callB (call_lenA K) (by rfl) Z.z_len PySem.boot_len (pa_cons (pv 2) pa_nil)) pe_int (nomark _))))) (pss_cons ps_never
  pss_nil) pss_nil)
  (pss_cons (ps_if (PW.pt (pw_and (pt_cmpR (op_eqA K hr.units) (pv 1) pe_str (nomark _)) (pw_and1 (pt_cmpR (op_eqA K hr.units) (pe_callB (call_lenA K) (by rfl) Z.z_len PySem.boot_len (pa_cons (pv 2) pa_nil)) pe_int (nomark _))))) (pss_cons ps_never
  pss_nil) pss_nil)
  (pss_cons (ps_if (PW.pt (pw_and (pt_cmpR (op_eqA K hr.units) (pv 1) pe_str (nomark _)) (pw_and1 (pt_cmpR (op_eqA K hr.units) (pe_callB (call_lenA K) (by rfl) Z.z_len PySem.boot_len (pa_cons (pv 2) pa_nil)) pe_int (nomark _))))) (pss_cons ps_never
  pss_nil) pss_nil)
  (pss_cons (ps_if (PW.pt (pw_and (pt_cmpR (op_eqA K hr.units) (pv 1) pe_str (nomark _)) (pw_and1 (pt_cmpR (op_eqA K hr.units) (pe_callB (call_lenA K) (by rfl) Z.z_len PySem.boot_len (pa_cons (pv 2) pa_nil)) pe_int (nomark _))))) (pss_cons (ps_ret (pe_callC c_table_of_fields (hr.mono (by decide)) pass0 (pa_cons (pv 2) pa_nil)))
  pss_nil) pss_nil)
  (pss_cons ps_never
  (pss_cons (ps_if (PW.pt (pw_and (pt_cmpR (op_eqA K hr.units) (pv 1) pe_str (nomark _)) (pw_and1 (pt_cmpR (op_eqA K hr.units) (pe_callB (call_lenA K) (by rfl) Z.z_len PySem.boot_len (pa_cons (pv 2) pa_nil)) pe_int (nomark _))))) (pss_cons ps_never
  pss_nil) pss_nil)
  (pss_cons (ps_if (PW.pt (pw_and (pt_cmpR (op_eqA K hr.units) (pv 1) pe_str (nomark _)) (pw_and1 (pt_cmpR (op_eqA K hr.units) (pe_callB (call_lenA K) (by rfl) Z.z_len PySem.boot_len (pa_cons (pv 2) pa_nil)) pe_int (nomark _))))) (pss_cons ps_never
  pss_nil) pss_nil)
  (pss_cons (ps_if (PW.pt (pw_and (pt_cmpR (op_eqA K hr.units) (pv 1) pe_str (nomark _)) (pw_and1 (pt_cmpR (op_eqA K hr.units) (pe_callB (call_lenA K) (by rfl) Z.z_len PySem.boot_len (pa_cons (pv 2) pa_nil)) pe_int (nomark _))))) (pss_cons ps_never
  pss_nil) pss_nil)
  (pss_cons (ps_if (PW.pt (pw_and (pt_cmpR (op_eqA K hr.units) (pv 1) pe_str (nomark _)) (pw_and1 (pt_cmpR (op_eqA K hr.units) (pe_callB (call_lenA K) (by rfl) Z.z_len PySem.boot_len (pa_cons (pv 2) pa_nil)) pe_int (nomark _))))) (pss_cons ps_never
  pss_nil) pss_nil)
  (pss_cons ps_never
  pss_nil)))))))))))), ?_⟩
    have st := stab0 G H
    have h0 : SP0 G H 0 G H := Grow.refl hs
    obtain ⟨p, xs, rfl, gp, wds⟩ := wv.of_l
    obtain ⟨x0, r0, rfl, w0, wr⟩ := wds.of_cons
    obtain rfl := w0.of_w
    have lr : r0.length = 5 := wr.len
    show tSeq _ _ (Ends.mk _ _ _ _) [some _, none, none, none] _
    refine q_if st h0 (P := fun c => c = false) (et_orF st (et_B (ev_cbV (ea_consV (ev_var rfl) (ea_consV ev_c ea_nilV)) (c_isiX st (SqL.of gp)))) ((et_testV (ev_opV (ev_cbV (ea_consV (ev_var rfl) ea_nilV) (c_lenL st (SqL.of gp))) ev_c (v_lt st))).imp fun b e => by rw [e, List.length_cons, lr]; rfl)) (fun H1 p1 k1 h1 => by cases p1) (fun H1 p1 k1 h1 => q_end ?_)
    refine q_par h1 (RA := RCons (IsV (.str ("table" : Str))) (RCons (IsNew G (.lst r0)) RNil)) (ea_cons (ev_opV (ev_var rfl) ev_c (v_ixL st (SqL.of gp) (atI_nat (j := 0) rfl))) (ea_cons ((ev_slLN st (ev_var rfl) (SqL.of gp) (eo_some ev_c) eo_none).imp fun v G' s' e => by rw [cutV_1] at e; exact e) ea_nil)) fun vs G2 H2 s2 rA => ?_
    obtain ⟨_, _, rfl, e0, _, _, rfl, ⟨pf, rfl, _, gf⟩, e⟩ := rA
    obtain rfl := (show _ = _ from e0)
    obtain rfl := (show _ = [] from e)
    refine ⟨_, _, rfl, ?_⟩
    have no : ∀ {m : Nat} {s2 : Str} {tt : TT} {σ : L2.St} {k : Nat} {G' : Hp}, ¬ ("table" : Str) = s2 → σ[1]? = some (some (.str ("table" : Str))) → EvT (SP0 G H) m (0 + 0 + k) (tAnd (tTest (tOp (rEqA K) (tVar 1) (tC (.str s2)))) tt) σ G' (fun c => c = false) := fun hne e => (et_and (a := false) (b := false) st ((et_testV (ev_opV (ev_var e) ev_c (v_eqS st))).imp fun b e => by rw [e]; exact decide_eq_false hne) fun z => by cases z).imp fun b e => e
    refine q_if st s2.s (no (k := 0) (by decide +kernel) rfl) (fun H3 p3 k3 h3 => by cases p3) (fun H3 p3 k3 h3 => q_end ?_)
    refine q_if st h3 (no (k := 0) (by decide +kernel) rfl) (fun H4 p4 k4 h4 => by cases p4) (fun H4 p4 k4 h4 => q_end ?_)
    refine q_if st h4 (no (k := 0) (by decide +kernel) rfl) (fun H5 p5 k5 h5 => by cases p5) (fun H5 p5 k5 h5 => q_end ?_)
    refine q_if st h5 (P := fun c => c = true) ((et_and (a := true) (b := true) st ((et_testV (ev_opV (ev_var rfl) ev_c (v_eqS st))).imp fun b e => by rw [e]; exact decide_eq_true rfl) fun _ => (et_testV (ev_opV (ev_cbV (ea_consV (ev_var rfl) ea_nilV) (c_lenL st (SqL.of gf))) ev_c (v_eqI st))).imp fun b e => by rw [e, lr]; rfl).imp fun b e => e) (fun H6 p6 k6 h6 => ?_) (fun H6 p6 k6 h6 => by cases p6)
    exact q_ret h6 (ev_callV (R := fun v G' => ∃ x, v = .ref x ∧ ScD K Cs (tabSD names nv sl th jn) x G') (ws := [.ref pf]) st (ea_consV (ev_var rfl) ea_nilV) fun G' s' => ⟨pf, r0, names, nv, sl, th, jn, rfl, s' _ _ gf, wr.mono (s2.g.trans s'), T, rfl⟩) fun v G' H' s' r => q v G' H' s'.s r
abbrev s_read_scale : Stmt := top 37
theorem sc_read_scale : FnScope ["text", "rows", "scale"] ["text"] (defScope s_read_scale) := ⟨rfl, rfl, rfl, by decide +kernel, rfl, by decide +kernel, by decide +kernel⟩
theorem ok_read_scale {Cs : List Addr} {CB : Addr} {f : Addr} {fd : FuncData} (Z : Bi mg) (c_nested_words : Callee P w K mg base "nested_words" (L2.CX P w) 1 ["text"] [] (sp_nw CB)) (c_scale_of_list : Callee P w K mg base "scale_of_list" CX0 13 ["row"] [] (spP (PSolT K Cs)))
    (F : Fun K "read_scale" "read_scale" s_read_scale f fd) : FnOk P w K mg base CX0 14 f fd ["text"] (spP (PRdT K Cs)) := by
  refine F.ok sc_read_scale (fun vs H Q E h => ?_) (fun cdv A outer s H vs Q E hr h => ?_)
  · obtain ⟨_, _, _, ⟨_, _, _, _, _, rfl, _⟩, _⟩ := h
    rfl
  · obtain ⟨G, R, hs, ⟨names, nv, sl, th, jn, rfl, T, rfl⟩, q⟩ := h
    refine ⟨_, (pss_cons (ps_set (i := 1) sc_read_scale.nd rfl (Or.inl rfl) (pe_callC c_nested_words (hr.mono (by decide)) passL (pa_cons (pv 0) pa_nil)))
  (pss_cons (ps_if (PW.pt (pw_or (pt_cmpR (op_neA K hr.units) (pe_callB (call_lenA K) (by rfl) Z.z_len PySem.boot_len (pa_cons (pv 1) pa_nil)) pe_int (nomark _)) (pw_or1 (pt_val (pe_callB (call_isiA K) (by rfl) Z.z_isinstance (by decide +kernel) (pa_cons (pe_ix (ix_any K (hu_of hr)) (pv 1) pe_int (fun _ _ => rfl)) (pa_cons (pe_bltn (v := .ty "str") (by rfl) Z.z_str (by decide +kernel) rfl) pa_nil))))))) (pss_cons ps_never
  pss_nil) pss_nil)
  (pss_cons (ps_set (i := 2) sc_read_scale.nd rfl (Or.inl rfl) (pe_callC c_scale_of_list (hr.mono (by decide)) pass0 (pa_cons (pe_ix (ix_any K (hu_of hr)) (pv 1) pe_int (fun _ _ => rfl)) pa_nil)))
  (pss_cons (ps_if (pt_cmpR (op_neA K hr.units) (pe_fldK K (pv 2)) (pv 0) (nomark _)) (pss_cons ps_never
  pss_nil) pss_nil)
  (pss_cons (ps_ret (pv 2))
  pss_nil))))), ?_⟩
    have st := stab0 G H
    have h0 : SP0 G H 0 G H := Grow.refl hs
    have o := T.sd
    show tSeq _ _ (Ends.mk _ _ _ _) [some _, none, none] _
    refine q_set h0 (ev_nw st (ea_consV (ev_var rfl) ea_nilV) o.2 (nw_tab T)) fun v1 G1 H1 s1 r1 => ?_
    obtain ⟨p1, xs1, rfl, g1, w1⟩ := WdAt.of_l r1
    obtain ⟨x1, _, rfl, wx, wr⟩ := w1.of_cons
    obtain rfl := wr.of_nil
    obtain ⟨p2, xs2, rfl, g2, w2⟩ := wx.of_l
    have ix0 : ∀ {m : Nat} {σ : L2.St} {G' : Hp}, Same G1 G' → σ[1]? = some (some (.ref p1)) → Ev (SP0 G H) m 0 (tOp (rIxA K) (tVar 1) (tC (.int 0))) σ G' (IsV (.ref p2)) := fun s' e => ev_opV (ev_var e) ev_c (v_ixL st (SqL.of (s' _ _ g1)) (atI_nat (j := 0) rfl))
    refine q_if st s1.s (P := fun c => c = false) (et_orF st ((et_testV (ev_opV (ev_cbV (ea_consV (ev_var rfl) ea_nilV) (c_lenL st (SqL.of g1))) ev_c (v_neI st))).imp fun b e => by rw [e]; rfl) (et_B (ev_cbV (ea_consV (ix0 (Same.refl _) rfl) (ea_consV ev_c ea_nilV)) (c_isiX st (SqL.of g2))))) (fun H2 p2 k2 h2 => by cases p2) (fun H2 p2' k2 h2 => q_end ?_)
    refine q_set h2 (ev_callV (R := fun v G' => ∃ x, v = .ref x ∧ ScD K Cs (tabSD names nv sl th jn) x G') (ws := [.ref p2]) st (ea_consV (ix0 (Same.refl _) rfl) ea_nilV) fun G' s' => ⟨_, names, nv, sl, th, jn, rfl, .l (s' _ _ g2) (w2.mono s'), T, rfl⟩) fun v3 G3 H3 s3 r3 => ?_
    obtain ⟨x, rfl, sx⟩ := r3
    refine q_if st s3.s (et_neFS st (ev_sF st sx (ev_var rfl)).2.2.2.1 (ev_var rfl) rfl) (fun H4 p4 k4 h4 => by cases p4) (fun H4 p4 k4 h4 => q_end ?_)
    exact q_ret h4 (ev_var rfl) fun v G' H' s' r => q v G' H' s'.s ⟨x, r, sx.mono s'.g⟩
def PDeed (K : PySem.W.Frag) (Cs : List Addr) (CW : Addr) : List V → Hp → HR → Prop := fun vs G R => ∃ (a b : Addr) (d e : SD) (p q k : Nat), vs = [.ref a, .ref b, .int (k : Nat)] ∧ k < 4 ∧ WtAt K Cs CW d p a G ∧ WtAt K Cs CW e q b G ∧ SdOk d ∧ d.label ≠ e.label ∧ R = IsBl [.str ("mixed" : Str), .non]
abbrev s__law_deed : Stmt := top 51
theorem sc__law_deed : FnScope ["_law_first", "_law_second", "_law_deed_here", "_law_found", "_law_said", "e", "_law_plain"] ["_law_first", "_law_second", "_law_deed_here"] (defScope s__law_deed) := ⟨rfl, rfl, rfl, by decide +kernel, rfl, by decide +kernel, by decide +kernel⟩
theorem ok_deed11 {Cs : List Addr} {a_Worth CM a_DeedscaleError a_BadScale : Addr} {f : Addr} {fd : FuncData} (Z : Bi mg) (w_first : PySem.W.selfFirst K a_Worth = true) (m_MixedScales : mg "MixedScales" = some (.ref CM)) (te : PySem.W.exmOne K (.ref CM) (.ref CM) = some true) (x_MixedScales : ExcC K CM)
    (g_DeedscaleError : mg "DeedscaleError" = some (.ref a_DeedscaleError)) (g_BadScale : mg "BadScale" = some (.ref a_BadScale)) (kD : PySem.W.kitOne K (.ref CM) (.ref a_DeedscaleError) = some true) (kV : PySem.W.kitOne K (.ref CM) (.type "ValueError") = some true) (kB : PySem.W.kitOne K (.ref CM) (.ref a_BadScale) = some false)
    (c_wt___mul__ : Method P w K mg base a_Worth "__mul__" (L2.CX P w) 4 ["self", "other"] [] (sp_wop K Cs a_Worth CM (rMulW K Cs a_Worth))) (c_wt___or__ : Method P w K mg base a_Worth "__or__" (L2.CX P w) 4 ["self", "other"] [] (sp_wop K Cs a_Worth CM (rOrW K Cs a_Worth)))
    (c_wt___le__ : Method P w K mg base a_Worth "__le__" (L2.CX P w) 2 ["self", "other"] [] (sp_wop K Cs a_Worth CM rLeW)) (c_wt___lt__ : Method P w K mg base a_Worth "__lt__" (L2.CX P w) 2 ["self", "other"] [] (sp_wop K Cs a_Worth CM rLtW))
    (F : Fun K "_law_deed" "_law_deed" s__law_deed f fd) : FnOk P w K mg base CX0 6 f fd ["_law_first", "_law_second", "_law_deed_here"] (spP (PDeed K Cs a_Worth)) := by
  refine F.ok sc__law_deed (fun vs H Q E h => ?_) (fun cdv A outer s H vs Q E hr h => ?_)
  · obtain ⟨_, _, _, ⟨_, _, _, _, _, _, _, rfl, _⟩, _⟩ := h
    rfl
  · obtain ⟨G, R, hs, ⟨a, b, d, e, p, q', k, rfl, hk, ha, hb, o, hl, rfl⟩, q⟩ := h
    refine ⟨_, (pss_cons (ps_set (i := 3) sc__law_deed.nd rfl (Or.inl rfl) pe_non)
  (pss_cons (ps_set (i := 4) sc__law_deed.nd rfl (Or.inl rfl) pe_str)
  (pss_cons (ps_try_as (i := 5) (Wout := fun _ _ _ _ => False) rfl rfl sc__law_deed.nd rfl rfl ⟨rfl, by decide, Or.inl m_MixedScales⟩ takes0
    (fun W pn xe tk _ => (pss_cons (ps_if (pt_cmpR (op_eqA K hr.units) (pv 2) pe_int (nomark _)) (pss_cons (ps_set (i := 3) sc__law_deed.nd rfl (Or.inl rfl) (pe_binS c_wt___mul__ rfl w_first (hr.mono (by decide)) (fun σ => passAt tk σ) (pv 0) (pv 1)))
  pss_nil) pss_nil)
  (pss_cons (ps_if (pt_cmpR (op_eqA K hr.units) (pv 2) pe_int (nomark _)) (pss_cons (ps_set (i := 3) sc__law_deed.nd rfl (Or.inl rfl) (pe_binS c_wt___or__ rfl w_first (hr.mono (by decide)) (fun σ => passAt tk σ) (pv 0) (pv 1)))
  pss_nil) pss_nil)
  (pss_cons (ps_if (pt_cmpR (op_eqA K hr.units) (pv 2) pe_int (nomark _)) (pss_cons (ps_set (i := 3) sc__law_deed.nd rfl (Or.inl rfl) (pe_cmpS c_wt___le__ rfl (hr.mono (by decide)) (fun σ => passAt tk σ) (pv 0) (pv 1) (nomark _)))
  pss_nil) pss_nil)
  (pss_cons (ps_if (pt_cmpR (op_eqA K hr.units) (pv 2) pe_int (nomark _)) (pss_cons (ps_set (i := 3) sc__law_deed.nd rfl (Or.inl rfl) (pe_cmpS c_wt___lt__ rfl (hr.mono (by decide)) (fun σ => passAt tk σ) (pv 0) (pv 1) (nomark _)))
  pss_nil) pss_nil)
  pss_nil)))))
    (fun a oe cls d pn hz hf => (pss_cons (ps_set (i := 6) sc__law_deed.nd rfl (Or.inl rfl) (pe_and (pe_callB (call_isE0 rfl x_MixedScales hz hf) (by rfl) Z.z_isinstance (by decide +kernel) (pa_cons (pv 5) (pa_cons (pe_glob (v := .ref a_DeedscaleError) rfl g_DeedscaleError rfl) pa_nil))) (pe_one (pe_callB (call_isE0 rfl x_MixedScales hz hf) (by rfl) Z.z_isinstance (by decide +kernel) (pa_cons (pv 5) (pa_cons (pe_bltn (v := .ty "ValueError") (by rfl) Z.z_ValueError (by decide +kernel) rfl) pa_nil))))))
  (pss_cons (ps_set (i := 4) sc__law_deed.nd rfl (Or.inl rfl) (pe_ifExp (PW.pt (pw_and (pt_val (pv 6)) (pw_and1 (pt_not (pt_val (pe_callB (call_isE0 rfl x_MixedScales hz hf) (by rfl) Z.z_isinstance (by decide +kernel) (pa_cons (pv 5) (pa_cons (pe_glob (v := .ref a_BadScale) rfl g_BadScale rfl) pa_nil)))))))) pe_str pe_str))
  pss_nil))))
  (pss_cons (ps_ret (pe_lst (pa_cons (pv 4) (pa_cons (pv 3) pa_nil))))
  pss_nil)))), ?_⟩
    have st := stab0 G H
    have h0 : SP0 G H 0 G H := Grow.refl hs
    show tSeq _ _ (Ends.mk _ _ _ _) [some _, some _, some _, none, none, none, none] _
    refine q_setV st h0 ev_c fun H1 k1 h1 => ?_
    refine q_setV st h1 ev_c fun H2 k2 h2 => ?_
    have hk4 : k = 0 ∨ k = 1 ∨ k = 2 ∨ k = 3 := by omega
    have go : ∀ {i : Nat} {H'}, (SP0 G H).s 0 G H' → i ≠ k → EvT (SP0 G H) 0 0 (tTest (tOp (rEqA K) (tVar 2) (tC (.int (i : Nat))))) [some (.ref a), some (.ref b), some (.int (k : Nat)), some .non, some (.str ("" : Str)), none, none] G (fun c => c = false) := fun {i H'} h' hi => (et_testV (ev_opV (ev_var rfl) ev_c (v_eqI st))).imp fun b e => by
      rw [e]
      exact decide_eq_false fun z => hi (Int.ofNat.inj z).symm
    have hit : EvT (SP0 G H) 0 0 (tTest (tOp (rEqA K) (tVar 2) (tC (.int (k : Nat))))) [some (.ref a), some (.ref b), some (.int (k : Nat)), some .non, some (.str ("" : Str)), none, none] G (fun c => c = true) := (et_testV (ev_opV (ev_var rfl) ev_c (v_eqI st))).imp fun b e => by
      rw [e]
      exact decide_eq_true rfl
    rcases hk4 with rfl | rfl | rfl | rfl
    · refine q_if st h2 hit (fun H3 p3 k3 h3 => run_mixO st h3 (ev_var rfl) (ev_var rfl) ha hb o hl fun H' h' => ?_) (fun H3 p3 k3 h3 => by cases p3)
      refine ⟨true, te, fun _ be _ => ?_, fun z => by cases z⟩
      show tSeq _ _ (Ends.mk _ _ _ _) [some (.ref a), some (.ref b), some (.int (0 : Nat)), some .non, some (.str ("" : Str)), some (.ref be), none] _
      refine q_setV st h' (x := .bl true) (ev_andV (a := true) (b := true) st (ev_cbV (ea_consV (ev_var rfl) (ea_consV ev_c ea_nilV)) (c_isE st (fun _ r => r) kD)) fun _ => ev_cbV (ea_consV (ev_var rfl) (ea_consV ev_c ea_nilV)) (c_isE st (fun _ r => r) kV)) fun H5 k5 h5 => ?_
      refine q_setV st h5 (x := .str ("mixed" : Str)) (ev_eq (y := if (true && !false) = true then V.str ("mixed" : Str) else .str ("class" : Str)) rfl (ev_ifV st (et_and st (et_B (ev_var rfl)) fun _ => et_not (et_B (ev_cbV (ea_consV (ev_var rfl) (ea_consV ev_c ea_nilV)) (c_isE st (fun _ r => r) kB)))) (fun _ => ev_c) fun _ => ev_c)) fun H6 k6 h6 => q_end ?_
      show tSeq _ _ (Ends.mk _ _ _ _) [some (.ref a), some (.ref b), some (.int (0 : Nat)), some .non, some (.str ("mixed" : Str)), none, some (.bl true)] _
      refine q_ret h6 (ev_lstN st (ea_consV (ev_var rfl) (ea_consV (ev_var rfl) ea_nilV)) (by simp)) fun v G' H' s' r => q v G' H' s'.s ?_
      obtain ⟨pp, rfl, _, gp⟩ := r
      exact ⟨pp, rfl, gp⟩
    · refine q_if st h2 (go (i := 0) h2 (by decide)) (fun H3 p3 k3 h3 => by cases p3) (fun H3 p3 k3 h3 => q_end ?_)
      refine q_if st h3 hit (fun H4 p4 k4 h4 => run_mixO st h4 (ev_var rfl) (ev_var rfl) ha hb o hl fun H' h' => ?_) (fun H4 p4 k4 h4 => by cases p4)
      refine ⟨true, te, fun _ be _ => ?_, fun z => by cases z⟩
      show tSeq _ _ (Ends.mk _ _ _ _) [some (.ref a), some (.ref b), some (.int (1 : Nat)), some .non, some (.str ("" : Str)), some (.ref be), none] _
      refine q_setV st h' (x := .bl true) (ev_andV (a := true) (b := true) st (ev_cbV (ea_consV (ev_var rfl) (ea_consV ev_c ea_nilV)) (c_isE st (fun _ r => r) kD)) fun _ => ev_cbV (ea_consV (ev_var rfl) (ea_consV ev_c ea_nilV)) (c_isE st (fun _ r => r) kV)) fun H5 k5 h5 => ?_
      refine q_setV st h5 (x := .str ("mixed" : Str)) (ev_eq (y := if (true && !false) = true then V.str ("mixed" : Str) else .str ("class" : Str)) rfl (ev_ifV st (et_and st (et_B (ev_var rfl)) fun _ => et_not (et_B (ev_cbV (ea_consV (ev_var rfl) (ea_consV ev_c ea_nilV)) (c_isE st (fun _ r => r) kB)))) (fun _ => ev_c) fun _ => ev_c)) fun H6 k6 h6 => q_end ?_
      show tSeq _ _ (Ends.mk _ _ _ _) [some (.ref a), some (.ref b), some (.int (1 : Nat)), some .non, some (.str ("mixed" : Str)), none, some (.bl true)] _
      refine q_ret h6 (ev_lstN st (ea_consV (ev_var rfl) (ea_consV (ev_var rfl) ea_nilV)) (by simp)) fun v G' H' s' r => q v G' H' s'.s ?_
      obtain ⟨pp, rfl, _, gp⟩ := r
      exact ⟨pp, rfl, gp⟩
    · refine q_if st h2 (go (i := 0) h2 (by decide)) (fun H3 p3 k3 h3 => by cases p3) (fun H3 p3 k3 h3 => q_end ?_)
      refine q_if st h3 (go (i := 1) h2 (by decide)) (fun H4 p4 k4 h4 => by cases p4) (fun H4 p4 k4 h4 => q_end ?_)
      refine q_if st h4 hit (fun H7 p7 k7 h7 => run_mixO st h7 (ev_var rfl) (ev_var rfl) ha hb o hl fun H' h' => ?_) (fun H7 p7 k7 h7 => by cases p7)
      refine ⟨true, te, fun _ be _ => ?_, fun z => by cases z⟩
      show tSeq _ _ (Ends.mk _ _ _ _) [some (.ref a), some (.ref b), some (.int (2 : Nat)), some .non, some (.str ("" : Str)), some (.ref be), none] _
      refine q_setV st h' (x := .bl true) (ev_andV (a := true) (b := true) st (ev_cbV (ea_consV (ev_var rfl) (ea_consV ev_c ea_nilV)) (c_isE st (fun _ r => r) kD)) fun _ => ev_cbV (ea_consV (ev_var rfl) (ea_consV ev_c ea_nilV)) (c_isE st (fun _ r => r) kV)) fun H5 k5 h5 => ?_
      refine q_setV st h5 (x := .str ("mixed" : Str)) (ev_eq (y := if (true && !false) = true then V.str ("mixed" : Str) else .str ("class" : Str)) rfl (ev_ifV st (et_and st (et_B (ev_var rfl)) fun _ => et_not (et_B (ev_cbV (ea_consV (ev_var rfl) (ea_consV ev_c ea_nilV)) (c_isE st (fun _ r => r) kB)))) (fun _ => ev_c) fun _ => ev_c)) fun H6 k6 h6 => q_end ?_
      show tSeq _ _ (Ends.mk _ _ _ _) [some (.ref a), some (.ref b), some (.int (2 : Nat)), some .non, some (.str ("mixed" : Str)), none, some (.bl true)] _
      refine q_ret h6 (ev_lstN st (ea_consV (ev_var rfl) (ea_consV (ev_var rfl) ea_nilV)) (by simp)) fun v G' H' s' r => q v G' H' s'.s ?_
      obtain ⟨pp, rfl, _, gp⟩ := r
      exact ⟨pp, rfl, gp⟩
    · refine q_if st h2 (go (i := 0) h2 (by decide)) (fun H3 p3 k3 h3 => by cases p3) (fun H3 p3 k3 h3 => q_end ?_)
      refine q_if st h3 (go (i := 1) h2 (by decide)) (fun H4 p4 k4 h4 => by cases p4) (fun H4 p4 k4 h4 => q_end ?_)
      refine q_if st h4 (go (i := 2) h2 (by decide)) (fun H7 p7 k7 h7 => by cases p7) (fun H7 p7 k7 h7 => q_end ?_)
      refine q_if st h7 hit (fun H8 p8 k8 h8 => run_mixO st h8 (ev_var rfl) (ev_var rfl) ha hb o hl fun H' h' => ?_) (fun H8 p8 k8 h8 => by cases p8)
      refine ⟨true, te, fun _ be _ => ?_, fun z => by cases z⟩
      show tSeq _ _ (Ends.mk _ _ _ _) [some (.ref a), some (.ref b), some (.int (3 : Nat)), some .non, some (.str ("" : Str)), some (.ref be), none] _
      refine q_setV st h' (x := .bl true) (ev_andV (a := true) (b := true) st (ev_cbV (ea_consV (ev_var rfl) (ea_consV ev_c ea_nilV)) (c_isE st (fun _ r => r) kD)) fun _ => ev_cbV (ea_consV (ev_var rfl) (ea_consV ev_c ea_nilV)) (c_isE st (fun _ r => r) kV)) fun H5 k5 h5 => ?_
      refine q_setV st h5 (x := .str ("mixed" : Str)) (ev_eq (y := if (true && !false) = true then V.str ("mixed" : Str) else .str ("class" : Str)) rfl (ev_ifV st (et_and st (et_B (ev_var rfl)) fun _ => et_not (et_B (ev_cbV (ea_consV (ev_var rfl) (ea_consV ev_c ea_nilV)) (c_isE st (fun _ r => r) kB)))) (fun _ => ev_c) fun _ => ev_c)) fun H6 k6 h6 => q_end ?_
      show tSeq _ _ (Ends.mk _ _ _ _) [some (.ref a), some (.ref b), some (.int (3 : Nat)), some .non, some (.str ("mixed" : Str)), none, some (.bl true)] _
      refine q_ret h6 (ev_lstN st (ea_consV (ev_var rfl) (ea_consV (ev_var rfl) ea_nilV)) (by simp)) fun v G' H' s' r => q v G' H' s'.s ?_
      obtain ⟨pp, rfl, _, gp⟩ := r
      exact ⟨pp, rfl, gp⟩
def PIs (K : PySem.W.Frag) (Cs : List Addr) (CW : Addr) : List V → Hp → HR → Prop := fun vs G R => ∃ (t a : Addr) (names : List Str) (nv sl : Nat) (th jn : Nat → Nat → Int) (d : SD) (p : Nat), vs = [.ref a, .ref t, .int (p : Nat)] ∧ TbAt K Cs names nv sl th jn t G ∧ WtAt K Cs CW d p a G ∧ d.label = (tabSD names nv sl th jn).label ∧ d.names = names ∧ R = IsV (.bl true)
abbrev s__law_is : Stmt := top 52
theorem sc__law_is : FnScope ["_law_found", "_law_tables_here", "_law_place", "_law_name"] ["_law_found", "_law_tables_here", "_law_place"] (defScope s__law_is) := ⟨rfl, rfl, rfl, by decide +kernel, rfl, by decide +kernel, by decide +kernel⟩
theorem ok_is11 {Cs : List Addr} {a_Worth : Addr} {f : Addr} {fd : FuncData} (Z : Bi mg) (hW : WtC K a_Worth) (W_ins : C8.InsC K a_Worth) (g_Worth : mg "Worth" = some (.ref a_Worth)) (c_wt___str__ : Method P w K mg base a_Worth "__str__" CX0 1 ["self"] [] (spP (PStrW K Cs a_Worth)))
    (F : Fun K "_law_is" "_law_is" s__law_is f fd) : FnOk P w K mg base CX0 6 f fd ["_law_found", "_law_tables_here", "_law_place"] (spP (PIs K Cs a_Worth)) := by
  refine F.ok sc__law_is (fun vs H Q E h => ?_) (fun cdv A outer s H vs Q E hr h => ?_)
  · obtain ⟨_, _, _, ⟨_, _, _, _, _, _, _, _, _, rfl, _⟩, _⟩ := h
    rfl
  · obtain ⟨G, R, hs, ⟨t, a, names, nv, sl, th, jn, d, p, rfl, hT, ha, hl, hn, rfl⟩, q⟩ := h
    refine ⟨_, (pss_cons (ps_if (PW.pt (pw_or (pt_not (pt_val (pe_callB (call_isW W_ins) (by rfl) Z.z_isinstance (by decide +kernel) (pa_cons (pv 0) (pa_cons (pe_glob (v := .ref a_Worth) rfl g_Worth rfl) pa_nil))))) (pw_or1 (pt_val (pe_callB (call_isiA K) (by rfl) Z.z_isinstance (by decide +kernel) (pa_cons (pe_fldK K (pv 0)) (pa_cons (pe_bltn (v := .ty "bool") (by rfl) Z.z_bool (by decide +kernel) rfl) pa_nil))))))) (pss_cons (ps_ret pe_bl)
  pss_nil) pss_nil)
  (pss_cons (ps_set (i := 3) sc__law_is.nd rfl (Or.inl rfl) (pe_ix (ix_any K (hu_of hr)) (pe_ix (ix_any K (hu_of hr)) (pv 1) pe_int (fun _ _ => rfl)) (pv 2) (fun _ _ => rfl)))
  (pss_cons (ps_if (PW.pt (pw_or (pt_cmpR (op_neA K hr.units) (pe_fldK K (pv 0)) (pv 2) (nomark _)) (pw_or (pt_cmpR (op_neA K hr.units) (pe_fldK K (pv 0)) (pv 3) (nomark _)) (pw_or1 (pt_cmpR (op_neA K hr.units) (pe_callTy (call_strW c_wt___str__ (hr.mono (by decide)) pass0) (by rfl) Z.z_str (by decide +kernel) (pa_cons (pv 0) pa_nil)) (pv 3) (nomark _)))))) (pss_cons (ps_ret pe_bl)
  pss_nil) pss_nil)
  (pss_cons (ps_ret (pe_cmpR (op_eqA K hr.units) (pe_fldK K (pe_fldK K (pv 0))) (pe_fldK K (pe_ix (ix_any K (hu_of hr)) (pv 1) pe_int (fun _ _ => rfl))) (nomark _)))
  pss_nil)))), ?_⟩
    have st := stab0 G H
    have h0 : SP0 G H 0 G H := Grow.refl hs
    show tSeq _ _ (Ends.mk _ _ _ _) [some _, some _, some _, none] _
    obtain ⟨pn, pj, pp, x, gt, gn, tj, tp, sd⟩ := id hT
    obtain ⟨dx, fs, ga⟩ := ha.at
    have lp : p < names.length := by
      rw [← hn]
      exact ha.lt
    refine q_if st h0 (et_orF st (et_notT (et_B (ev_cbV (ea_consV (ev_var rfl) (ea_consV ev_c ea_nilV)) (isW_yes st ga)))) (et_B (ev_cbV (ea_consV (ev_wtP st hW ha (ev_var rfl)) (ea_consV ev_c ea_nilV)) (c_isiD (d := .int (p : Nat)) (c := "bool") st (.int _) (by decide))))) (fun H1 p1 k1 h1 => by cases p1) (fun H1 p1 k1 h1 => q_end ?_)
    have hnm : (names.map V.str)[p]? = some (.str (d.names.getD p ("" : Str))) := by
      rw [hn, List.getElem?_map, List.getD_eq_getElem?_getD, List.getElem?_eq_getElem lp]
      rfl
    refine q_setV st h1 (ev_opV (ev_at (k := 0) st gt (ev_var rfl) rfl) (ev_var rfl) (v_ixL st (SqL.of gn) (atI_nat hnm))) fun H2 k2 h2 => ?_
    refine q_if st h2 (et_orF st (et_neF st (ev_wtP st hW ha (ev_var rfl)) (ev_var rfl) rfl) (et_orF st (et_neFS st (ev_wtN st hW ha (ev_var rfl)) (ev_var rfl) rfl) (et_neFS st (ev_cbV (ea_consV (ev_var rfl) ea_nilV) (c_strW st ga fun G' s' => ⟨a, d, p, rfl, ha.mono s', rfl⟩)) (ev_var rfl) rfl))) (fun H3 p3 k3 h3 => by cases p3) (fun H3 p3 k3 h3 => q_end ?_)
    obtain ⟨y, sy, ey⟩ := ev_wtS st hW ha
    exact q_retV st h3 (ev_eq (by rw [hl, decide_eq_true rfl]) (ev_opV (ev_sF st sy (ey (Same.refl _) (ev_var rfl))).2.2.2.1 (ev_sF st sd (ev_at (k := 5) st gt (ev_var rfl) rfl)).2.2.2.1 (v_eqS st))) fun H4 k4 h4 => q _ _ _ h4 rfl
def PTru : List V → Hp → HR → Prop := fun vs G R => ∃ b : Bool, vs = [.bl b, .bl b] ∧ R = IsV (.bl true)
abbrev s__law_truth : Stmt := top 53
theorem sc__law_truth : FnScope ["_law_found", "_law_due"] ["_law_found", "_law_due"] (defScope s__law_truth) := ⟨rfl, rfl, rfl, by decide +kernel, rfl, by decide +kernel, by decide +kernel⟩
theorem ok_truth11 {f : Addr} {fd : FuncData} (Z : Bi mg) (F : Fun K "_law_truth" "_law_truth" s__law_truth f fd) : FnOk P w K mg base CX0 1 f fd ["_law_found", "_law_due"] (spP PTru) := by
  refine F.ok sc__law_truth (fun vs H Q E h => ?_) (fun cdv A outer s H vs Q E hr h => ?_)
  · obtain ⟨_, _, _, ⟨_, rfl, _⟩, _⟩ := h
    rfl
  · obtain ⟨G, R, hs, ⟨b, rfl, rfl⟩, q⟩ := h
    refine ⟨_, (pss_cons (ps_ret (pe_and (pe_callB (call_isiA K) (by rfl) Z.z_isinstance (by decide +kernel) (pa_cons (pv 0) (pa_cons (pe_bltn (v := .ty "bool") (by rfl) Z.z_bool (by decide +kernel) rfl) pa_nil))) (pe_one (pe_cmpR (op_eqA K hr.units) (pv 0) (pv 1) (nomark _)))))
  pss_nil), ?_⟩
    have st := stab0 G H
    have h0 : SP0 G H 0 G H := Grow.refl hs
    show tSeq _ _ (Ends.mk _ _ _ _) [some _, some _] _
    exact q_retV st h0 (ev_eq (y := .bl (true && true)) rfl (ev_andV st (ev_cbV (ea_consV (ev_var rfl) (ea_consV ev_c ea_nilV)) (c_isiD (d := .bool b) (c := "bool") st (.bl _) (by decide))) fun _ => ev_eq (by rw [decide_eq_true rfl]) (ev_opV (ev_var rfl) (ev_var rfl) (v_eqB st)))) fun H4 k4 h4 => q _ _ _ h4 rfl
def PUnk11 (K : PySem.W.Frag) (Cs : List Addr) : List V → Hp → HR → Prop := fun vs G R => ∃ (x : Addr) (d : SD) (nm : Str), vs = [.ref x, .str nm] ∧ ScD K Cs d x G ∧ SdOk d ∧ nm ∉ d.names ∧ R = IsV (.str nm)
abbrev s__law_unknown : Stmt := top 55
theorem sc__law_unknown : FnScope ["_law_scale", "_law_name", "_law_said", "e"] ["_law_scale", "_law_name"] (defScope s__law_unknown) := ⟨rfl, rfl, rfl, by decide +kernel, rfl, by decide +kernel, by decide +kernel⟩
theorem ok_unknown11 {Cs : List Addr} {a_Worth CU : Addr} {f : Addr} {fd : FuncData} (Z : Bi mg) (hW : WtC K a_Worth) (g_Worth : mg "Worth" = some (.ref a_Worth)) (m_UnknownWorth : mg "UnknownWorth" = some (.ref CU)) (te : PySem.W.exmOne K (.ref CU) (.ref CU) = some true) (xg_UnknownWorth : ExG K CU "name")
    (c_wt_named : ClsmC P w K mg base a_Worth "named" (L2.CX P w) 5 (sp_named K Cs a_Worth CU)) (F : Fun K "_law_unknown" "_law_unknown" s__law_unknown f fd) : FnOk P w K mg base CX0 6 f fd ["_law_scale", "_law_name"] (spP (PUnk11 K Cs)) := by
  refine F.ok sc__law_unknown (fun vs H Q E h => ?_) (fun cdv A outer s H vs Q E hr h => ?_)
  · obtain ⟨_, _, _, ⟨_, _, _, rfl, _⟩, _⟩ := h
    rfl
  · obtain ⟨G, R, hs, ⟨x, d, nm, rfl, sd, o, hm, rfl⟩, q⟩ := h
    refine ⟨_, (pss_cons (ps_set (i := 2) sc__law_unknown.nd rfl (Or.inl rfl) pe_str)
  (pss_cons (ps_try_as (i := 3) (Wout := fun _ _ _ _ => False) rfl rfl sc__law_unknown.nd rfl rfl ⟨rfl, by decide, Or.inl m_UnknownWorth⟩ takes0
    (fun W pn xe tk _ => (pss_cons (ps_set (i := 2) sc__law_unknown.nd rfl (Or.inl rfl) (pe_op op_addA pe_str (pe_fldK K (pe_clsmS c_wt_named (hr.mono (by decide)) (fun σ => passAt tk σ) (pe_glob (v := .ref a_Worth) rfl g_Worth rfl) (pa_cons (pv 0) (pa_cons (pv 1) pa_nil))))))
  pss_nil))
    (fun a oe cls d pn hz hf => (pss_cons (ps_set (i := 2) sc__law_unknown.nd rfl (Or.inl rfl) (pe_fldX xg_UnknownWorth hz hf (pv 3)))
  pss_nil)))
  (pss_cons (ps_ret (pv 2))
  pss_nil))), ?_⟩
    have st := stab0 G H
    have h0 : SP0 G H 0 G H := Grow.refl hs
    show tSeq _ _ (Ends.mk _ _ _ _) [some _, some _, none, none] _
    refine q_setV st h0 ev_c fun H1 k1 h1 => ?_
    refine ⟨rfl, _, rfl, _, rfl, x, d, nm, G, rfl, st.sub h1, sd, o, fun p hp => absurd (List.mem_of_getElem? hp) hm, fun _ dd H3 H4 gr hd e => ?_⟩
    subst e
    have h3 : SP0 G H 0 G H3 := st.grow h1 gr
    have s4 := st.new (o := .xd [(("name" : Str), .str nm)]) h3 hd
    have hd4 : upd G dd (.xd [(("name" : Str), .str nm)]) dd = some (.xd [(("name" : Str), .str nm)]) := upd_same
    have h4 := s4.s
    generalize upd G dd (.xd [(("name" : Str), .str nm)]) = G4 at h4 hd4
    refine ⟨true, te, fun _ b _ => ?_, fun z => by cases z⟩
    show tSeq _ _ (Ends.mk _ _ _ _) [some (.ref x), some (.str nm), some (.str ("" : Str)), some (.ref b)] _
    refine q_setV st h4 (ev_fldX st (ev_var rfl) hd4) fun H5 k5 h5 => q_end ?_
    show tSeq _ _ (Ends.mk _ _ _ _) [some (.ref x), some (.str nm), some (.str nm), none] _
    exact q_retV st h5 (ev_var rfl) fun H7 k7 h7 => q _ G4 H7 h7 rfl
def PSpo (K : PySem.W.Frag) (Cs : List Addr) : Addr → List V → Nat → Nat → Hp → HR → Prop := fun sa vs _ k G R => ∃ (p : Addr) (names : List Str) (nv sl : Nat) (th jn : Nat → Nat → Int), vs = [.ref sa, .ref p] ∧ TbAt K Cs names nv sl th jn p G ∧ TbIs names nv sl th jn ∧ k = 4 ∧ R = IsTb K Cs (fun d => d.names = names)
abbrev s__law_spoiled : Stmt := top 50
theorem sc__law_spoiled : FnScope ["_law_state", "_law_tables_here", "_law_many", "_law_copies", "_law_rows", "_law_row"] ["_law_state", "_law_tables_here"] (defScope s__law_spoiled) := ⟨rfl, rfl, rfl, by decide +kernel, rfl, by decide +kernel, by decide +kernel⟩
theorem ok_spoiled11 {Cs : List Addr} {f : Addr} {fd : FuncData} (Z : Bi mg) (c__law_pick : Callee P w K mg base "_law_pick" CX0 1 ["_law_source_here", "_law_many"] [] sp_pick) (c__law_table_scale : Callee P w K mg base "_law_table_scale" CX0 12 ["_law_names", "_law_joins", "_law_products", "_law_low", "_law_mid"] [] (spP (PTsc K Cs)))
    (F : Fun K "_law_spoiled" "_law_spoiled" s__law_spoiled f fd) : FnOk P w K mg base CX0 13 f fd ["_law_state", "_law_tables_here"] (spS (PSpo K Cs)) := by
  refine F.ok sc__law_spoiled (fun vs H Q E h => ?_) (fun cdv A outer s H vs Q E hr h => ?_)
  · obtain ⟨_, _, _, _, _, _, _, ⟨_, _, _, _, _, _, rfl, _⟩, _⟩ := h
    rfl
  · obtain ⟨sa, cl, n, k, G, R, h0, ⟨t, names, nv, sl, th, jn, rfl, hT, T, rfl, rfl⟩, q⟩ := h
    obtain ⟨pn, pj, pp, x, gt, gn, tj, tp, sd⟩ := id hT
    refine ⟨_, (pss_cons (ps_set (i := 2) sc__law_spoiled.nd rfl (Or.inl rfl) (pe_callB (call_lenA K) (by rfl) Z.z_len PySem.boot_len (pa_cons (pe_ix (ix_any K (hu_of hr)) (pv 1) pe_int (fun _ _ => rfl)) pa_nil)))
  (pss_cons (ps_set (i := 3) sc__law_spoiled.nd rfl (Or.inl rfl) (pe_lst (pa_cons (pe_lc (own := [("_law_row", 5)]) (g := (gName 5)) rfl sc__law_spoiled.nd (pi_listK K (pe_ix (ix_any K (hu_of hr)) (pv 1) pe_int (fun _ _ => rfl))) (blkOk_by (by kernel_rfl)) (fun _ _ _ _ _ => (pg_name (i := 5) sc__law_spoiled.nd rfl (Or.inl rfl))) (fun _ _ _ _ _ => pts_nil) (fun _ _ _ _ _ => (pe_callTy (call_listA K) (by rfl) Z.z_list (by decide +kernel) (pa_cons (pv 5) pa_nil)))) (pa_cons (pe_lc (own := [("_law_row", 5)]) (g := (gName 5)) rfl sc__law_spoiled.nd (pi_listK K (pe_ix (ix_any K (hu_of hr)) (pv 1) pe_int (fun _ _ => rfl))) (blkOk_by (by kernel_rfl)) (fun _ _ _ _ _ => (pg_name (i := 5) sc__law_spoiled.nd rfl (Or.inl rfl))) (fun _ _ _ _ _ => pts_nil) (fun _ _ _ _ _ => (pe_callTy (call_listA K) (by rfl) Z.z_list (by decide +kernel) (pa_cons (pv 5) pa_nil)))) pa_nil))))
  (pss_cons (ps_set (i := 4) sc__law_spoiled.nd rfl (Or.inl rfl) (pe_ix (ix_any K (hu_of hr)) (pv 3) (pe_callC c__law_pick (hr.mono (by decide)) pass0 (pa_cons (pv 0) (pa_cons pe_int pa_nil))) (fun _ _ => rfl)))
  (pss_cons (ps_set (i := 5) sc__law_spoiled.nd rfl (Or.inl rfl) (pe_ix (ix_any K (hu_of hr)) (pv 4) (pe_callC c__law_pick (hr.mono (by decide)) pass0 (pa_cons (pv 0) (pa_cons (pv 2) pa_nil))) (fun _ _ => rfl)))
  (pss_cons (ps_asg (pe_callC c__law_pick (hr.mono (by decide)) pass0 (pa_cons (pv 0) (pa_cons (pv 2) pa_nil))) (pg_sub (pv 5) (pe_callC c__law_pick (hr.mono (by decide)) pass0 (pa_cons (pv 0) (pa_cons (pv 2) pa_nil))) (set_any (hu_of hr))))
  (pss_cons (ps_ret (pe_callC c__law_table_scale (hr.mono (by decide)) pass0 (pa_cons (pe_ix (ix_any K (hu_of hr)) (pv 1) pe_int (fun _ _ => rfl)) (pa_cons (pe_ix (ix_any K (hu_of hr)) (pv 3) pe_int (fun _ _ => rfl)) (pa_cons (pe_ix (ix_any K (hu_of hr)) (pv 3) pe_int (fun _ _ => rfl)) (pa_cons (pe_ix (ix_any K (hu_of hr)) (pv 1) pe_int (fun _ _ => rfl)) (pa_cons (pe_ix (ix_any K (hu_of hr)) (pv 1) pe_int (fun _ _ => rfl)) pa_nil)))))))
  pss_nil)))))), ?_⟩
    have st := stabS sa cl
    obtain ⟨m, hm⟩ : ∃ m, m = names.length := ⟨_, rfl⟩
    have l1 := T.l1
    have l2 := T.l2
    have ln : (names.map V.str).length = m := by rw [List.length_map, hm]
    show tSeq _ _ (Ends.mk _ _ _ _) [some _, some _, none, none, none, none] _
    have ix : ∀ {n j : Nat} {z : V} {σ : L2.St} {G' : Hp}, Same G G' → σ[1]? = some (some (.ref t)) → [V.ref pn, .ref pj, .ref pp, .int (nv : Nat), .int (sl : Nat), .ref x][j]? = some z → Ev (Src sa cl) n 0 (tOp (rIxA K) (tVar 1) (tC (.int (j : Nat)))) σ G' (IsV z) := fun s' e hz => ev_at st (s' _ _ gt) (ev_var e) hz
    refine q_setV st h0 (x := .int (m : Nat)) (ev_eq (by rw [ln]) (ev_cbV (ea_consV (ix (j := 0) (Same.refl _) rfl rfl) ea_nilV) (c_lenL st (SqL.of gn)))) fun H1 k1 h1 => ?_
    have row : ∀ {f : Nat → Nat → Int} {pt : Addr} {j : Nat} {na : Nat} {G' : Hp} {H' : Hp}, Same G G' → TabN G pt names.length f → [V.ref pn, .ref pj, .ref pp, .int (nv : Nat), .int (sl : Nat), .ref x][j]? = some (.ref pt) → Ev (Src sa cl) na 0 (tLc (iList K (tOp (rIxA K) (tVar 1) (tC (.int (j : Nat))))) (gName 5) tYes (tCB (rListQ K) (tCons (tVar 5) tNil)) [5]) [some (.ref sa), some (.ref t), some (.int (m : Nat)), none, none, none] G' (fun v G2 => ∃ p ys, v = .ref p ∧ G' p = none ∧ G2 p = some (.lst ys) ∧ RL (fun a => IsIRn G' m (f a)) (List.range m) ys G2 ∧ ys.Nodup) := fun {f pt j na G' H'} s' ht hj => by
      obtain ⟨vs, gp, lv, hat⟩ := ht.at
      refine (ev_lcN (of := fun a => .lst ((List.range m).map fun b => V.int (f a b))) (σf := fun j => [some (.ref sa), some (.ref t), some (.int (m : Nat)), none, none, vs[j]?]) st (ix (j := j) s' rfl hj) (SqL.of (s' _ _ gp)) (by rw [lv]; omega) (fun j y G3 J hy s3 t3 Qs q' => ?_) (fun _ => rfl) fun j y G3 hy s3 => ?_).imp fun v G2 s2 h => ?_
      · rw [hy] at q'
        exact q'
      · rw [hy]
        have hj : j < names.length := by
          have := (List.getElem?_eq_some_iff.mp hy).1
          omega
        obtain ⟨qr, hq1, hq2⟩ := hat j hj
        rw [hq1] at hy
        obtain rfl := Option.some.inj hy
        rw [← hm] at hq2
        exact ev_cbV (ea_consV (ev_var rfl) ea_nilV) (c_listN st (SqL.of (s3 _ _ (s' _ _ hq2))))
      · obtain ⟨p3, ws, e, f3, g3, rl3, nd3⟩ := h
        rw [lv, ← hm] at rl3
        exact ⟨p3, ws, e, f3, g3, rl_unmap (g := fun a => HO.lst ((List.range m).map fun b => V.int (f a b))) rl3, nd3⟩
    refine q_set h1 (ev_lstX (RA := TwoN G m jn th) st (fun G1 H1 s0 s Q q => ea_cons2 (row (H' := H) (j := 1) (Same.refl _) tj rfl) (fun v G' s' _ => ea_cons2 (RA := fun _ _ => RNil) (row (H' := H) (j := 2) s' tp rfl) fun _ _ _ _ => ea_nil) G1 H1 s0 s Q fun vs G2 H2 s2 h => q vs G2 H2 s2 ?_) (fun vs G' h => ?_)) fun v3 G3 H3 s3 r3 => ?_
    · obtain ⟨_, _, G5, rfl, a1, a2, ⟨p3, ys, rfl, b1, b2, b3, b4⟩, _, _, G6, rfl, c1, c2, ⟨q3, zs, rfl, d1, d2, d3, d4⟩, e1⟩ := h
      obtain rfl := (show _ = [] from e1)
      exact ⟨p3, q3, ys, zs, G5, rfl, a1, a2, b1, b2, b3, b4, d1, c2 _ _ d2, rl_mon c2 d3, d4⟩
    · obtain ⟨_, _, _, _, _, rfl, _⟩ := h
      simp
    obtain ⟨pc, _, rfl, gc, p3, q3, ys, zs, G2, rfl, a1, a2, b1, b2, b3, b4, d1, d2, d3, d4⟩ := r3
    refine q_set s3.s (R := fun v G' => v = .ref p3 ∨ v = .ref q3) (ev_op (Ra := IsV (.ref pc)) (Rb := IsI fun r => 0 ≤ r ∧ r < 2) (ev_var rfl) (ev_pick (ea_consV (ev_var rfl) (ea_consV ev_c ea_nilV)) (by decide) (by decide)) fun u v G' s' eu ev => ?_) fun v4 G4 H4 s4 r4 => ?_
    · obtain rfl := (show _ = _ from eu)
      obtain ⟨i, hi, rfl⟩ := ev
      rcases (show i = 0 ∨ i = 1 by omega) with rfl | rfl
      · exact rv_imp (v_ixL st (SqL.of (s' _ _ gc)) (atI_nat (j := 0) rfl)) fun v G2 _ e => .inl e
      · exact rv_imp (v_ixL st (SqL.of (s' _ _ gc)) (atI_nat (j := 1) rfl)) fun v G2 _ e => .inr e
    have fr4 : Fr (Src sa cl) G H G4 H4 := (((Fr.refl G H).kp k1).trans s3.fr).trans s4.fr
    have hm1 : 1 ≤ m := by omega
    have s23 : Same G2 G3 := a2
    have s24 : Same G2 G4 := a2.trans s4.g
    rcases r4 with rfl | rfl
    · have rl4 : RL (fun a => IsIRn G m (jn a)) (List.range m) ys G4 := rl_mon s24 b3
      have gp4 := s24 _ _ b2
      refine q_set s4.s (R := fun v G' => ∃ r D, r < m ∧ ys[r]? = some (.ref D) ∧ v = .ref D) (ev_op (Ra := IsV (.ref p3)) (Rb := IsI fun r => 0 ≤ r ∧ r < (m : Nat)) (ev_var rfl) (ev_pick (ea_consV (ev_var rfl) (ea_consV (ev_var rfl) ea_nilV)) (by omega) (by omega)) fun u v G' s' eu ev => ?_) fun v5 G5 H5 s5 r5 => ?_
      · obtain rfl := (show _ = _ from eu)
        obtain ⟨i, hi, rfl⟩ := ev
        obtain ⟨r, rfl⟩ : ∃ r : Nat, i = (r : Nat) := ⟨i.toNat, by omega⟩
        have hr : r < m := by omega
        obtain ⟨y, hy, D, rfl, _, _⟩ := rl_get rl4 (List.getElem?_range hr)
        exact rv_imp (v_ixL st (SqL.of (s' _ _ gp4)) (atI_nat hy)) fun v G2 _ e => ⟨r, D, hr, hy, e⟩
      obtain ⟨r, D, hr1, hD, rfl⟩ := r5
      obtain ⟨y, hy, D', e, fD, gD⟩ := rl_get b3 (List.getElem?_range hr1)
      rw [hD] at hy
      obtain rfl := V.ref.inj ((Option.some.inj hy).trans e)
      have fr := fr4.trans s5.fr
      have gD4 := s24 _ _ gD
      have gD5 := s5.g _ _ gD4
      have fG : G D = none := fD
      refine q_setNewI (Pc := fun c => 0 ≤ c ∧ c < (m : Nat)) (Pv := fun c => 0 ≤ c ∧ c < (m : Nat)) st h0 fr s5.s (fun m J h => src_cut h) fG gD5 (ev_pick (ea_consV (ev_var rfl) (ea_consV (ev_var rfl) ea_nilV)) (by omega) (by omega)) (ev_var rfl) (ev_pick (ea_consV (ev_var rfl) (ea_consV (ev_var rfl) ea_nilV)) (by omega) (by omega)) (fun c h => by rw [List.length_map, List.length_range]; omega) fun c v H6 hc hv h6 fr6 => ?_
      obtain ⟨cc, rfl⟩ : ∃ cc : Nat, c = (cc : Nat) := ⟨c.toNat, by omega⟩
      rw [Int.toNat_natCast, chg2_row] at h6 fr6
      have np : p3 ≠ D := fun z => by
        have gq := s5.g _ _ gp4
        rw [z, gD5] at gq
        cases gq
        exact rows_self (rl_mon s5.g rl4) hD gD5
      have npc : pc ≠ D := fun z => by
        have gq := (s4.g.trans s5.g) _ _ gc
        rw [z, gD5] at gq
        have z2 := congrArg (fun l : List V => l[0]?) (HO.lst.inj (Option.some.inj gq))
        obtain ⟨_, e2⟩ := map_get (y := V.ref p3) z2
        cases e2
      have gc6 : upd G5 D (.lst ((List.range m).map fun b => V.int (chg2 jn r cc v r b))) pc = some (.lst [.ref p3, .ref q3]) := by
        rw [upd_ne npc]
        exact (s4.g.trans s5.g) _ _ gc
      have tbl := tbl_chg (K := K) (F := G) (c := cc) (v := v) (G := G5) (p := p3) (D := D) (r := r) (s5.g _ _ gp4) (rl_mon s5.g rl4) hD hr1 (fun i hi => nodup_at b4 hi hD) np
      have oth := tabN_upd (o := .lst ((List.range m).map fun b => V.int (chg2 jn r cc v r b))) ((s4.g.trans s5.g) _ _ d2) (rl_mon (s4.g.trans s5.g) d3) gD d1
      subst hm
      have s06 := fr6.g
      have T' : TbIs names nv sl (th) (chg2 jn r cc v) := ⟨T.l1, T.l2, T.nd, T.ok, T.so, T.nv, T.sl, T.th, fun a b ha hb => by
        unfold chg2
        split
        · omega
        · exact T.jn a b ha hb⟩
      refine q_ret h6 (ev_callV (R := IsTbA K Cs names nv sl (th) (chg2 jn r cc v)) (ws := [.ref pn, .ref p3, .ref q3, .int (nv : Nat), .int (sl : Nat)]) st (ea_consV (ix (j := 0) s06 rfl rfl) (ea_consV (ev_at (k := 0) st gc6 (ev_var rfl) rfl) (ea_consV (ev_at (k := 1) st gc6 (ev_var rfl) rfl) (ea_consV (ix (j := 3) s06 rfl rfl) (ea_consV (ix (j := 4) s06 rfl rfl) ea_nilV))))) fun G' s' => ⟨pn, p3, q3, _, _, _, _, _, rfl, s' _ _ (s06 _ _ gn), tbl.mono s', oth.mono s', T', rfl⟩) fun v6 G6 H6 s7 r6 => q v6 G6 H6 (Fr.stp (fr6.trans s7.fr) (st.wk s7.s (by omega))) ?_
      obtain ⟨p6, rfl, hT6⟩ := r6
      exact ⟨p6, _, _, _, _, _, rfl, hT6, T', rfl⟩
    · have rl4 : RL (fun a => IsIRn G2 m (th a)) (List.range m) zs G4 := rl_mon s4.g d3
      have gp4 := s4.g _ _ d2
      refine q_set s4.s (R := fun v G' => ∃ r D, r < m ∧ zs[r]? = some (.ref D) ∧ v = .ref D) (ev_op (Ra := IsV (.ref q3)) (Rb := IsI fun r => 0 ≤ r ∧ r < (m : Nat)) (ev_var rfl) (ev_pick (ea_consV (ev_var rfl) (ea_consV (ev_var rfl) ea_nilV)) (by omega) (by omega)) fun u v G' s' eu ev => ?_) fun v5 G5 H5 s5 r5 => ?_
      · obtain rfl := (show _ = _ from eu)
        obtain ⟨i, hi, rfl⟩ := ev
        obtain ⟨r, rfl⟩ : ∃ r : Nat, i = (r : Nat) := ⟨i.toNat, by omega⟩
        have hr : r < m := by omega
        obtain ⟨y, hy, D, rfl, _, _⟩ := rl_get rl4 (List.getElem?_range hr)
        exact rv_imp (v_ixL st (SqL.of (s' _ _ gp4)) (atI_nat hy)) fun v G2 _ e => ⟨r, D, hr, hy, e⟩
      obtain ⟨r, D, hr1, hD, rfl⟩ := r5
      obtain ⟨y, hy, D', e, fD, gD⟩ := rl_get d3 (List.getElem?_range hr1)
      rw [hD] at hy
      obtain rfl := V.ref.inj ((Option.some.inj hy).trans e)
      have fr := fr4.trans s5.fr
      have gD4 := s4.g _ _ gD
      have gD5 := s5.g _ _ gD4
      have fG : G D = none := a1.free fD
      refine q_setNewI (Pc := fun c => 0 ≤ c ∧ c < (m : Nat)) (Pv := fun c => 0 ≤ c ∧ c < (m : Nat)) st h0 fr s5.s (fun m J h => src_cut h) fG gD5 (ev_pick (ea_consV (ev_var rfl) (ea_consV (ev_var rfl) ea_nilV)) (by omega) (by omega)) (ev_var rfl) (ev_pick (ea_consV (ev_var rfl) (ea_consV (ev_var rfl) ea_nilV)) (by omega) (by omega)) (fun c h => by rw [List.length_map, List.length_range]; omega) fun c v H6 hc hv h6 fr6 => ?_
      obtain ⟨cc, rfl⟩ : ∃ cc : Nat, c = (cc : Nat) := ⟨c.toNat, by omega⟩
      rw [Int.toNat_natCast, chg2_row] at h6 fr6
      have np : q3 ≠ D := fun z => by
        have gq := s5.g _ _ gp4
        rw [z, gD5] at gq
        cases gq
        exact rows_self (rl_mon s5.g rl4) hD gD5
      have npc : pc ≠ D := fun z => by
        have gq := (s4.g.trans s5.g) _ _ gc
        rw [z, gD5] at gq
        have z2 := congrArg (fun l : List V => l[0]?) (HO.lst.inj (Option.some.inj gq))
        obtain ⟨_, e2⟩ := map_get (y := V.ref p3) z2
        cases e2
      have gc6 : upd G5 D (.lst ((List.range m).map fun b => V.int (chg2 th r cc v r b))) pc = some (.lst [.ref p3, .ref q3]) := by
        rw [upd_ne npc]
        exact (s4.g.trans s5.g) _ _ gc
      have tbl := tbl_chg (K := K) (F := G2) (c := cc) (v := v) (G := G5) (p := q3) (D := D) (r := r) (s5.g _ _ gp4) (rl_mon s5.g rl4) hD hr1 (fun i hi => nodup_at d4 hi hD) np
      have oth := (tabN_ofN b2 b3).mono (same_upd (o := .lst ((List.range m).map fun b => V.int (chg2 th r cc v r b))) (s24.trans s5.g) fD)
      subst hm
      have s06 := fr6.g
      have T' : TbIs names nv sl (chg2 th r cc v) (jn) := ⟨T.l1, T.l2, T.nd, T.ok, T.so, T.nv, T.sl, fun a b ha hb => by
        unfold chg2
        split
        · omega
        · exact T.th a b ha hb, T.jn⟩
      refine q_ret h6 (ev_callV (R := IsTbA K Cs names nv sl (chg2 th r cc v) (jn)) (ws := [.ref pn, .ref p3, .ref q3, .int (nv : Nat), .int (sl : Nat)]) st (ea_consV (ix (j := 0) s06 rfl rfl) (ea_consV (ev_at (k := 0) st gc6 (ev_var rfl) rfl) (ea_consV (ev_at (k := 1) st gc6 (ev_var rfl) rfl) (ea_consV (ix (j := 3) s06 rfl rfl) (ea_consV (ix (j := 4) s06 rfl rfl) ea_nilV))))) fun G' s' => ⟨pn, p3, q3, _, _, _, _, _, rfl, s' _ _ (s06 _ _ gn), oth.mono s', tbl.mono s', T', rfl⟩) fun v6 G6 H6 s7 r6 => q v6 G6 H6 (Fr.stp (fr6.trans s7.fr) (st.wk s7.s (by omega))) ?_
      obtain ⟨p6, rfl, hT6⟩ := r6
      exact ⟨p6, _, _, _, _, _, rfl, hT6, T', rfl⟩
def PPair11 (K : PySem.W.Frag) (Cs : List Addr) : List V → Hp → HR → Prop := fun vs G R => ∃ (t : Addr) (names : List Str) (nv sl : Nat) (th jn : Nat → Nat → Int) (a b : Nat), vs = [.ref t, .int (a : Nat), .int (b : Nat)] ∧ TbAt K Cs names nv sl th jn t G ∧ TbIs names nv sl th jn ∧ a < names.length ∧ b < names.length ∧ R = IsV (.bl true)
abbrev s__law_pair : Stmt := top 54
theorem sc__law_pair : FnScope ["_law_tables_here", "_law_a", "_law_b", "_law_first", "_law_second", "_law_lies"] ["_law_tables_here", "_law_a", "_law_b"] (defScope s__law_pair) := ⟨rfl, rfl, rfl, by decide +kernel, rfl, by decide +kernel, by decide +kernel⟩
theorem ok_pair11 {Cs : List Addr} {a_Worth CM CU : Addr} {f : Addr} {fd : FuncData} (Z : Bi mg) (g_Worth : mg "Worth" = some (.ref a_Worth)) (w_first : PySem.W.selfFirst K a_Worth = true)
    (c_read_scale : Callee P w K mg base "read_scale" CX0 14 ["text"] [] (spP (PRdT K Cs))) (c_Worth : Maker P w K mg base "Worth" a_Worth CX0 2 ["self", "scale", "place"] [] (spI (PWoI K Cs a_Worth)))
    (c__law_is : Callee P w K mg base "_law_is" CX0 6 ["_law_found", "_law_tables_here", "_law_place"] [] (spP (PIs K Cs a_Worth))) (c__law_truth : Callee P w K mg base "_law_truth" CX0 1 ["_law_found", "_law_due"] [] (spP PTru))
    (c_wt_named : ClsmC P w K mg base a_Worth "named" (L2.CX P w) 5 (sp_named K Cs a_Worth CU)) (c_wt_never : ClsmC P w K mg base a_Worth "never" CX0 4 (spP (PCls K Cs a_Worth (fun d => d.nv.toNat)))) (c_wt_still : ClsmC P w K mg base a_Worth "still" CX0 4 (spP (PCls K Cs a_Worth (fun d => d.sl.toNat))))
    (c_wt___mul__ : Method P w K mg base a_Worth "__mul__" (L2.CX P w) 4 ["self", "other"] [] (sp_wop K Cs a_Worth CM (rMulW K Cs a_Worth))) (c_wt___or__ : Method P w K mg base a_Worth "__or__" (L2.CX P w) 4 ["self", "other"] [] (sp_wop K Cs a_Worth CM (rOrW K Cs a_Worth)))
    (c_wt___le__ : Method P w K mg base a_Worth "__le__" (L2.CX P w) 2 ["self", "other"] [] (sp_wop K Cs a_Worth CM rLeW)) (c_wt___lt__ : Method P w K mg base a_Worth "__lt__" (L2.CX P w) 2 ["self", "other"] [] (sp_wop K Cs a_Worth CM rLtW)) (c_wt___eq__ : Method P w K mg base a_Worth "__eq__" CX0 1 ["self", "other"] [] (spP (PEqW K Cs a_Worth)))
    (F : Fun K "_law_pair" "_law_pair" s__law_pair f fd) : FnOk P w K mg base CX0 15 f fd ["_law_tables_here", "_law_a", "_law_b"] (spP (PPair11 K Cs)) := by
  refine F.ok sc__law_pair (fun vs H Q E h => ?_) (fun cdv A outer s H vs Q E hr h => ?_)
  · obtain ⟨_, _, _, ⟨_, _, _, _, _, _, _, _, rfl, _⟩, _⟩ := h
    rfl
  · obtain ⟨G, R, hs, ⟨t, names, nv, sl, th, jn, a, b, rfl, hT, T, a1, b1, rfl⟩, q⟩ := h
    refine ⟨_, (pss_cons (ps_set (i := 3) sc__law_pair.nd rfl (Or.inl rfl) (pe_clsmC c_wt_named (hr.mono (by decide)) passL (pe_glob (v := .ref a_Worth) rfl g_Worth rfl) (pa_cons (pe_ix (ix_any K (hu_of hr)) (pv 0) pe_int (fun _ _ => rfl)) (pa_cons (pe_ix (ix_any K (hu_of hr)) (pe_ix (ix_any K (hu_of hr)) (pv 0) pe_int (fun _ _ => rfl)) (pv 1) (fun _ _ => rfl)) pa_nil))))
  (pss_cons (ps_set (i := 4) sc__law_pair.nd rfl (Or.inl rfl) (pe_makeC c_Worth (hr.mono (by decide)) pass0 (pa_cons (pe_callC c_read_scale (hr.mono (by decide)) pass0 (pa_cons (pe_fldK K (pe_ix (ix_any K (hu_of hr)) (pv 0) pe_int (fun _ _ => rfl))) pa_nil)) (pa_cons (pv 2) pa_nil))))
  (pss_cons (ps_set (i := 5) sc__law_pair.nd rfl (Or.inl rfl) (pe_cmpR (op_eqA K hr.units) (pe_ix (ix_any K (hu_of hr)) (pe_ix (ix_any K (hu_of hr)) (pe_ix (ix_any K (hu_of hr)) (pv 0) pe_int (fun _ _ => rfl)) (pv 1) (fun _ _ => rfl)) (pv 2) (fun _ _ => rfl)) (pv 2) (nomark _)))
  (pss_cons (ps_ret (pe_callB (call_allA K) (by rfl) Z.z_all (by decide +kernel) (pa_cons (pe_lst (pa_cons (pe_callC c__law_is (hr.mono (by decide)) pass0 (pa_cons (pv 3) (pa_cons (pv 0) (pa_cons (pv 1) pa_nil)))) (pa_cons (pe_callC c__law_is (hr.mono (by decide)) pass0 (pa_cons (pv 4) (pa_cons (pv 0) (pa_cons (pv 2) pa_nil)))) (pa_cons (pe_callC c__law_is (hr.mono (by decide)) pass0 (pa_cons (pe_op (op_binOwn c_wt___mul__ rfl w_first (hr.mono (by decide)) passL) (pv 3) (pv 4)) (pa_cons (pv 0) (pa_cons (pe_ix (ix_any K (hu_of hr)) (pe_ix (ix_any K (hu_of hr)) (pe_ix (ix_any K (hu_of hr)) (pv 0) pe_int (fun _ _ => rfl)) (pv 1) (fun _ _ => rfl)) (pv 2) (fun _ _ => rfl)) pa_nil)))) (pa_cons (pe_callC c__law_is (hr.mono (by decide)) pass0 (pa_cons (pe_op (op_binOwn c_wt___or__ rfl w_first (hr.mono (by decide)) passL) (pv 3) (pv 4)) (pa_cons (pv 0) (pa_cons (pe_ix (ix_any K (hu_of hr)) (pe_ix (ix_any K (hu_of hr)) (pe_ix (ix_any K (hu_of hr)) (pv 0) pe_int (fun _ _ => rfl)) (pv 1) (fun _ _ => rfl)) (pv 2) (fun _ _ => rfl)) pa_nil)))) (pa_cons (pe_callC c__law_truth (hr.mono (by decide)) pass0 (pa_cons (pe_cmpR (op_cmpOwn c_wt___le__ rfl (hr.mono (by decide)) passL) (pv 3) (pv 4) (nomark _)) (pa_cons (pv 5) pa_nil))) (pa_cons (pe_callC c__law_truth (hr.mono (by decide)) pass0 (pa_cons (pe_cmpR (op_cmpOwn c_wt___lt__ rfl (hr.mono (by decide)) passL) (pv 3) (pv 4) (nomark _)) (pa_cons (pe_and (pv 5) (pe_one (pe_cmpR (op_neA K hr.units) (pv 1) (pv 2) (nomark _)))) pa_nil))) (pa_cons (pe_callC c__law_truth (hr.mono (by decide)) pass0 (pa_cons (pe_cmpR (op_cmpOwn c_wt___eq__ rfl (hr.mono (by decide)) pass0) (pv 3) (pv 4) (nomark _)) (pa_cons (pe_cmpR (op_eqA K hr.units) (pv 1) (pv 2) (nomark _)) pa_nil))) (pa_cons (pe_callC c__law_truth (hr.mono (by decide)) pass0 (pa_cons (pe_cmpR (op_cmpOwn c_wt___eq__ rfl (hr.mono (by decide)) pass0) (pv 4) (pe_makeC c_Worth (hr.mono (by decide)) pass0 (pa_cons (pe_ix (ix_any K (hu_of hr)) (pv 0) pe_int (fun _ _ => rfl)) (pa_cons (pv 2) pa_nil))) (nomark _)) (pa_cons pe_bl pa_nil))) (pa_cons (pe_callC c__law_is (hr.mono (by decide)) pass0 (pa_cons (pe_clsmC c_wt_never (hr.mono (by decide)) pass0 (pe_glob (v := .ref a_Worth) rfl g_Worth rfl) (pa_cons (pe_ix (ix_any K (hu_of hr)) (pv 0) pe_int (fun _ _ => rfl)) pa_nil)) (pa_cons (pv 0) (pa_cons (pe_ix (ix_any K (hu_of hr)) (pv 0) pe_int (fun _ _ => rfl)) pa_nil)))) (pa_cons (pe_callC c__law_is (hr.mono (by decide)) pass0 (pa_cons (pe_clsmC c_wt_still (hr.mono (by decide)) pass0 (pe_glob (v := .ref a_Worth) rfl g_Worth rfl) (pa_cons (pe_ix (ix_any K (hu_of hr)) (pv 0) pe_int (fun _ _ => rfl)) pa_nil)) (pa_cons (pv 0) (pa_cons (pe_ix (ix_any K (hu_of hr)) (pv 0) pe_int (fun _ _ => rfl)) pa_nil)))) pa_nil))))))))))) pa_nil)))
  pss_nil)))), ?_⟩
    have st := stab0 G H
    have h0 : SP0 G H 0 G H := Grow.refl hs
    show tSeq _ _ (Ends.mk _ _ _ _) [some _, some _, some _, none, none, none] _
    obtain ⟨pn, pj, pp, x, gt, gn, tj, tp, sd⟩ := id hT
    have ix : ∀ {n i : Nat} {z : V} {σ : L2.St} {G' : Hp}, Same G G' → σ[0]? = some (some (.ref t)) → [V.ref pn, .ref pj, .ref pp, .int (nv : Nat), .int (sl : Nat), .ref x][i]? = some z → Ev (SP0 G H) n 0 (tOp (rIxA K) (tVar 0) (tC (.int (i : Nat)))) σ G' (IsV z) := fun s' e hz => ev_at st (s' _ _ gt) (ev_var e) hz
    obtain ⟨d, hd⟩ : ∃ d, d = tabSD names nv sl th jn := ⟨_, rfl⟩
    rw [← hd] at sd
    have o : SdOk d := by rw [hd]; exact T.sd.1
    have dn : d.names = names := by rw [hd]; rfl
    have dnv : d.nv.toNat = nv := by rw [hd]; rfl
    have dsl : d.sl.toNat = sl := by rw [hd]; rfl
    have dl : d.label = (tabSD names nv sl th jn).label := by rw [hd]
    have nl : d.names.length = names.length := by rw [dn]
    have ad : a < d.names.length := by omega
    have bd : b < d.names.length := by omega
    have dJ : ∀ {a b}, a < names.length → b < names.length → jn a b = (d.J a b : Nat) := fun {a b} ha hb => by
      have := (o.J (a := a) (b := b) (by omega) (by omega)).1
      rw [hd] at this ⊢
      exact this.symm
    have dT : ∀ {a b}, a < names.length → b < names.length → th a b = (d.T a b : Nat) := fun {a b} ha hb => by
      have := (o.T (a := a) (b := b) (by omega) (by omega)).1
      rw [hd] at this ⊢
      exact this.symm
    have hnm : (names.map V.str)[a]? = some (.str names[a]) := by
      rw [List.getElem?_map, List.getElem?_eq_getElem a1]
      rfl
    have hna : d.names[a]? = some names[a] := by
      rw [dn, List.getElem?_eq_getElem a1]
    refine q_set h0 (ev_named (nm := names[a]) st sd o hna ev_c (ea_consV (ix (i := 5) (Same.refl _) rfl rfl) (ea_consV (ev_opV (ix (i := 0) (Same.refl _) rfl rfl) (ev_var rfl) (v_ixL st (SqL.of gn) (atI_nat hnm))) ea_nilV))) fun v3 G3 H3 s3 r3 => ?_
    obtain ⟨w1, rfl, hw1⟩ := r3
    refine q_set s3.s (ev_mkWtS (P := fun e => e = d) (p := b) st (fun e he => he ▸ bd) (ea_cons ((ev_callV (R := IsScD K Cs d) (ws := [.str d.label]) st (ea_consV (ev_sF st (sd.mono s3.g) (ix (i := 5) s3.g rfl rfl)).2.2.2.1 ea_nilV) fun G' s' => ⟨names, nv, sl, th, jn, by rw [hd]; rfl, T, by rw [hd]; rfl⟩).imp fun v G' s' h => ⟨d, h, rfl⟩) (ea_cons (ev_var rfl) ea_nil))) fun v4 G4 H4 s4 r4 => ?_
    obtain ⟨e2, he2, w2, rfl, hw2⟩ := r4
    rw [he2] at hw2
    have t4 := s3.g.trans s4.g
    have hw1 := hw1.mono s4.g
    refine q_setV st s4.s (x := .bl (decide (d.J a b = b))) (ev_eq (congrArg V.bl (by rw [dNat])) (ev_opV (ev_eq (congrArg V.int (dJ a1 b1)) (ev_ent2 st (tj.mono t4) (ix (i := 1) t4 rfl rfl) (ev_var rfl) (ev_var rfl) a1 b1)) (ev_var rfl) (v_eqI st))) fun H5 k5 h5 => ?_
    have isW : ∀ {n p : Nat} {te tk : TE} {G' : Hp} {σ : L2.St}, Same G4 G' → σ[0]? = some (some (.ref t)) → Ev (SP0 G H) n 0 te σ G' (IsWt K Cs a_Worth d p) → Ev (SP0 G H) (n + 0) 0 tk σ G' (IsV (.int (p : Nat))) → Ev (SP0 G H) n 0 (tCall (spP (PIs K Cs a_Worth)) [] E0 (tCons te (tCons (tVar 0) (tCons tk tNil)))) σ G' (IsV (.bl true)) := fun {n p te tk G' σ} s' e0 he hk => by
      refine (ev_call (RA := RCons (IsWt K Cs a_Worth d p) (RCons (IsV (.ref t)) (RCons (IsV (.int (p : Nat))) RNil))) st (ea_cons he (ea_cons (ev_var e0) (ea_cons hk ea_nil))) fun vs G2 s2 h => ?_)
      obtain ⟨_, _, rfl, ⟨wf, rfl, hf⟩, _, _, rfl, e1, _, _, rfl, e2, e3⟩ := h
      obtain rfl := (show _ = _ from e1)
      obtain rfl := (show _ = _ from e2)
      obtain rfl := (show _ = [] from e3)
      exact ⟨t, wf, names, nv, sl, th, jn, d, p, rfl, hT.mono ((t4.trans s').trans s2), hf, dl, dn, rfl⟩
    have tru : ∀ {n : Nat} {b : Bool} {te tk : TE} {G' : Hp} {σ : L2.St}, Ev (SP0 G H) n 0 te σ G' (IsV (.bl b)) → Ev (SP0 G H) (n + 0) 0 tk σ G' (IsV (.bl b)) → Ev (SP0 G H) n 0 (tCall (spP PTru) [] E0 (tCons te (tCons tk tNil))) σ G' (IsV (.bl true)) := fun {n b te tk G' σ} he hk => ev_callV st (ws := [.bl b, .bl b]) (ea_consV he (ea_consV hk ea_nilV)) fun G2 s2 => ⟨b, rfl, rfl⟩
    have e1 : ∀ {n : Nat} {G' : Hp}, Same G4 G' → Ev (SP0 G H) n 0 (tVar 3) [some (.ref t), some (.int (a : Nat)), some (.int (b : Nat)), some (.ref w1), some (.ref w2), some (.bl (decide (d.J a b = b)))] G' (IsWt K Cs a_Worth d a) := fun s' => ev_isW (hw1.mono s') (ev_var rfl)
    have e2 : ∀ {n : Nat} {G' : Hp}, Same G4 G' → Ev (SP0 G H) n 0 (tVar 4) [some (.ref t), some (.int (a : Nat)), some (.int (b : Nat)), some (.ref w1), some (.ref w2), some (.bl (decide (d.J a b = b)))] G' (IsWt K Cs a_Worth d b) := fun s' => ev_isW (hw2.mono s') (ev_var rfl)
    have dTl := (o.T (a := a) (b := b) ad bd).2
    have dJl := (o.J (a := a) (b := b) ad bd).2
    have r0 := Same.refl G4
    refine q_retV st h5 (ev_eq (y := .bl ((List.replicate 10 true).all id)) rfl (ev_cb (RA := RCons (IsNew G4 (.lst ((List.replicate 10 true).map V.bl))) RNil) (ea_cons (ev_lstN st (vs := (List.replicate 10 true).map V.bl) (ea_consV (isW r0 rfl (e1 r0) (ev_var rfl)) (ea_consV (isW r0 rfl (e2 r0) (ev_var rfl))
      (ea_consV (isW r0 rfl (ev_wmul st o (e1 r0) (e2 r0)) (ev_eq (congrArg V.int (dT a1 b1)) (ev_ent2 st (tp.mono t4) (ix (i := 2) t4 rfl rfl) (ev_var rfl) (ev_var rfl) a1 b1)))
      (ea_consV (isW r0 rfl (ev_wor st o (e1 r0) (e2 r0)) (ev_eq (congrArg V.int (dJ a1 b1)) (ev_ent2 st (tj.mono t4) (ix (i := 1) t4 rfl rfl) (ev_var rfl) (ev_var rfl) a1 b1)))
      (ea_consV (tru (ev_wle st o (e1 r0) (e2 r0) rfl) (ev_var rfl))
      (ea_consV (tru (b := decide (d.J a b = b) && !decide (a = b)) ((ev_wop (res := rLtW) st o (e1 r0) (e2 r0)).imp fun v G' s' h => by
          rw [show v = _ from h]
          show _ = _
          rw [Bool.and_comm]) (ev_andV st (ev_var rfl) fun _ => ev_eq (by rw [dNat]) (ev_opV (ev_var rfl) (ev_var rfl) (v_neI st))))
      (ea_consV (tru (b := decide (a = b)) (ev_opV (ev_var rfl) (ev_var rfl) ((rv_imp (v_eqW st hw1 hw2) fun v G' _ h => by rw [show v = _ from h, decide_eq_true rfl]; rfl))) (ev_eq (by rw [dNat]) (ev_opV (ev_var rfl) (ev_var rfl) (v_eqI st))))
      (ea_consV (tru (b := true) (ev_op (Ra := IsWt K Cs a_Worth d b) (Rb := IsWt K Cs a_Worth d b) (e2 r0) (ev_mkWt st (sd.mono t4) bd (ea_consV (ix (i := 5) t4 rfl rfl) (ea_consV (ev_var rfl) ea_nilV))) fun u v G' s' eu ev => by
          obtain ⟨wu, rfl, hu⟩ := eu
          obtain ⟨wv, rfl, hv⟩ := ev
          exact rv_imp (v_eqW st hu hv) fun v G2 _ h => by rw [show v = _ from h, decide_eq_true rfl, decide_eq_true rfl]; rfl) ev_c)
      (ea_consV (isW (p := nv) r0 rfl (ev_clsm (ws := [.ref x]) st ev_c (ea_consV (ix (i := 5) t4 rfl rfl) ea_nilV) fun G' s' => ⟨x, d, rfl, (sd.mono t4).mono s', o, by rw [← dnv]⟩) (ix (i := 3) t4 rfl rfl))
      (ea_consV (isW (p := sl) r0 rfl (ev_clsm (ws := [.ref x]) st ev_c (ea_consV (ix (i := 5) t4 rfl rfl) ea_nilV) fun G' s' => ⟨x, d, rfl, (sd.mono t4).mono s', o, by rw [← dsl]⟩) (ix (i := 4) t4 rfl rfl)) ea_nilV)))))))))) (by simp)) ea_nil) fun vs G' s' h => ?_)) fun H6 k6 h6 => q _ _ _ h6 rfl
    obtain ⟨_, _, rfl, ⟨pl, rfl, _, gl⟩, e3⟩ := h
    obtain rfl := (show _ = [] from e3)
    exact c_all st (SqL.of gl)
abbrev s_law : Stmt := top 56
theorem sc_law : FnScope ["_law_script", "_law_state", "_law_spoil", "_law_tables_here", "_law_many", "_law_k", "_law_mine", "_law_strange", "_law_deed_here", "_law_pair_here"] ["_law_script"] (defScope s_law) := ⟨rfl, rfl, rfl, by decide +kernel, rfl, by decide +kernel, by decide +kernel⟩
theorem ok_law11 {Cs : List Addr} {a_Worth CM CC CR : Addr} {f : Addr} {fd : FuncData} (Z : Bi mg) (iC : CC ∈ Cs) (iR : CR ∈ Cs) (oC : ClsOk K CC) (oR : ClsOk K CR) (hW : WtC K a_Worth) (k_str : PySem.W.subIn K (.type "str") (.ref a_Worth) = some false) (k_int : PySem.W.subIn K (.type "int") (.ref a_Worth) = some false)
    (c__law_source : Callee P w K mg base "_law_source" CX0 1 ["_law_script"] [] (sp_source K)) (c__law_pick : Callee P w K mg base "_law_pick" CX0 1 ["_law_source_here", "_law_many"] [] sp_pick)
    (c__law_tables : Callee P w K mg base "_law_tables" CX0 13 ["_law_state"] [] (spS (PTbs K Cs))) (c__law_spoiled : Callee P w K mg base "_law_spoiled" CX0 13 ["_law_state", "_law_tables_here"] [] (spS (PSpo K Cs)))
    (c__law_pair : Callee P w K mg base "_law_pair" CX0 15 ["_law_tables_here", "_law_a", "_law_b"] [] (spP (PPair11 K Cs))) (c__law_unknown : Callee P w K mg base "_law_unknown" CX0 6 ["_law_scale", "_law_name"] [] (spP (PUnk11 K Cs)))
    (c__law_deed : Callee P w K mg base "_law_deed" CX0 6 ["_law_first", "_law_second", "_law_deed_here"] [] (spP (PDeed K Cs a_Worth))) (c_Worth : Maker P w K mg base "Worth" a_Worth CX0 2 ["self", "scale", "place"] [] (spI (PWoI K Cs a_Worth)))
    (c_CountScale : Maker P w K mg base "CountScale" CC (L2.CX P w) 10 ["self", "most", "order"] [.str "up"] (spI (PCsI CC))) (c_TurnedScale : Maker P w K mg base "TurnedScale" CR (L2.CX P w) 10 ["self", "inner"] [] (spI (PTuI K Cs CR)))
    (c_wt___eq__ : Method P w K mg base a_Worth "__eq__" CX0 1 ["self", "other"] [] (spP (PEqW K Cs a_Worth))) (c_wt_eqN : Method P w K mg base a_Worth "__eq__" CX0 1 ["self", "other"] [] (spP (PEqN K Cs a_Worth)))
    (F : Fun K "law" "law" s_law f fd) : FnOk P w K mg base CX0 16 f fd ["_law_script"] (sp_law K) := by
  refine F.ok sc_law (fun vs H Q E h => ?_) (fun cdv A outer s H vs Q E hr h => ?_)
  · obtain ⟨_, _, rfl, _⟩ := h
    rfl
  · obtain ⟨p, ns, rfl, hq, hl, q⟩ := h
    refine ⟨_, (pss_cons (ps_set (i := 1) sc_law.nd rfl (Or.inl rfl) (pe_callC c__law_source (hr.mono (by decide)) pass0 (pa_cons (pv 0) pa_nil)))
  (pss_cons (ps_set (i := 2) sc_law.nd rfl (Or.inl rfl) (pe_callC c__law_pick (hr.mono (by decide)) pass0 (pa_cons (pv 1) (pa_cons pe_int pa_nil))))
  (pss_cons (ps_set (i := 3) sc_law.nd rfl (Or.inl rfl) (pe_callC c__law_tables (hr.mono (by decide)) pass0 (pa_cons (pv 1) pa_nil)))
  (pss_cons (ps_if (pt_cmpR (op_eqA K hr.units) (pv 2) pe_int (nomark _)) (pss_cons (ps_set (i := 3) sc_law.nd rfl (Or.inl rfl) (pe_callC c__law_spoiled (hr.mono (by decide)) pass0 (pa_cons (pv 1) (pa_cons (pv 3) pa_nil))))
  pss_nil) pss_nil)
  (pss_cons (ps_set (i := 4) sc_law.nd rfl (Or.inl rfl) (pe_callB (call_lenA K) (by rfl) Z.z_len PySem.boot_len (pa_cons (pe_ix (ix_any K (hu_of hr)) (pv 3) pe_int (fun _ _ => rfl)) pa_nil)))
  (pss_cons (ps_for PassesOwn.never rfl (pi_range1 (by rfl) Z.z_range (pa_cons pe_int pa_nil)) (pg_name (i := 5) sc_law.nd rfl (Or.inl rfl)) (pss_cons (ps_if (pt_not (pt_val (pe_callC c__law_pair (hr.mono (by decide)) pass0 (pa_cons (pv 3) (pa_cons (pe_callC c__law_pick (hr.mono (by decide)) pass0 (pa_cons (pv 1) (pa_cons (pv 4) pa_nil))) (pa_cons (pe_callC c__law_pick (hr.mono (by decide)) pass0 (pa_cons (pv 1) (pa_cons (pv 4) pa_nil))) pa_nil)))))) (pss_cons (ps_ret pe_bl)
  pss_nil) pss_nil)
  pss_nil))
  (pss_cons (ps_set (i := 6) sc_law.nd rfl (Or.inl rfl) (pe_makeC c_Worth (hr.mono (by decide)) pass0 (pa_cons (pe_ix (ix_any K (hu_of hr)) (pv 3) pe_int (fun _ _ => rfl)) (pa_cons (pe_callC c__law_pick (hr.mono (by decide)) pass0 (pa_cons (pv 1) (pa_cons (pv 4) pa_nil))) pa_nil))))
  (pss_cons (ps_set (i := 7) sc_law.nd rfl (Or.inl rfl) (pe_makeC c_Worth (hr.mono (by decide)) pass0 (pa_cons (pe_makeC c_CountScale (hr.mono (by decide)) passL (pa_cons pe_int pa_nil)) (pa_cons (pe_callC c__law_pick (hr.mono (by decide)) pass0 (pa_cons (pv 1) (pa_cons pe_int pa_nil))) pa_nil))))
  (pss_cons (ps_if (pt_cmpR (op_eqA K hr.units) (pe_callC c__law_pick (hr.mono (by decide)) pass0 (pa_cons (pv 1) (pa_cons pe_int pa_nil))) pe_int (nomark _)) (pss_cons (ps_set (i := 7) sc_law.nd rfl (Or.inl rfl) (pe_makeC c_Worth (hr.mono (by decide)) pass0 (pa_cons (pe_makeC c_TurnedScale (hr.mono (by decide)) passL (pa_cons (pe_ix (ix_any K (hu_of hr)) (pv 3) pe_int (fun _ _ => rfl)) pa_nil)) (pa_cons (pe_fldK K (pv 6)) pa_nil))))
  pss_nil) pss_nil)
  (pss_cons (ps_if (pt_cmpR (op_neA K hr.units) (pe_callC c__law_unknown (hr.mono (by decide)) pass0 (pa_cons (pe_ix (ix_any K (hu_of hr)) (pv 3) pe_int (fun _ _ => rfl)) (pa_cons (pe_op op_addA pe_str (pe_callTy call_strA (by rfl) Z.z_str (by decide +kernel) (pa_cons (pv 4) pa_nil))) pa_nil))) (pe_op op_addA pe_str (pe_callTy call_strA (by rfl) Z.z_str (by decide +kernel) (pa_cons (pv 4) pa_nil))) (nomark _)) (pss_cons (ps_ret pe_bl)
  pss_nil) pss_nil)
  (pss_cons (ps_for PassesOwn.never rfl (pi_range1 (by rfl) Z.z_range (pa_cons pe_int pa_nil)) (pg_name (i := 8) sc_law.nd rfl (Or.inl rfl)) (pss_cons (ps_for PassesOwn.never rfl (pi_listK K (pe_lst (pa_cons (pe_lst (pa_cons (pv 6) (pa_cons (pv 7) pa_nil))) (pa_cons (pe_lst (pa_cons (pv 7) (pa_cons (pv 6) pa_nil))) pa_nil)))) (pg_name (i := 9) sc_law.nd rfl (Or.inl rfl)) (pss_cons (ps_if (pt_cmpR (op_neA K hr.units) (pe_ix (ix_any K (hu_of hr)) (pe_callC c__law_deed (hr.mono (by decide)) pass0 (pa_cons (pe_ix (ix_any K (hu_of hr)) (pv 9) pe_int (fun _ _ => rfl)) (pa_cons (pe_ix (ix_any K (hu_of hr)) (pv 9) pe_int (fun _ _ => rfl)) (pa_cons (pv 8) pa_nil)))) pe_int (fun _ _ => rfl)) pe_str (nomark _)) (pss_cons (ps_ret pe_bl)
  pss_nil) pss_nil)
  pss_nil))
  pss_nil))
  (pss_cons (ps_ret (pe_and (pe_cmpR op_is_bl (pe_cmpR (op_cmpOwn c_wt___eq__ rfl (hr.mono (by decide)) pass0) (pv 6) (pv 7) (nomark _)) pe_bl (nomark _)) (pe_and (pe_cmpR op_is_bl (pe_cmpR (op_eqOwnS c_wt_eqN k_str k_int (hr.mono (by decide)) pass0) (pv 6) (pe_fldK K (pv 6)) (nomark _)) pe_bl (nomark _)) (pe_one (pe_cmpR op_is_bl (pe_cmpR (op_eqOwnS c_wt_eqN k_str k_int (hr.mono (by decide)) pass0) (pv 6) pe_int (nomark _)) pe_bl (nomark _))))))
  pss_nil)))))))))))), ?_⟩
    show tSeq _ _ (Ends.mk _ _ _ _) [some _, none, none, none, none, none, none, none, none, none] _
    refine q_source (fun Q q => ⟨_, rfl, q⟩) hq (by omega) fun sa cl H1 h1 => ?_
    have st := stabS sa cl
    refine q_setI st h1 (ev_pick (ea_consV (ev_var rfl) (ea_consV ev_c ea_nilV)) (by decide) (by decide)) fun sp H2 hsp k2 h2 => ?_
    refine q_set h2 (ev_callSV (kb := 3) (R := IsTb K Cs (fun d => Reg d ∧ Wn d)) (ws := [.ref sa]) (ea_consV (ev_var rfl) ea_nilV) fun G' s' => ⟨rfl, rfl, rfl⟩) fun v3 G3 H3 s3 r3 => ?_
    obtain ⟨t0, names0, nv0, sl0, th0, jn0, rfl, hT0, T0, _, wn0⟩ := r3
    refine q_ifM st (fun σ' H' => ∃ (t : Addr) (names : List Str) (nv sl : Nat) (th jn : Nat → Nat → Int) (G : Hp), σ' = [some (.ref p), some (.ref sa), some (.int sp), some (.ref t), none, none, none, none, none, none] ∧ TbAt K Cs names nv sl th jn t G ∧ TbIs names nv sl th jn ∧ Wn (tabSD names nv sl th jn) ∧ (Src sa cl).s 100 G H') s3.s (et_testV (ev_opV (ev_var rfl) ev_c (v_eqI st))) (fun σ' H' hM => ?_) (fun nx' hM H4 p4 k4 h4 => ?_) (fun nx' hM H4 p4 k4 h4 => q_end (hM _ _ ⟨t0, names0, nv0, sl0, th0, jn0, G3, rfl, hT0, T0, wn0, st.wk h4 (by omega)⟩))
    rotate_left
    · refine q_set h4 (ev_callSV (kb := 4) (R := IsTb K Cs (fun d => d.names = names0)) (ws := [.ref sa, .ref t0]) (ea_consV (ev_var rfl) (ea_consV (ev_var rfl) ea_nilV)) fun G' s' => ⟨t0, names0, nv0, sl0, th0, jn0, rfl, hT0.mono s', T0, rfl, rfl⟩) fun v5 G5 H5 s5 r5 => ?_
      obtain ⟨t1, names1, nv1, sl1, th1, jn1, rfl, hT1, T1, e1⟩ := r5
      exact q_end (hM _ _ ⟨t1, names1, nv1, sl1, th1, jn1, G5, rfl, hT1, T1, fun nm h => by
        have e2 : names1 = names0 := e1
        subst e2
        exact wn0 nm h, st.wk s5.s (by omega)⟩)
    obtain ⟨t, names, nv, sl, th, jn, G, rfl, hT, T, wn, h5⟩ := hM
    obtain ⟨pn, pj, pp, x, gt, gn, tj, tp, sd⟩ := id hT
    have ix : ∀ {n i : Nat} {z : V} {σ : L2.St} {G' : Hp}, Same G G' → σ[3]? = some (some (.ref t)) → [V.ref pn, .ref pj, .ref pp, .int (nv : Nat), .int (sl : Nat), .ref x][i]? = some z → Ev (Src sa cl) n 0 (tOp (rIxA K) (tVar 3) (tC (.int (i : Nat)))) σ G' (IsV z) := fun s' e hz => ev_at st (s' _ _ gt) (ev_var e) hz
    obtain ⟨d, hd⟩ : ∃ d, d = tabSD names nv sl th jn := ⟨_, rfl⟩
    rw [← hd] at sd wn
    have o : SdOk d := by rw [hd]; exact T.sd.1
    have dn : d.names = names := by rw [hd]; rfl
    have nl : d.names.length = names.length := by rw [dn]
    have l1 := T.l1
    have l2 := T.l2
    refine q_setV st h5 (x := .int (names.length : Nat)) (ev_eq (by rw [List.length_map]) (ev_cbV (ea_consV (ix (i := 0) (Same.refl _) rfl rfl) ea_nilV) (c_lenL st (SqL.of gn)))) fun H6 k6 h6 => ?_
    refine q_forR (m := 6) st h6 (ea_consV ev_c ea_nilV) (fun j => 2 * j) (fun j σ' G' H' => ∃ y5, σ' = [some (.ref p), some (.ref sa), some (.int sp), some (.ref t), some (.int (names.length : Nat)), y5, none, none, none, none]) rfl (by decide) (by decide) (fun H8 k8 h8 => ⟨_, rfl⟩) (fun j σ' G8 H8 hj s8 h8 hp => ?_) (fun σ' G8 H8 s8 h8 hp => ?_)
    · obtain ⟨y5, rfl⟩ := hp
      show tSeq _ _ (Ends.mk _ _ _ _) [some (.ref p), some (.ref sa), some (.int sp), some (.ref t), some (.int (names.length : Nat)), some (.int (j : Nat)), none, none, none, none] _
      refine q_if st h8 (P := fun c => c = false) (et_notT (et_B (ev_call (R := IsV (.bl true)) (RA := RCons (IsV (.ref t)) (RCons (IsI fun r => 0 ≤ r ∧ r < (names.length : Nat)) (RCons (IsI fun r => 0 ≤ r ∧ r < (names.length : Nat)) RNil))) st (ea_cons (ev_var rfl) (ea_cons (ev_pick (ea_consV (ev_var rfl) (ea_consV (ev_var rfl) ea_nilV)) (by omega) (by omega)) (ea_cons (ev_pick (ea_consV (ev_var rfl) (ea_consV (ev_var rfl) ea_nilV)) (by omega) (by omega)) ea_nil))) fun vs G' s' h => by
        obtain ⟨_, _, rfl, e1, _, _, rfl, ⟨i, hi, rfl⟩, _, _, rfl, ⟨i2, hi2, rfl⟩, e3⟩ := h
        obtain rfl := (show _ = _ from e1)
        obtain rfl := (show _ = [] from e3)
        obtain ⟨a, rfl⟩ : ∃ a : Nat, i = (a : Nat) := ⟨i.toNat, by omega⟩
        obtain ⟨b, rfl⟩ : ∃ b : Nat, i2 = (b : Nat) := ⟨i2.toNat, by omega⟩
        exact ⟨t, names, nv, sl, th, jn, a, b, rfl, (hT.mono s8).mono s', T, by omega, by omega, rfl⟩))) (fun H9 p9 k9 h9 => by cases p9) (fun H9 p9 k9 h9 => q_end (q_end ⟨G8, s8, st.wk h9 (by omega), _, rfl⟩))
    · obtain ⟨y5, rfl⟩ := hp
      have sd8 := sd.mono s8
      refine q_set h8 (ev_mkWtP (Pp := fun r => 0 ≤ r ∧ r < (names.length : Nat)) st sd8 (fun i h => ⟨h.1, by omega⟩) (ea_cons (ix (i := 5) s8 rfl rfl) (ea_cons (ev_pick (ea_consV (ev_var rfl) (ea_consV (ev_var rfl) ea_nilV)) (by omega) (by omega)) ea_nil))) fun v9 G9 H9 s9 r9 => ?_
      obtain ⟨pm, hpm, wm, rfl, hm⟩ := r9
      have t9 := s8.trans s9.g
      refine q_set s9.s (ev_mkWtSP (P := fun e => e = cntSD 20 true) (Pp := fun r => 0 ≤ r ∧ r < 2) st (fun e i he h => ⟨h.1, by rw [he]; exact Int.lt_of_lt_of_le h.2 (by decide +kernel)⟩) (ea_cons (ev_mkCount0 (Pm := fun i => i = 20) (P := fun e => e = cntSD 20 true) st iC oC (ev_IP ev_c rfl) (fun m h => by omega) (fun m h => by rw [show m = 20 by omega])) (ea_cons (ev_pick (ea_consV (ev_var rfl) (ea_consV ev_c ea_nilV)) (by decide) (by decide)) ea_nil))) fun v10 G10 H10 s10 r10 => ?_
      obtain ⟨_, p10, rfl, _, ws, rfl, hw⟩ := r10
      have lne : d.label ≠ (cntSD 20 true).label := by rw [hd]; exact tab_cnt
      have ldl : d.label.length ≤ 20000 := by rw [hd]; exact T.sd.2
      refine q_ifM st (fun σ' H' => ∃ ws e q G' m, σ' = [some (.ref p), some (.ref sa), some (.int sp), some (.ref t), some (.int (names.length : Nat)), y5, some (.ref wm), some (.ref ws), none, none] ∧ Same G10 G' ∧ WtAt K Cs a_Worth e q ws G' ∧ d.label ≠ e.label ∧ SdOk e ∧ (Src sa cl).s m G' H') s10.s (P := fun _ => True) (et_test (ev_op (Ra := IsI fun r => 0 ≤ r ∧ r < 2) (Rb := IsV (.int 0)) (ev_pick (ea_consV (ev_var rfl) (ea_consV ev_c ea_nilV)) (by decide) (by decide)) ev_c fun u v G' s' eu ev => by
        obtain ⟨i, hi, rfl⟩ := eu
        obtain rfl := (show _ = _ from ev)
        exact rv_imp (v_eqI st) fun v G2 s2 r => ⟨_, trivial, r⟩)) (fun σ' H' hM => ?_) (fun nx' hM H11 p11 k11 h11 => ?_) (fun nx' hM H11 p11 k11 h11 => q_end (hM _ _ ⟨ws, _, _, G10, _, rfl, Same.refl _, hw, lne, (tr_cnt (by decide) true).ok, h11⟩))
      rotate_left
      · have hm10 := hm.mono s10.g
        have lm := hm.lt
        refine q_set h11 (ev_mkWtS (P := fun e => e = turnSD d) (p := pm) st (fun e he => by rw [he]; exact lm) (ea_cons (ev_mkTurn (P1 := fun e => e = d) (P := fun e => e = turnSD d) st iR oR (ev_ScD (sd8.mono (s9.g.trans s10.g)) (ix (i := 5) (t9.trans s10.g) rfl rfl)) (fun e he => ⟨he ▸ o, by rw [he, hd]; exact (by decide : (2 : Int) ≤ 10)⟩) (fun e he => by rw [he])) (ea_cons (ev_wtP st hW hm10 (ev_var rfl)) ea_nil))) fun v12 G12 H12 s12 r12 => ?_
        obtain ⟨_, rfl, ws2, rfl, hw2⟩ := r12
        exact q_end (hM _ _ ⟨ws2, _, _, G12, _, rfl, s12.g, hw2, by rw [hd]; exact tab_trn, o.turn (by omega), s12.s⟩)
      obtain ⟨ws, e, q0, G12, m12, rfl, s1012, hw12, ne12, oe, h12⟩ := hM
      have t12 := (t9.trans s10.g).trans s1012
      have hm12 := hm.mono (s10.g.trans s1012)
      have sm := str_small names.length (by omega)
      have wstr : ∀ {n : Nat} {σ : L2.St} {G' : Hp}, σ[4]? = some (some (.int (names.length : Nat))) → Ev (Src sa cl) n 0 (tOp rAddA (tC (.str ("w" : Str))) (tCB rStrI (tCons (tVar 4) tNil))) σ G' (IsV (.str (("w" : Str) ++ (toString ((names.length : Nat) : Int) : Str)))) := fun e => ev_opV ev_c (ev_cbV (ea_consV (ev_var e) ea_nilV) (c_str st sm.1)) (v_adds st (Nat.le_trans sm.2 (by decide)))
      have wnot : ("w" : Str) ++ (toString ((names.length : Nat) : Int) : Str) ∉ d.names := by
        have := wn.not (by omega)
        rw [nl] at this
        exact this
      refine q_if st h12 (P := fun c => c = false) (et_neFS st (ev_callV (R := IsV (.str (("w" : Str) ++ (toString ((names.length : Nat) : Int) : Str)))) (ws := [.ref x, .str (("w" : Str) ++ (toString ((names.length : Nat) : Int) : Str))]) st (ea_consV (ix (i := 5) t12 rfl rfl) (ea_consV (wstr rfl) ea_nilV)) fun G' s' => ⟨x, d, _, rfl, (sd.mono t12).mono s', o, wnot, rfl⟩) (wstr rfl) rfl) (fun H13 p13 k13 h13 => by cases p13) (fun H13 p13 k13 h13 => q_end ?_)
      refine q_forR (m := 4) st h13 (ea_consV ev_c ea_nilV) (fun _ => 0) (fun i σ' G' H' => ∃ y8 y9, σ' = [some (.ref p), some (.ref sa), some (.int sp), some (.ref t), some (.int (names.length : Nat)), y5, some (.ref wm), some (.ref ws), y8, y9]) rfl (by decide) (by decide) (fun H14 k14 h14 => ⟨_, _, rfl⟩) (fun i σ' G14 H14 hi s14 h14 hp => ?_) (fun σ' G14 H14 s14 h14 hp => ?_)
      · obtain ⟨y8, y9, rfl⟩ := hp
        have i4 : i < 4 := by omega
        show tSeq _ _ (Ends.mk _ _ _ _) [some (.ref p), some (.ref sa), some (.int sp), some (.ref t), some (.int (names.length : Nat)), y5, some (.ref wm), some (.ref ws), some (.int (i : Nat)), y9] _
        refine q_forPX (RA := RCons (IsNew G14 (.lst [.ref wm, .ref ws])) (RCons (IsNew G14 (.lst [.ref ws, .ref wm])) RNil)) st h14 (ev_lstX st (ea_cons (ev_lstN st (ea_consV (ev_var rfl) (ea_consV (ev_var rfl) ea_nilV)) (by simp)) (ea_cons (ev_lstN st (ea_consV (ev_var rfl) (ea_consV (ev_var rfl) ea_nilV)) (by simp)) ea_nil)) (fun vs G' h => by
          obtain ⟨_, _, rfl, _, _, _, rfl, _, h⟩ := h
          rw [show _ = _ from h]
          simp)) (fun j σ' => ∃ y9', σ' = [some (.ref p), some (.ref sa), some (.int sp), some (.ref t), some (.int (names.length : Nat)), y5, some (.ref wm), some (.ref ws), some (.int (i : Nat)), y9']) ⟨_, rfl⟩ fun pl xs G15 H15 s15 g15 rx => ⟨fun j z σ' J hz hp sJ => ?_, fun σ' J hp sJ => ?_⟩
        · obtain ⟨y9', rfl⟩ := hp
          obtain ⟨_, _, rfl, ⟨l1', rfl, _, gl1⟩, _, _, rfl, ⟨l2', rfl, _, gl2⟩, hnil⟩ := rx
          obtain rfl := (show _ = [] from hnil)
          have hm15 := hm12.mono (s14.trans s15.g)
          have hw15 := hw12.mono (s14.trans s15.g)
          have both : ∃ (la u v : Addr) (du dv : SD) (pu pv : Nat), z = .ref la ∧ G15 la = some (.lst [.ref u, .ref v]) ∧ WtAt K Cs a_Worth du pu u G15 ∧ WtAt K Cs a_Worth dv pv v G15 ∧ SdOk du ∧ du.label ≠ dv.label := by
            match j, hz with
            | 0, hz =>
              cases hz
              exact ⟨l1', wm, ws, d, e, _, _, rfl, gl1, hm15, hw15, o, ne12⟩
            | 1, hz =>
              cases hz
              exact ⟨l2', ws, wm, e, d, _, _, rfl, gl2, hw15, hm15, oe, ne12.symm⟩
            | n + 2, hz => cases hz
          obtain ⟨la, u, v, du, dv, pu, pv, rfl, gla, hu, hv, ou, nuv⟩ := both
          show tSeq _ _ (Ends.mk _ _ _ _) [some (.ref p), some (.ref sa), some (.int sp), some (.ref t), some (.int (names.length : Nat)), y5, some (.ref wm), some (.ref ws), some (.int (i : Nat)), some (.ref la)] _
          refine q_if st sJ.s (P := fun c => c = false) (et_neFS (i := ("mixed" : Str)) st (ev_op (Ra := IsBl [.str ("mixed" : Str), .non]) (Rb := IsV (.int 0)) (ev_callV (ws := [.ref u, .ref v, .int (i : Nat)]) st (ea_consV (ev_at (k := 0) st gla (ev_var rfl) rfl) (ea_consV (ev_at (k := 1) st gla (ev_var rfl) rfl) (ea_consV (ev_var rfl) ea_nilV))) fun G' s' => ⟨u, v, du, dv, pu, pv, i, rfl, i4, hu.mono s', hv.mono s', ou, nuv, rfl⟩) ev_c fun a b G' s' ea eb => by
            obtain ⟨pb, rfl, gb⟩ := ea
            obtain rfl := (show _ = _ from eb)
            exact v_ixL st (SqL.of gb) (atI_nat (j := 0) rfl)) ev_c rfl) (fun H16 p16 k16 h16 => by cases p16) (fun H16 p16 k16 h16 => q_end (q_end ⟨⟨_, rfl⟩, sJ.go k16 h16⟩))
        · obtain ⟨y9', rfl⟩ := hp
          exact q_end ⟨G15, s14.trans s15.g, sJ.s, _, _, rfl⟩
      · obtain ⟨y8, y9, rfl⟩ := hp
        have hm14 := hm12.mono s14
        have hw14 := hw12.mono s14
        obtain ⟨dy, gs, gw⟩ := hm14.at
        have isF : ∀ {n k : Nat} {te : TE} {σ : L2.St}, Ev (Src sa cl) n k te σ G14 (IsV (.bl false)) → Ev (Src sa cl) n k (tOp (fun x y H Q => ∃ a b, x = V.bl a ∧ y = V.bl b ∧ Q (.bl (decide (a = b))) H) te (tC (.bl false))) σ G14 (IsV (.bl true)) := fun h => ev_opV h ev_c (v_isB st)
        refine q_retV st h14 (ev_andT st (isF (ev_opV (ev_var rfl) (ev_var rfl) ((rv_imp (v_eqW st hm14 hw14) fun v G' _ h => by rw [show v = _ from h, decide_eq_false ne12]; rfl))))
          (ev_andT st (isF (ev_opV (ev_var rfl) (ev_wtN st hW hm14 (ev_var rfl)) (v_eqS' st gw (.inl ⟨_, rfl⟩) fun G' s' => ⟨wm, d, pm, _, rfl, hm14.mono s', .inl ⟨_, rfl⟩, rfl⟩)))
            (isF (ev_opV (ev_var rfl) ev_c (v_eqS' st gw (.inr ⟨_, rfl⟩) fun G' s' => ⟨wm, d, pm, _, rfl, hm14.mono s', .inr ⟨_, rfl⟩, rfl⟩))))) fun H9 k9 h9 => q _
end
end L2.DS
namespace L2.DS
open PySem PySem.Spec PyProof.Rows
theorem bind_Scale {K : PySem.W.Frag} {f : Addr} {fd : FuncData} (F : FunD K "__init__" "Scale.__init__" (defArgs s_Scale___init__) (defBody s_Scale___init__) (defScope s_Scale___init__) [.int 1] [] f fd) : ∃ ds, Vals [.int 1] ds ∧ Binds K fd ["self", "label", "names", "never_at", "still_at", "depth"] ds :=
  F.binds1 5 0 (by decide) rfl fun T kV doc pm an cdv ct us its h1 h2 => match us, its, h1, h2 with
    | [_, _, _, _, _], [_], _, _ => ⟨_, rfl, rfl⟩
theorem bind_Scale6 {K : PySem.W.Frag} {f : Addr} {fd : FuncData} (F : FunD K "__init__" "Scale.__init__" (defArgs s_Scale___init__) (defBody s_Scale___init__) (defScope s_Scale___init__) [.int 1] [] f fd) : ∃ ds, Vals [] ds ∧ Binds K fd ["self", "label", "names", "never_at", "still_at", "depth"] ds :=
  F.binds1 6 1 (by decide) rfl fun T kV doc pm an cdv ct us its h1 h2 => match us, its, h1, h2 with
    | [_, _, _, _, _, _], [_], _, _ => ⟨_, rfl, rfl⟩
theorem FunSD.kbindsN {prog : Program} {K : PySem.W.Frag} {x qual : Str} {st : Stmt} {kws : List (Str × V)} {f D : Addr} {fd : FuncData} {ps : List Str} (F : FunSD prog K x qual st [] kws f fd D) (n : Nat) (ks : List Str)
    (h : ∀ (cc : Addr) (kV doc pm : Value) (an : Option Addr) (cdv ct : Value) (us ws : List Value), us.length = n → ws.length = ks.length → bindArgs (PySem.W.fnX x qual (defArgs st) (defBody st) (defScope st) [("__class__", cc)] .none kV doc pm an cdv ct) ⟨us, ks.zip ws⟩ = pure (ps.zip (us ++ ws))) :
    KBn K fd ps n ks (fun us ws => us ++ ws) (fun vs zs => vs ++ zs) := by
  obtain ⟨oc, od, dV, kV, doc, pm, an, cda, ct, osl, cc, ol, vs, file, tf, ccl, ccd, csl, rfl, h2, h3, h4, h5, h6, h7, h8, hD, hK⟩ := F.ex
  rcases hD with ⟨_, rfl⟩ | ⟨e, _⟩
  · exact ⟨fun s us ws X l1 l2 => .of_eq (h cc kV doc pm an (.ref cda) ct us ws l1 l2), fun r1 r2 => r1.append r2⟩
  · exact absurd rfl e
abbrev s_UnknownWorth___init__ : Stmt := inClass (top 7) 0
theorem exi_fn {fd : FuncData} {s : Shared} {x v : Value} (e1 : fd.params = defArgs s_UnknownWorth___init__) (e2 : fd.scope = defScope s_UnknownWorth___init__) (e3 : fd.defaults = .none) (e4 : fd.kwdefaults = .none) : BindsTo s fd ⟨[x, v], []⟩ [("self", x), ("name", v)] := by
  refine .of_eq ?_
  unfold bindArgs
  rw [e1, e3, e4]
  rfl
theorem bind_Wn {P : Program} {K : PySem.W.Frag} {f D : Addr} {fd : FuncData} (F : FunSD P K "__init__" "WithNever.__init__" s_WithNever___init__ [] [] f fd D) : Binds K fd ["self", "label", "contents", "words"] [] :=
  F.bindsN fun cc kV doc pm an cdv ct us h => match us, h with
    | [_, _, _, _], _ => rfl
theorem bind_Tu {P : Program} {K : PySem.W.Frag} {f D : Addr} {fd : FuncData} (F : FunSD P K "__init__" "TurnedScale.__init__" s_TurnedScale___init__ [] [] f fd D) : Binds K fd ["self", "inner"] [] :=
  F.bindsN fun cc kV doc pm an cdv ct us h => match us, h with
    | [_, _], _ => rfl
theorem bind_Cs {P : Program} {K : PySem.W.Frag} {f D : Addr} {fd : FuncData} (F : FunSD P K "__init__" "CountScale.__init__" s_CountScale___init__ [] [("order", .str "up")] f fd D) : ∃ ds, Vals [.str ("up" : Str)] ds ∧ Binds K fd ["self", "most", "order"] ds :=
  F.binds0 2 (by decide) rfl fun cc D doc pm an cdv ct us ks h1 h2 => match us, ks, h1, h2 with
    | [_, _], [_], _, _ => ⟨_, _, _, _, _, _, rfl, rfl, rfl⟩
theorem bindK_Cs {P : Program} {K : PySem.W.Frag} {f D : Addr} {fd : FuncData} (F : FunSD P K "__init__" "CountScale.__init__" s_CountScale___init__ [] [("order", .str "up")] f fd D) : ∃ g : List Value → List Value → List Value, KBn K fd ["self", "most", "order"] 2 ["order"] g (fun vs zs => vs ++ zs) := by
  obtain ⟨mv, h⟩ := F.kbinds0 (ps := ["self", "most", "order"]) 2 ["order"] [] (fun us _ ws => us ++ ws) (by decide) (fun q h => by cases h) (fun r1 _ r3 => r1.append r3) fun cc D doc pm an cdv ct us mv ws h1 h2 h3 => match us, mv, ws, h1, h2, h3 with
    | [_, _], [], [_], _, _, _ => rfl
  exact ⟨_, h⟩
theorem bindK_Tb {P : Program} {K : PySem.W.Frag} {f D : Addr} {fd : FuncData} (F : FunSD P K "__init__" "TableScale.__init__" s_TableScale___init__ [] [] f fd D) : KBn K fd ["self", "names", "joins", "products", "never", "still"] 4 ["never", "still"] (fun us ws => us ++ ws) (fun vs zs => vs ++ zs) :=
  F.kbindsN 4 ["never", "still"] fun cc kV doc pm an cdv ct us ws h1 h2 => match us, ws, h1, h2 with
    | [_, _, _, _], [_, _], _, _ => rfl
end L2.DS
/-! What the looks say: defs with a closure over their class, own errors. -/
namespace L2.DS
open PySem PySem.Spec PyProof.Rows
section
variable {P : Program} {K : Fg} {f D C : Addr} {x qual file z nm : Str} {st : Stmt}
theorem ckFile_ok {vs : Array Value} (h : ckFile file vs = true) : ∃ fi tf, vs[2]? = some (.str fi tf) ∧ (file == fi) = true := by
  unfold ckFile at h
  split at h
  · rename_i fi tf e
    exact ⟨fi, tf, e, h⟩
  · cases h
theorem ckFlds_ok {o : Option Obj} (h : ckFlds file o = true) : ∃ c1 oc1 vs sl1, o = some ⟨c1, oc1, .fields vs, sl1⟩ ∧ ∃ fi tf, vs[2]? = some (.str fi tf) ∧ (file == fi) = true := by
  unfold ckFlds at h
  split at h
  · rename_i c1 oc1 vs sl1
    exact ⟨c1, oc1, vs, sl1, rfl, ckFile_ok h⟩
  · cases h
theorem ckCode_ok {v : Value} (h : ckCode file K qual v = true) : ∃ cda, v = .ref cda ∧ PySem.W.codeIn K (.ref cda) qual = true ∧ ckFlds file (K.lookup cda) = true := by
  unfold ckCode at h
  split at h
  · rename_i cda
    exact ⟨cda, rfl, and2 h⟩
  · cases h
theorem ckCell_ok {o : Option Obj} (h : ckCell D o = true) : ∃ c2 oc2 sl2, o = some ⟨c2, oc2, .cell (some (.ref D)), sl2⟩ := by
  unfold ckCell at h
  split at h
  · rename_i c2 oc2 D' sl2
    rw [of_decide_eq_true h]
    exact ⟨c2, oc2, sl2, rfl⟩
  · cases h
theorem ckClo_ok {l : List (Str × Addr)} (h : ckClo K D l = true) : ∃ cc, l = [(("__class__" : Str), cc)] ∧ ckCell D (K.lookup cc) = true := by
  unfold ckClo at h
  split at h
  · rename_i y cc
    obtain ⟨a, b⟩ := and2 h
    rw [of_decide_eq_true a]
    exact ⟨cc, rfl, b⟩
  · cases h
/-- all that stands behind a def that says super() -/
theorem sup_of (e : fnU K f = some (x, qual, defArgs st, .stmts (defBody st), defScope st, mainGlobals, builtinsNs)) (c : ckSup file K f D qual = true) :
    ∃ (oc : Value) (od : Option Addr) (kV doc pm : Value) (an : Option Addr) (cda : Addr) (ct : Value) (osl : Array (Option Value)) (cc : Addr) (c1 : Value) (oc1 : Option Addr) (vs : Array Value) (sl1 : Array (Option Value)) (fi : Str) (tf : Tok) (c2 : Value) (oc2 : Option Addr) (sl2 : Array (Option Value)),
    K.lookup f = some ⟨oc, od, .func (PySem.W.fnX x qual (defArgs st) (defBody st) (defScope st) [("__class__", cc)] .none kV doc pm an (.ref cda) ct), osl⟩ ∧ PySem.W.codeIn K (.ref cda) qual = true ∧ K.lookup cda = some ⟨c1, oc1, .fields vs, sl1⟩ ∧ vs[2]? = some (.str fi tf) ∧ (file == fi) = true ∧
    K.lookup cc = some ⟨c2, oc2, .cell (some (.ref D)), sl2⟩ ∧ PySem.W.keepIn K (.ref f) = true ∧ PySem.W.fnIn K f = true ∧ PySem.W.typeIn K (.ref f) = some (.type "function") ∧ (fdA K f).kwdefaults = kV := by
  obtain ⟨oc, od, osl, cl, dV, kV, doc, pm, an, cdv, ct, l⟩ := fnU_ok e
  obtain ⟨k, c⟩ := and2 c
  obtain ⟨k1, c⟩ := and2 c
  obtain ⟨k2, c⟩ := and2 c
  have kw : (fdA K f).kwdefaults = kV := by
    unfold fdA
    rw [l]
  rw [l] at c
  obtain ⟨a1, c⟩ := and2 c
  obtain ⟨a2, a3⟩ := and2 c
  obtain rfl := isNon_ok a1
  obtain ⟨cc, rfl, b1⟩ := ckClo_ok a2
  obtain ⟨cda, rfl, b2, b3⟩ := ckCode_ok a3
  obtain ⟨c1, oc1, vs, sl1, d1, fi, tf, d2, d3⟩ := ckFlds_ok b3
  obtain ⟨c2, oc2, sl2, e1⟩ := ckCell_ok b1
  exact ⟨oc, od, kV, doc, pm, an, cda, ct, osl, cc, c1, oc1, vs, sl1, fi, tf, c2, oc2, sl2, l, b2, d1, d2, d3, e1, k, k1, of_decide_eq_true k2, kw⟩
/-- a plain def, piece by piece -/
theorem fnl_of (e : fnU K f = some (x, qual, defArgs st, .stmts (defBody st), defScope st, mainGlobals, builtinsNs)) (c : ckFn K f qual = true) : ∃ oc od kV doc pm an cdv ct osl, K.lookup f = some ⟨oc, od, .func (PySem.W.fnOf x qual (defArgs st) (defBody st) (defScope st) .none kV doc pm an cdv ct), osl⟩ ∧ PySem.W.codeIn K cdv qual = true ∧ PySem.W.keepIn K (.ref f) = true := by
  obtain ⟨fd, F⟩ := fun_of e c
  obtain ⟨oc, od, kV, doc, pm, an, cdv, ct, osl, rfl, l, c2⟩ := F.ex
  exact ⟨oc, od, kV, doc, pm, an, cdv, ct, osl, l, c2, F.kp⟩
theorem fnlI_of {i : Int} (e : fnU K f = some (x, qual, defArgs st, .stmts (defBody st), defScope st, mainGlobals, builtinsNs)) (c : ckFnI K f qual i = true) : ∃ T oc od kV doc pm an cdv ct osl cT dT tT n slT, K.lookup f = some ⟨oc, od, .func (PySem.W.fnOf x qual (defArgs st) (defBody st) (defScope st) (.ref T) kV doc pm an cdv ct), osl⟩ ∧ PySem.W.codeIn K cdv qual = true ∧ PySem.W.keepIn K (.ref f) = true ∧
    K.lookup T = some ⟨cT, dT, .seq [Value.int i tT].toArray n, slT⟩ := by
  obtain ⟨fd, F⟩ := funI_of e c
  obtain ⟨oc, od, dV, kV, doc, pm, an, cdv, ct, osl, rfl, l, c2, hD, _⟩ := F.ex
  rcases hD with ⟨a1, a2⟩ | ⟨_, T, o, its, n, rfl, lT, hd, r⟩
  · first | exact absurd a2 (by simp) | exact absurd a1 (by simp)
  · obtain ⟨cT, dT, dt, slT⟩ := o
    dsimp only at hd
    subst hd
    match its, r with
    | [u], r =>
      obtain ⟨t, rfl⟩ : ∃ t, u = Value.int i t := by
        cases r with
        | cons a _ => exact a
      exact ⟨T, oc, od, kV, doc, pm, an, cdv, ct, osl, cT, dT, t, n, slT, l, c2, F.kp, lT⟩
theorem ckKw_ok (h : ckKw K f nm z = true) : ∃ D t, (fdA K f).kwdefaults = .ref D ∧ PySem.W.nsIn K D nm = some (some (.str z t)) := by
  unfold ckKw at h
  split at h
  · rename_i D' e
    split at h
    · rename_i y t e2
      obtain rfl := of_decide_eq_true h
      exact ⟨D', t, e, e2⟩
    · cases h
  · cases h
theorem ckCls_ok2 (h : ckCls K D = true) : ∃ a b cd d, K.lookup D = some ⟨a, b, .cls cd, d⟩ := by
  unfold ckCls at h
  split at h
  · rename_i a b cd d e
    exact ⟨a, b, cd, d, e⟩
  · cases h
theorem nsInt_of {i : Int} (h : ckInt K x i = true) : ∃ t, PySem.W.nsIn K mainGlobals x = some (some (.int i t)) := by
  unfold ckInt at h
  split at h
  · rename_i j t e
    obtain rfl := of_decide_eq_true h
    exact ⟨t, e⟩
  · cases h
theorem nsStr_of (h : ckStr K x z = true) : ∃ t, PySem.W.nsIn K mainGlobals x = some (some (.str z t)) := by
  unfold ckStr at h
  split at h
  · rename_i j t e
    obtain rfl := of_decide_eq_true h
    exact ⟨t, e⟩
  · cases h
end
end L2.DS
namespace L2.DS
open PySem PySem.Spec PyProof.Rows
theorem all_mk {l : PySem.W.OpenLaw} {w : World} {K : PySem.W.Frag} {h : Heap} {mg : Str → Option Value} {fa : Addr} {CU : Addr} {CN : Addr} {CS : Addr} {CW : Addr} {CT : Addr} {CC : Addr} {CR : Addr} {f_UnknownWorth___init__ cda_UnknownWorth___init__ cc_UnknownWorth___init__ : Addr} {od_UnknownWorth___init__ an_UnknownWorth___init__ : Option Addr} {sl_UnknownWorth___init__ : Array (Option Value)} {oc_UnknownWorth___init__ dc_UnknownWorth___init__ pm_UnknownWorth___init__ ct_UnknownWorth___init__ : Value} {q1_UnknownWorth___init__ q2_UnknownWorth___init__ : Value} {e1_UnknownWorth___init__ e2_UnknownWorth___init__ : Option Addr} {g1_UnknownWorth___init__ g2_UnknownWorth___init__ : Array (Option Value)} {vs_UnknownWorth___init__ : Array Value} {fi_UnknownWorth___init__ : Str} {tf_UnknownWorth___init__ : Tok} {f_Scale___init__ T_Scale___init__ : Addr} {od_Scale___init__ an_Scale___init__ : Option Addr} {sl_Scale___init__ : Array (Option Value)} {oc_Scale___init__ kV_Scale___init__ dc_Scale___init__ pm_Scale___init__ cd_Scale___init__ ct_Scale___init__ : Value} {cT : Value} {dT : Option Addr} {slT : Array (Option Value)} {tT : Tok} {nT : Nat} {tM : Tok} {f_cut_down : Addr} {od_cut_down an_cut_down : Option Addr} {sl_cut_down : Array (Option Value)} {oc_cut_down kV_cut_down dc_cut_down pm_cut_down cd_cut_down ct_cut_down : Value} {f_number_name : Addr} {od_number_name an_number_name : Option Addr} {sl_number_name : Array (Option Value)} {oc_number_name kV_number_name dc_number_name pm_number_name cd_number_name ct_number_name : Value} {tS : Tok} {f_is_table_name : Addr} {od_is_table_name an_is_table_name : Option Addr} {sl_is_table_name : Array (Option Value)} {oc_is_table_name kV_is_table_name dc_is_table_name pm_is_table_name cd_is_table_name ct_is_table_name : Value} {f_table_places : Addr} {od_table_places an_table_places : Option Addr} {sl_table_places : Array (Option Value)} {oc_table_places kV_table_places dc_table_places pm_table_places cd_table_places ct_table_places : Value} {tD : Tok} {f_depth_above : Addr} {od_depth_above an_depth_above : Option Addr} {sl_depth_above : Array (Option Value)} {oc_depth_above kV_depth_above dc_depth_above pm_depth_above cd_depth_above ct_depth_above : Value} {f_Scale_then_at : Addr} {od_Scale_then_at an_Scale_then_at : Option Addr} {sl_Scale_then_at : Array (Option Value)} {oc_Scale_then_at kV_Scale_then_at dc_Scale_then_at pm_Scale_then_at cd_Scale_then_at ct_Scale_then_at : Value} {f_Scale_join_at : Addr} {od_Scale_join_at an_Scale_join_at : Option Addr} {sl_Scale_join_at : Array (Option Value)} {oc_Scale_join_at kV_Scale_join_at dc_Scale_join_at pm_Scale_join_at cd_Scale_join_at ct_Scale_join_at : Value} {f_Scale_within_at : Addr} {od_Scale_within_at an_Scale_within_at : Option Addr} {sl_Scale_within_at : Array (Option Value)} {oc_Scale_within_at kV_Scale_within_at dc_Scale_within_at pm_Scale_within_at cd_Scale_within_at ct_Scale_within_at : Value} {f_Scale_name_at : Addr} {od_Scale_name_at an_Scale_name_at : Option Addr} {sl_Scale_name_at : Array (Option Value)} {oc_Scale_name_at kV_Scale_name_at dc_Scale_name_at pm_Scale_name_at cd_Scale_name_at ct_Scale_name_at : Value} {f_Scale_at_name : Addr} {od_Scale_at_name an_Scale_at_name : Option Addr} {sl_Scale_at_name : Array (Option Value)} {oc_Scale_at_name kV_Scale_at_name dc_Scale_at_name pm_Scale_at_name cd_Scale_at_name ct_Scale_at_name : Value} {f_TableScale_make_then : Addr} {od_TableScale_make_then an_TableScale_make_then : Option Addr} {sl_TableScale_make_then : Array (Option Value)} {oc_TableScale_make_then kV_TableScale_make_then dc_TableScale_make_then pm_TableScale_make_then cd_TableScale_make_then ct_TableScale_make_then : Value} {f_TableScale_make_join : Addr} {od_TableScale_make_join an_TableScale_make_join : Option Addr} {sl_TableScale_make_join : Array (Option Value)} {oc_TableScale_make_join kV_TableScale_make_join dc_TableScale_make_join pm_TableScale_make_join cd_TableScale_make_join ct_TableScale_make_join : Value} {f_CountScale_behind : Addr} {od_CountScale_behind an_CountScale_behind : Option Addr} {sl_CountScale_behind : Array (Option Value)} {oc_CountScale_behind kV_CountScale_behind dc_CountScale_behind pm_CountScale_behind cd_CountScale_behind ct_CountScale_behind : Value} {f_CountScale_either : Addr} {od_CountScale_either an_CountScale_either : Option Addr} {sl_CountScale_either : Array (Option Value)} {oc_CountScale_either kV_CountScale_either dc_CountScale_either pm_CountScale_either cd_CountScale_either ct_CountScale_either : Value} {f_WithNever_make_then : Addr} {od_WithNever_make_then an_WithNever_make_then : Option Addr} {sl_WithNever_make_then : Array (Option Value)} {oc_WithNever_make_then kV_WithNever_make_then dc_WithNever_make_then pm_WithNever_make_then cd_WithNever_make_then ct_WithNever_make_then : Value} {f_WithNever_make_join : Addr} {od_WithNever_make_join an_WithNever_make_join : Option Addr} {sl_WithNever_make_join : Array (Option Value)} {oc_WithNever_make_join kV_WithNever_make_join dc_WithNever_make_join pm_WithNever_make_join cd_WithNever_make_join ct_WithNever_make_join : Value} {f_TurnedScale_make_then : Addr} {od_TurnedScale_make_then an_TurnedScale_make_then : Option Addr} {sl_TurnedScale_make_then : Array (Option Value)} {oc_TurnedScale_make_then kV_TurnedScale_make_then dc_TurnedScale_make_then pm_TurnedScale_make_then cd_TurnedScale_make_then ct_TurnedScale_make_then : Value} {f_TurnedScale_make_join : Addr} {od_TurnedScale_make_join an_TurnedScale_make_join : Option Addr} {sl_TurnedScale_make_join : Array (Option Value)} {oc_TurnedScale_make_join kV_TurnedScale_make_join dc_TurnedScale_make_join pm_TurnedScale_make_join cd_TurnedScale_make_join ct_TurnedScale_make_join : Value} {f_WithNever___init__ cda_WithNever___init__ cc_WithNever___init__ : Addr} {od_WithNever___init__ an_WithNever___init__ : Option Addr} {sl_WithNever___init__ : Array (Option Value)} {oc_WithNever___init__ kV_WithNever___init__ dc_WithNever___init__ pm_WithNever___init__ ct_WithNever___init__ : Value} {q1_WithNever___init__ q2_WithNever___init__ q3_WithNever___init__ : Value} {e1_WithNever___init__ e2_WithNever___init__ e3_WithNever___init__ : Option Addr} {g1_WithNever___init__ g2_WithNever___init__ g3_WithNever___init__ : Array (Option Value)} {vs_WithNever___init__ : Array Value} {fi_WithNever___init__ : Str} {tf_WithNever___init__ : Tok} {cl_WithNever___init__ : ClassData} {f_TableScale___init__ cda_TableScale___init__ cc_TableScale___init__ : Addr} {od_TableScale___init__ an_TableScale___init__ : Option Addr} {sl_TableScale___init__ : Array (Option Value)} {oc_TableScale___init__ kV_TableScale___init__ dc_TableScale___init__ pm_TableScale___init__ ct_TableScale___init__ : Value} {q1_TableScale___init__ q2_TableScale___init__ q3_TableScale___init__ : Value} {e1_TableScale___init__ e2_TableScale___init__ e3_TableScale___init__ : Option Addr} {g1_TableScale___init__ g2_TableScale___init__ g3_TableScale___init__ : Array (Option Value)} {vs_TableScale___init__ : Array Value} {fi_TableScale___init__ : Str} {tf_TableScale___init__ : Tok} {cl_TableScale___init__ : ClassData} {kd_CountScale___init__ : Addr} {tk_CountScale___init__ : Tok} {f_CountScale___init__ cda_CountScale___init__ cc_CountScale___init__ : Addr} {od_CountScale___init__ an_CountScale___init__ : Option Addr} {sl_CountScale___init__ : Array (Option Value)} {oc_CountScale___init__ dc_CountScale___init__ pm_CountScale___init__ ct_CountScale___init__ : Value} {q1_CountScale___init__ q2_CountScale___init__ q3_CountScale___init__ : Value} {e1_CountScale___init__ e2_CountScale___init__ e3_CountScale___init__ : Option Addr} {g1_CountScale___init__ g2_CountScale___init__ g3_CountScale___init__ : Array (Option Value)} {vs_CountScale___init__ : Array Value} {fi_CountScale___init__ : Str} {tf_CountScale___init__ : Tok} {cl_CountScale___init__ : ClassData} {f_TurnedScale___init__ cda_TurnedScale___init__ cc_TurnedScale___init__ : Addr} {od_TurnedScale___init__ an_TurnedScale___init__ : Option Addr} {sl_TurnedScale___init__ : Array (Option Value)} {oc_TurnedScale___init__ kV_TurnedScale___init__ dc_TurnedScale___init__ pm_TurnedScale___init__ ct_TurnedScale___init__ : Value} {q1_TurnedScale___init__ q2_TurnedScale___init__ q3_TurnedScale___init__ : Value} {e1_TurnedScale___init__ e2_TurnedScale___init__ e3_TurnedScale___init__ : Option Addr} {g1_TurnedScale___init__ g2_TurnedScale___init__ g3_TurnedScale___init__ : Array (Option Value)} {vs_TurnedScale___init__ : Array Value} {fi_TurnedScale___init__ : Str} {tf_TurnedScale___init__ : Tok} {cl_TurnedScale___init__ : ClassData} {f__law_source : Addr} {od__law_source an__law_source : Option Addr} {sl__law_source : Array (Option Value)} {oc__law_source kV__law_source dc__law_source pm__law_source cd__law_source ct__law_source : Value} {f__law_pick : Addr} {od__law_pick an__law_pick : Option Addr} {sl__law_pick : Array (Option Value)} {oc__law_pick kV__law_pick dc__law_pick pm__law_pick cd__law_pick ct__law_pick : Value} {f__law_join : Addr} {od__law_join an__law_join : Option Addr} {sl__law_join : Array (Option Value)} {oc__law_join kV__law_join dc__law_join pm__law_join cd__law_join ct__law_join : Value} {f__law_then : Addr} {od__law_then an__law_then : Option Addr} {sl__law_then : Array (Option Value)} {oc__law_then kV__law_then dc__law_then pm__law_then cd__law_then ct__law_then : Value} {f__law_tables : Addr} {od__law_tables an__law_tables : Option Addr} {sl__law_tables : Array (Option Value)} {oc__law_tables kV__law_tables dc__law_tables pm__law_tables cd__law_tables ct__law_tables : Value} {f__law_table_scale : Addr} {od__law_table_scale an__law_table_scale : Option Addr} {sl__law_table_scale : Array (Option Value)} {oc__law_table_scale kV__law_table_scale dc__law_table_scale pm__law_table_scale cd__law_table_scale ct__law_table_scale : Value} {CWt : Addr} {f_Worth___init__ : Addr} {od_Worth___init__ an_Worth___init__ : Option Addr} {sl_Worth___init__ : Array (Option Value)} {oc_Worth___init__ kV_Worth___init__ dc_Worth___init__ pm_Worth___init__ cd_Worth___init__ ct_Worth___init__ : Value} {f_Worth___eq__ : Addr} {od_Worth___eq__ an_Worth___eq__ : Option Addr} {sl_Worth___eq__ : Array (Option Value)} {oc_Worth___eq__ kV_Worth___eq__ dc_Worth___eq__ pm_Worth___eq__ cd_Worth___eq__ ct_Worth___eq__ : Value} {A_MixedScales : Addr} {f_together : Addr} {od_together an_together : Option Addr} {sl_together : Array (Option Value)} {oc_together kV_together dc_together pm_together cd_together ct_together : Value} {f_Worth___mul__ : Addr} {od_Worth___mul__ an_Worth___mul__ : Option Addr} {sl_Worth___mul__ : Array (Option Value)} {oc_Worth___mul__ kV_Worth___mul__ dc_Worth___mul__ pm_Worth___mul__ cd_Worth___mul__ ct_Worth___mul__ : Value} {f_Worth___or__ : Addr} {od_Worth___or__ an_Worth___or__ : Option Addr} {sl_Worth___or__ : Array (Option Value)} {oc_Worth___or__ kV_Worth___or__ dc_Worth___or__ pm_Worth___or__ cd_Worth___or__ ct_Worth___or__ : Value} {f_Worth___le__ : Addr} {od_Worth___le__ an_Worth___le__ : Option Addr} {sl_Worth___le__ : Array (Option Value)} {oc_Worth___le__ kV_Worth___le__ dc_Worth___le__ pm_Worth___le__ cd_Worth___le__ ct_Worth___le__ : Value} {f_Worth___lt__ : Addr} {od_Worth___lt__ an_Worth___lt__ : Option Addr} {sl_Worth___lt__ : Array (Option Value)} {oc_Worth___lt__ kV_Worth___lt__ dc_Worth___lt__ pm_Worth___lt__ cd_Worth___lt__ ct_Worth___lt__ : Value} {f_Worth___str__ : Addr} {od_Worth___str__ an_Worth___str__ : Option Addr} {sl_Worth___str__ : Array (Option Value)} {oc_Worth___str__ kV_Worth___str__ dc_Worth___str__ pm_Worth___str__ cd_Worth___str__ ct_Worth___str__ : Value} {p_Worth_still f_Worth_still : Addr} {r_Worth_still : List Value} {od_Worth_still an_Worth_still : Option Addr} {sl_Worth_still : Array (Option Value)} {oc_Worth_still kV_Worth_still dc_Worth_still pm_Worth_still cd_Worth_still ct_Worth_still : Value} {p_Worth_never f_Worth_never : Addr} {r_Worth_never : List Value} {od_Worth_never an_Worth_never : Option Addr} {sl_Worth_never : Array (Option Value)} {oc_Worth_never kV_Worth_never dc_Worth_never pm_Worth_never cd_Worth_never ct_Worth_never : Value} {p_Worth_named f_Worth_named : Addr} {r_Worth_named : List Value} {od_Worth_named an_Worth_named : Option Addr} {sl_Worth_named : Array (Option Value)} {oc_Worth_named kV_Worth_named dc_Worth_named pm_Worth_named cd_Worth_named ct_Worth_named : Value} {f_nested_words : Addr} {od_nested_words an_nested_words : Option Addr} {sl_nested_words : Array (Option Value)} {oc_nested_words kV_nested_words dc_nested_words pm_nested_words cd_nested_words ct_nested_words : Value} {f_square_rows : Addr} {od_square_rows an_square_rows : Option Addr} {sl_square_rows : Array (Option Value)} {oc_square_rows kV_square_rows dc_square_rows pm_square_rows cd_square_rows ct_square_rows : Value} {f_table_of_fields : Addr} {od_table_of_fields an_table_of_fields : Option Addr} {sl_table_of_fields : Array (Option Value)} {oc_table_of_fields kV_table_of_fields dc_table_of_fields pm_table_of_fields cd_table_of_fields ct_table_of_fields : Value} {f_scale_of_list : Addr} {od_scale_of_list an_scale_of_list : Option Addr} {sl_scale_of_list : Array (Option Value)} {oc_scale_of_list kV_scale_of_list dc_scale_of_list pm_scale_of_list cd_scale_of_list ct_scale_of_list : Value} {f_read_scale : Addr} {od_read_scale an_read_scale : Option Addr} {sl_read_scale : Array (Option Value)} {oc_read_scale kV_read_scale dc_read_scale pm_read_scale cd_read_scale ct_read_scale : Value} {A_BadScale : Addr} {tDl : Tok} {f__law_spoiled : Addr} {od__law_spoiled an__law_spoiled : Option Addr} {sl__law_spoiled : Array (Option Value)} {oc__law_spoiled kV__law_spoiled dc__law_spoiled pm__law_spoiled cd__law_spoiled ct__law_spoiled : Value} {f__law_deed : Addr} {od__law_deed an__law_deed : Option Addr} {sl__law_deed : Array (Option Value)} {oc__law_deed kV__law_deed dc__law_deed pm__law_deed cd__law_deed ct__law_deed : Value} {f__law_is : Addr} {od__law_is an__law_is : Option Addr} {sl__law_is : Array (Option Value)} {oc__law_is kV__law_is dc__law_is pm__law_is cd__law_is ct__law_is : Value} {f__law_truth : Addr} {od__law_truth an__law_truth : Option Addr} {sl__law_truth : Array (Option Value)} {oc__law_truth kV__law_truth dc__law_truth pm__law_truth cd__law_truth ct__law_truth : Value} {f__law_pair : Addr} {od__law_pair an__law_pair : Option Addr} {sl__law_pair : Array (Option Value)} {oc__law_pair kV__law_pair dc__law_pair pm__law_pair cd__law_pair ct__law_pair : Value} {f__law_unknown : Addr} {od__law_unknown an__law_unknown : Option Addr} {sl__law_unknown : Array (Option Value)} {oc__law_unknown kV__law_unknown dc__law_unknown pm__law_unknown cd__law_unknown ct__law_unknown : Value} {f_law : Addr} {od_law an_law : Option Addr} {sl_law : Array (Option Value)} {oc_law kV_law dc_law pm_law cd_law ct_law : Value} {CDe : Addr} (X : K.In h) (G : h.Ns mainGlobals mg) (hfa : mg "law" = some (.ref fa))
    (z_int : PySem.W.nsIn K mainGlobals "int" = some none)
    (z_abs : PySem.W.nsIn K mainGlobals "abs" = some none)
    (z_range : PySem.W.nsIn K mainGlobals "range" = some none)
    (z_len : PySem.W.nsIn K mainGlobals "len" = some none)
    (z_isinstance : PySem.W.nsIn K mainGlobals "isinstance" = some none)
    (z_bool : PySem.W.nsIn K mainGlobals "bool" = some none)
    (z_str : PySem.W.nsIn K mainGlobals "str" = some none)
    (z_list : PySem.W.nsIn K mainGlobals "list" = some none)
    (z_tuple : PySem.W.nsIn K mainGlobals "tuple" = some none)
    (z_dict : PySem.W.nsIn K mainGlobals "dict" = some none)
    (z_enumerate : PySem.W.nsIn K mainGlobals "enumerate" = some none)
    (z_zip : PySem.W.nsIn K mainGlobals "zip" = some none)
    (z_reversed : PySem.W.nsIn K mainGlobals "reversed" = some none)
    (z_ValueError : PySem.W.nsIn K mainGlobals "ValueError" = some none)
    (z_LookupError : PySem.W.nsIn K mainGlobals "LookupError" = some none)
    (z_KeyError : PySem.W.nsIn K mainGlobals "KeyError" = some none)
    (z_Exception : PySem.W.nsIn K mainGlobals "Exception" = some none)
    (z_super : PySem.W.nsIn K mainGlobals "super" = some none)
    (z_sum : PySem.W.nsIn K mainGlobals "sum" = some none)
    (z_any : PySem.W.nsIn K mainGlobals "any" = some none)
    (z_all : PySem.W.nsIn K mainGlobals "all" = some none)
    (z_sorted : PySem.W.nsIn K mainGlobals "sorted" = some none)
    (z_max : PySem.W.nsIn K mainGlobals "max" = some none)
    (z_min : PySem.W.nsIn K mainGlobals "min" = some none)
    (z_NotImplementedError : PySem.W.nsIn K mainGlobals "NotImplementedError" = some none)
    (z_set : PySem.W.nsIn K mainGlobals "set" = some none)
    (z_repr : PySem.W.nsIn K mainGlobals "repr" = some none)
    (opq : PySem.W.nsIn K cStatics "thirdparty.any" = some none)
    (top0 : (l.prog.main.scope.names.lookup ("super" : Str)).isSome = false)
    (a_CU : PySem.W.nsIn K mainGlobals "UnknownWorth" = some (some (.ref CU)))
    (a_CN : PySem.W.nsIn K mainGlobals "NameMissing" = some (some (.ref CN)))
    (a_CS : PySem.W.nsIn K mainGlobals "Scale" = some (some (.ref CS)))
    (a_CW : PySem.W.nsIn K mainGlobals "WithNever" = some (some (.ref CW)))
    (a_CT : PySem.W.nsIn K mainGlobals "TableScale" = some (some (.ref CT)))
    (a_CC : PySem.W.nsIn K mainGlobals "CountScale" = some (some (.ref CC)))
    (a_CR : PySem.W.nsIn K mainGlobals "TurnedScale" = some (some (.ref CR)))
    (pg_CT : PySem.W.plainGet K CT Str.empty = true)
    (hd_CT : PySem.W.hasDictIn K CT = true)
    (po_CT : PySem.W.plainOver K CT = true)
    (sa_CT : PySem.W.findIn K (.ref CT) "__setattr__" = some (some (.builtin "object.__setattr__")))
    (na_CT_written_joins : PySem.W.findIn K (.ref CT) "written_joins" = some none)
    (na_CT_written_products : PySem.W.findIn K (.ref CT) "written_products" = some none)
    (na_CT_label : PySem.W.findIn K (.ref CT) "label" = some none)
    (na_CT_size : PySem.W.findIn K (.ref CT) "size" = some none)
    (na_CT_never_at : PySem.W.findIn K (.ref CT) "never_at" = some none)
    (na_CT_still_at : PySem.W.findIn K (.ref CT) "still_at" = some none)
    (na_CT_depth : PySem.W.findIn K (.ref CT) "depth" = some none)
    (na_CT_worth_names : PySem.W.findIn K (.ref CT) "worth_names" = some none)
    (na_CT_worth_places : PySem.W.findIn K (.ref CT) "worth_places" = some none)
    (na_CT_product_table : PySem.W.findIn K (.ref CT) "product_table" = some none)
    (na_CT_join_table : PySem.W.findIn K (.ref CT) "join_table" = some none)
    (pg_CC : PySem.W.plainGet K CC Str.empty = true)
    (hd_CC : PySem.W.hasDictIn K CC = true)
    (po_CC : PySem.W.plainOver K CC = true)
    (sa_CC : PySem.W.findIn K (.ref CC) "__setattr__" = some (some (.builtin "object.__setattr__")))
    (na_CC_most : PySem.W.findIn K (.ref CC) "most" = some none)
    (na_CC_rising : PySem.W.findIn K (.ref CC) "rising" = some none)
    (na_CC_contents : PySem.W.findIn K (.ref CC) "contents" = some none)
    (na_CC_label : PySem.W.findIn K (.ref CC) "label" = some none)
    (na_CC_size : PySem.W.findIn K (.ref CC) "size" = some none)
    (na_CC_never_at : PySem.W.findIn K (.ref CC) "never_at" = some none)
    (na_CC_still_at : PySem.W.findIn K (.ref CC) "still_at" = some none)
    (na_CC_depth : PySem.W.findIn K (.ref CC) "depth" = some none)
    (na_CC_worth_names : PySem.W.findIn K (.ref CC) "worth_names" = some none)
    (na_CC_worth_places : PySem.W.findIn K (.ref CC) "worth_places" = some none)
    (na_CC_product_table : PySem.W.findIn K (.ref CC) "product_table" = some none)
    (na_CC_join_table : PySem.W.findIn K (.ref CC) "join_table" = some none)
    (pg_CR : PySem.W.plainGet K CR Str.empty = true)
    (hd_CR : PySem.W.hasDictIn K CR = true)
    (po_CR : PySem.W.plainOver K CR = true)
    (sa_CR : PySem.W.findIn K (.ref CR) "__setattr__" = some (some (.builtin "object.__setattr__")))
    (na_CR_inner : PySem.W.findIn K (.ref CR) "inner" = some none)
    (na_CR_label : PySem.W.findIn K (.ref CR) "label" = some none)
    (na_CR_size : PySem.W.findIn K (.ref CR) "size" = some none)
    (na_CR_never_at : PySem.W.findIn K (.ref CR) "never_at" = some none)
    (na_CR_still_at : PySem.W.findIn K (.ref CR) "still_at" = some none)
    (na_CR_depth : PySem.W.findIn K (.ref CR) "depth" = some none)
    (na_CR_worth_names : PySem.W.findIn K (.ref CR) "worth_names" = some none)
    (na_CR_worth_places : PySem.W.findIn K (.ref CR) "worth_places" = some none)
    (na_CR_product_table : PySem.W.findIn K (.ref CR) "product_table" = some none)
    (na_CR_join_table : PySem.W.findIn K (.ref CR) "join_table" = some none)
    (xi : PySem.W.excInitIn K CU (eTail "LookupError") "LookupError.__new__" = true)
    (xo : PySem.W.excOver K CU (eTail "LookupError") = true)
    (xh : PySem.W.hasDictIn K CU = true)
    (xs : PySem.W.findIn K (.ref CU) "__setattr__" = some (some (.builtin "object.__setattr__")))
    (xe : PySem.W.subIn K (.ref CU) (.type "BaseException") = some true)
    (xb : PySem.W.subIn K (.ref CU) (.type "LookupError") = some true)
    (xt : PySem.W.typeIn K (.ref CU) = some (.type "type"))
    (xk : PySem.W.keepIn K (.ref CU) = true)
    (xn : PySem.W.findIn K (.ref CU) "name" = some none)
    (xm : PySem.W.mroIn K CU (.ref CU) = some true)
    (xsup : PySem.W.ks_superIn K CU CU "__init__" = some (some (.builtin "LookupError.__init__")))
    (xg : PySem.W.findIn K (.ref CU) "__getattribute__" = some (some (.builtin "BaseException.__getattribute__")))
    (xgg : PySem.W.findIn K (.ref CU) "__getattr__" = some none)
    (xcl : PySem.W.findIn K (.ref CU) "__class__" = some (some (.builtin "object.__class__")))
    (xsp : PySem.W.specialIn K (.builtin "object.__class__") "__get__" = some (some (.builtin "getset_descriptor.__get__")))
    (xtk : PySem.W.takesIn K (.builtin "object.__class__") = some true)
    (xmo : PySem.W.mroIn K CU (.type "object") = some true)
    (xte : PySem.W.exmOne K (.ref CU) (.ref CU) = some true)
    (xkN : PySem.W.kitOne K (.ref CU) (.ref CN) = some true)
    (xkL : PySem.W.kitOne K (.ref CU) (.type "LookupError") = some true)
    (xkV : PySem.W.kitOne K (.ref CU) (.type "ValueError") = some false)
    (a_f_UnknownWorth___init__ : PySem.W.findIn K (.ref CU) "__init__" = some (some (.ref f_UnknownWorth___init__)))
    (ty_UnknownWorth___init__ : PySem.W.typeIn K (.ref f_UnknownWorth___init__) = some (.type "function"))
    (l_UnknownWorth___init__ : K.lookup f_UnknownWorth___init__ = some ⟨oc_UnknownWorth___init__, od_UnknownWorth___init__, .func (PySem.W.fnX "__init__" "UnknownWorth.__init__" (defArgs s_UnknownWorth___init__) (defBody s_UnknownWorth___init__) (defScope s_UnknownWorth___init__) [("__class__", cc_UnknownWorth___init__)] .none .none dc_UnknownWorth___init__ pm_UnknownWorth___init__ an_UnknownWorth___init__ (.ref cda_UnknownWorth___init__) ct_UnknownWorth___init__), sl_UnknownWorth___init__⟩)
    (c_UnknownWorth___init__ : PySem.W.codeIn K (.ref cda_UnknownWorth___init__) "UnknownWorth.__init__" = true)
    (lc_UnknownWorth___init__ : K.lookup cda_UnknownWorth___init__ = some ⟨q1_UnknownWorth___init__, e1_UnknownWorth___init__, .fields vs_UnknownWorth___init__, g1_UnknownWorth___init__⟩)
    (hv_UnknownWorth___init__ : vs_UnknownWorth___init__[2]? = some (.str fi_UnknownWorth___init__ tf_UnknownWorth___init__))
    (hf_UnknownWorth___init__ : ((l.prog.main.file : Str) == fi_UnknownWorth___init__) = true)
    (lx_UnknownWorth___init__ : K.lookup cc_UnknownWorth___init__ = some ⟨q2_UnknownWorth___init__, e2_UnknownWorth___init__, .cell (some (.ref CU)), g2_UnknownWorth___init__⟩)
    (a_f_Scale___init__ : PySem.W.findIn K (.ref CS) "__init__" = some (some (.ref f_Scale___init__)))
    (l_Scale___init__ : K.lookup f_Scale___init__ = some ⟨oc_Scale___init__, od_Scale___init__, .func (PySem.W.fnOf "__init__" "Scale.__init__" (defArgs s_Scale___init__) (defBody s_Scale___init__) (defScope s_Scale___init__) (.ref T_Scale___init__) kV_Scale___init__ dc_Scale___init__ pm_Scale___init__ an_Scale___init__ cd_Scale___init__ ct_Scale___init__), sl_Scale___init__⟩)
    (c_Scale___init__ : PySem.W.codeIn K cd_Scale___init__ "Scale.__init__" = true)
    (k_Scale___init__ : PySem.W.keepIn K (.ref f_Scale___init__) = true)
    (lT : K.lookup T_Scale___init__ = some ⟨cT, dT, .seq [Value.int 1 tT].toArray nT, slT⟩)
    (fiS : PySem.W.fnIn K f_Scale___init__ = true)
    (tyS : PySem.W.typeIn K (.ref f_Scale___init__) = some (.type "function"))
    (gM : PySem.W.nsIn K mainGlobals "MOST_WORTHS" = some (some (.int 64 tM)))
    (a_f_cut_down : PySem.W.nsIn K mainGlobals "cut_down" = some (some (.ref f_cut_down)))
    (l_cut_down : K.lookup f_cut_down = some ⟨oc_cut_down, od_cut_down, .func (PySem.W.fnOf "cut_down" "cut_down" (defArgs s_cut_down) (defBody s_cut_down) (defScope s_cut_down) .none kV_cut_down dc_cut_down pm_cut_down an_cut_down cd_cut_down ct_cut_down), sl_cut_down⟩)
    (c_cut_down : PySem.W.codeIn K cd_cut_down "cut_down" = true)
    (k_cut_down : PySem.W.keepIn K (.ref f_cut_down) = true)
    (a_f_number_name : PySem.W.nsIn K mainGlobals "number_name" = some (some (.ref f_number_name)))
    (l_number_name : K.lookup f_number_name = some ⟨oc_number_name, od_number_name, .func (PySem.W.fnOf "number_name" "number_name" (defArgs s_number_name) (defBody s_number_name) (defScope s_number_name) .none kV_number_name dc_number_name pm_number_name an_number_name cd_number_name ct_number_name), sl_number_name⟩)
    (c_number_name : PySem.W.codeIn K cd_number_name "number_name" = true)
    (k_number_name : PySem.W.keepIn K (.ref f_number_name) = true)
    (gS : PySem.W.nsIn K mainGlobals "SIGNS" = some (some (.str signsL tS)))
    (a_f_is_table_name : PySem.W.nsIn K mainGlobals "is_table_name" = some (some (.ref f_is_table_name)))
    (l_is_table_name : K.lookup f_is_table_name = some ⟨oc_is_table_name, od_is_table_name, .func (PySem.W.fnOf "is_table_name" "is_table_name" (defArgs s_is_table_name) (defBody s_is_table_name) (defScope s_is_table_name) .none kV_is_table_name dc_is_table_name pm_is_table_name an_is_table_name cd_is_table_name ct_is_table_name), sl_is_table_name⟩)
    (c_is_table_name : PySem.W.codeIn K cd_is_table_name "is_table_name" = true)
    (k_is_table_name : PySem.W.keepIn K (.ref f_is_table_name) = true)
    (a_f_table_places : PySem.W.nsIn K mainGlobals "table_places" = some (some (.ref f_table_places)))
    (l_table_places : K.lookup f_table_places = some ⟨oc_table_places, od_table_places, .func (PySem.W.fnOf "table_places" "table_places" (defArgs s_table_places) (defBody s_table_places) (defScope s_table_places) .none kV_table_places dc_table_places pm_table_places an_table_places cd_table_places ct_table_places), sl_table_places⟩)
    (c_table_places : PySem.W.codeIn K cd_table_places "table_places" = true)
    (k_table_places : PySem.W.keepIn K (.ref f_table_places) = true)
    (gD : PySem.W.nsIn K mainGlobals "DEEPEST_combined" = some (some (.int 10 tD)))
    (a_f_depth_above : PySem.W.nsIn K mainGlobals "depth_above" = some (some (.ref f_depth_above)))
    (l_depth_above : K.lookup f_depth_above = some ⟨oc_depth_above, od_depth_above, .func (PySem.W.fnOf "depth_above" "depth_above" (defArgs s_depth_above) (defBody s_depth_above) (defScope s_depth_above) .none kV_depth_above dc_depth_above pm_depth_above an_depth_above cd_depth_above ct_depth_above), sl_depth_above⟩)
    (c_depth_above : PySem.W.codeIn K cd_depth_above "depth_above" = true)
    (k_depth_above : PySem.W.keepIn K (.ref f_depth_above) = true)
    (a_CT_f_Scale_then_at : PySem.W.findIn K (.ref CT) "then_at" = some (some (.ref f_Scale_then_at)))
    (i_Scale_then_at : PySem.W.isFn K (.ref f_Scale_then_at) = true)
    (l_Scale_then_at : K.lookup f_Scale_then_at = some ⟨oc_Scale_then_at, od_Scale_then_at, .func (PySem.W.fnOf "then_at" "Scale.then_at" (defArgs s_Scale_then_at) (defBody s_Scale_then_at) (defScope s_Scale_then_at) .none kV_Scale_then_at dc_Scale_then_at pm_Scale_then_at an_Scale_then_at cd_Scale_then_at ct_Scale_then_at), sl_Scale_then_at⟩)
    (c_Scale_then_at : PySem.W.codeIn K cd_Scale_then_at "Scale.then_at" = true)
    (k_Scale_then_at : PySem.W.keepIn K (.ref f_Scale_then_at) = true)
    (a_CC_f_Scale_then_at : PySem.W.findIn K (.ref CC) "then_at" = some (some (.ref f_Scale_then_at)))
    (a_CR_f_Scale_then_at : PySem.W.findIn K (.ref CR) "then_at" = some (some (.ref f_Scale_then_at)))
    (a_CT_f_Scale_join_at : PySem.W.findIn K (.ref CT) "join_at" = some (some (.ref f_Scale_join_at)))
    (i_Scale_join_at : PySem.W.isFn K (.ref f_Scale_join_at) = true)
    (l_Scale_join_at : K.lookup f_Scale_join_at = some ⟨oc_Scale_join_at, od_Scale_join_at, .func (PySem.W.fnOf "join_at" "Scale.join_at" (defArgs s_Scale_join_at) (defBody s_Scale_join_at) (defScope s_Scale_join_at) .none kV_Scale_join_at dc_Scale_join_at pm_Scale_join_at an_Scale_join_at cd_Scale_join_at ct_Scale_join_at), sl_Scale_join_at⟩)
    (c_Scale_join_at : PySem.W.codeIn K cd_Scale_join_at "Scale.join_at" = true)
    (k_Scale_join_at : PySem.W.keepIn K (.ref f_Scale_join_at) = true)
    (a_CC_f_Scale_join_at : PySem.W.findIn K (.ref CC) "join_at" = some (some (.ref f_Scale_join_at)))
    (a_CR_f_Scale_join_at : PySem.W.findIn K (.ref CR) "join_at" = some (some (.ref f_Scale_join_at)))
    (a_CT_f_Scale_within_at : PySem.W.findIn K (.ref CT) "within_at" = some (some (.ref f_Scale_within_at)))
    (i_Scale_within_at : PySem.W.isFn K (.ref f_Scale_within_at) = true)
    (l_Scale_within_at : K.lookup f_Scale_within_at = some ⟨oc_Scale_within_at, od_Scale_within_at, .func (PySem.W.fnOf "within_at" "Scale.within_at" (defArgs s_Scale_within_at) (defBody s_Scale_within_at) (defScope s_Scale_within_at) .none kV_Scale_within_at dc_Scale_within_at pm_Scale_within_at an_Scale_within_at cd_Scale_within_at ct_Scale_within_at), sl_Scale_within_at⟩)
    (c_Scale_within_at : PySem.W.codeIn K cd_Scale_within_at "Scale.within_at" = true)
    (k_Scale_within_at : PySem.W.keepIn K (.ref f_Scale_within_at) = true)
    (a_CC_f_Scale_within_at : PySem.W.findIn K (.ref CC) "within_at" = some (some (.ref f_Scale_within_at)))
    (a_CR_f_Scale_within_at : PySem.W.findIn K (.ref CR) "within_at" = some (some (.ref f_Scale_within_at)))
    (a_CT_f_Scale_name_at : PySem.W.findIn K (.ref CT) "name_at" = some (some (.ref f_Scale_name_at)))
    (i_Scale_name_at : PySem.W.isFn K (.ref f_Scale_name_at) = true)
    (l_Scale_name_at : K.lookup f_Scale_name_at = some ⟨oc_Scale_name_at, od_Scale_name_at, .func (PySem.W.fnOf "name_at" "Scale.name_at" (defArgs s_Scale_name_at) (defBody s_Scale_name_at) (defScope s_Scale_name_at) .none kV_Scale_name_at dc_Scale_name_at pm_Scale_name_at an_Scale_name_at cd_Scale_name_at ct_Scale_name_at), sl_Scale_name_at⟩)
    (c_Scale_name_at : PySem.W.codeIn K cd_Scale_name_at "Scale.name_at" = true)
    (k_Scale_name_at : PySem.W.keepIn K (.ref f_Scale_name_at) = true)
    (a_CC_f_Scale_name_at : PySem.W.findIn K (.ref CC) "name_at" = some (some (.ref f_Scale_name_at)))
    (a_CR_f_Scale_name_at : PySem.W.findIn K (.ref CR) "name_at" = some (some (.ref f_Scale_name_at)))
    (a_CT_f_Scale_at_name : PySem.W.findIn K (.ref CT) "at_name" = some (some (.ref f_Scale_at_name)))
    (i_Scale_at_name : PySem.W.isFn K (.ref f_Scale_at_name) = true)
    (l_Scale_at_name : K.lookup f_Scale_at_name = some ⟨oc_Scale_at_name, od_Scale_at_name, .func (PySem.W.fnOf "at_name" "Scale.at_name" (defArgs s_Scale_at_name) (defBody s_Scale_at_name) (defScope s_Scale_at_name) .none kV_Scale_at_name dc_Scale_at_name pm_Scale_at_name an_Scale_at_name cd_Scale_at_name ct_Scale_at_name), sl_Scale_at_name⟩)
    (c_Scale_at_name : PySem.W.codeIn K cd_Scale_at_name "Scale.at_name" = true)
    (k_Scale_at_name : PySem.W.keepIn K (.ref f_Scale_at_name) = true)
    (a_CC_f_Scale_at_name : PySem.W.findIn K (.ref CC) "at_name" = some (some (.ref f_Scale_at_name)))
    (a_CR_f_Scale_at_name : PySem.W.findIn K (.ref CR) "at_name" = some (some (.ref f_Scale_at_name)))
    (a_CT_f_TableScale_make_then : PySem.W.findIn K (.ref CT) "make_then" = some (some (.ref f_TableScale_make_then)))
    (i_TableScale_make_then : PySem.W.isFn K (.ref f_TableScale_make_then) = true)
    (l_TableScale_make_then : K.lookup f_TableScale_make_then = some ⟨oc_TableScale_make_then, od_TableScale_make_then, .func (PySem.W.fnOf "make_then" "TableScale.make_then" (defArgs s_TableScale_make_then) (defBody s_TableScale_make_then) (defScope s_TableScale_make_then) .none kV_TableScale_make_then dc_TableScale_make_then pm_TableScale_make_then an_TableScale_make_then cd_TableScale_make_then ct_TableScale_make_then), sl_TableScale_make_then⟩)
    (c_TableScale_make_then : PySem.W.codeIn K cd_TableScale_make_then "TableScale.make_then" = true)
    (k_TableScale_make_then : PySem.W.keepIn K (.ref f_TableScale_make_then) = true)
    (a_CT_f_TableScale_make_join : PySem.W.findIn K (.ref CT) "make_join" = some (some (.ref f_TableScale_make_join)))
    (i_TableScale_make_join : PySem.W.isFn K (.ref f_TableScale_make_join) = true)
    (l_TableScale_make_join : K.lookup f_TableScale_make_join = some ⟨oc_TableScale_make_join, od_TableScale_make_join, .func (PySem.W.fnOf "make_join" "TableScale.make_join" (defArgs s_TableScale_make_join) (defBody s_TableScale_make_join) (defScope s_TableScale_make_join) .none kV_TableScale_make_join dc_TableScale_make_join pm_TableScale_make_join an_TableScale_make_join cd_TableScale_make_join ct_TableScale_make_join), sl_TableScale_make_join⟩)
    (c_TableScale_make_join : PySem.W.codeIn K cd_TableScale_make_join "TableScale.make_join" = true)
    (k_TableScale_make_join : PySem.W.keepIn K (.ref f_TableScale_make_join) = true)
    (a_CC_f_CountScale_behind : PySem.W.findIn K (.ref CC) "behind" = some (some (.ref f_CountScale_behind)))
    (i_CountScale_behind : PySem.W.isFn K (.ref f_CountScale_behind) = true)
    (l_CountScale_behind : K.lookup f_CountScale_behind = some ⟨oc_CountScale_behind, od_CountScale_behind, .func (PySem.W.fnOf "behind" "CountScale.behind" (defArgs s_CountScale_behind) (defBody s_CountScale_behind) (defScope s_CountScale_behind) .none kV_CountScale_behind dc_CountScale_behind pm_CountScale_behind an_CountScale_behind cd_CountScale_behind ct_CountScale_behind), sl_CountScale_behind⟩)
    (c_CountScale_behind : PySem.W.codeIn K cd_CountScale_behind "CountScale.behind" = true)
    (k_CountScale_behind : PySem.W.keepIn K (.ref f_CountScale_behind) = true)
    (a_CC_f_CountScale_either : PySem.W.findIn K (.ref CC) "either" = some (some (.ref f_CountScale_either)))
    (i_CountScale_either : PySem.W.isFn K (.ref f_CountScale_either) = true)
    (l_CountScale_either : K.lookup f_CountScale_either = some ⟨oc_CountScale_either, od_CountScale_either, .func (PySem.W.fnOf "either" "CountScale.either" (defArgs s_CountScale_either) (defBody s_CountScale_either) (defScope s_CountScale_either) .none kV_CountScale_either dc_CountScale_either pm_CountScale_either an_CountScale_either cd_CountScale_either ct_CountScale_either), sl_CountScale_either⟩)
    (c_CountScale_either : PySem.W.codeIn K cd_CountScale_either "CountScale.either" = true)
    (k_CountScale_either : PySem.W.keepIn K (.ref f_CountScale_either) = true)
    (a_CC_f_WithNever_make_then : PySem.W.findIn K (.ref CC) "make_then" = some (some (.ref f_WithNever_make_then)))
    (i_WithNever_make_then : PySem.W.isFn K (.ref f_WithNever_make_then) = true)
    (l_WithNever_make_then : K.lookup f_WithNever_make_then = some ⟨oc_WithNever_make_then, od_WithNever_make_then, .func (PySem.W.fnOf "make_then" "WithNever.make_then" (defArgs s_WithNever_make_then) (defBody s_WithNever_make_then) (defScope s_WithNever_make_then) .none kV_WithNever_make_then dc_WithNever_make_then pm_WithNever_make_then an_WithNever_make_then cd_WithNever_make_then ct_WithNever_make_then), sl_WithNever_make_then⟩)
    (c_WithNever_make_then : PySem.W.codeIn K cd_WithNever_make_then "WithNever.make_then" = true)
    (k_WithNever_make_then : PySem.W.keepIn K (.ref f_WithNever_make_then) = true)
    (a_CC_f_WithNever_make_join : PySem.W.findIn K (.ref CC) "make_join" = some (some (.ref f_WithNever_make_join)))
    (i_WithNever_make_join : PySem.W.isFn K (.ref f_WithNever_make_join) = true)
    (l_WithNever_make_join : K.lookup f_WithNever_make_join = some ⟨oc_WithNever_make_join, od_WithNever_make_join, .func (PySem.W.fnOf "make_join" "WithNever.make_join" (defArgs s_WithNever_make_join) (defBody s_WithNever_make_join) (defScope s_WithNever_make_join) .none kV_WithNever_make_join dc_WithNever_make_join pm_WithNever_make_join an_WithNever_make_join cd_WithNever_make_join ct_WithNever_make_join), sl_WithNever_make_join⟩)
    (c_WithNever_make_join : PySem.W.codeIn K cd_WithNever_make_join "WithNever.make_join" = true)
    (k_WithNever_make_join : PySem.W.keepIn K (.ref f_WithNever_make_join) = true)
    (a_CR_f_TurnedScale_make_then : PySem.W.findIn K (.ref CR) "make_then" = some (some (.ref f_TurnedScale_make_then)))
    (i_TurnedScale_make_then : PySem.W.isFn K (.ref f_TurnedScale_make_then) = true)
    (l_TurnedScale_make_then : K.lookup f_TurnedScale_make_then = some ⟨oc_TurnedScale_make_then, od_TurnedScale_make_then, .func (PySem.W.fnOf "make_then" "TurnedScale.make_then" (defArgs s_TurnedScale_make_then) (defBody s_TurnedScale_make_then) (defScope s_TurnedScale_make_then) .none kV_TurnedScale_make_then dc_TurnedScale_make_then pm_TurnedScale_make_then an_TurnedScale_make_then cd_TurnedScale_make_then ct_TurnedScale_make_then), sl_TurnedScale_make_then⟩)
    (c_TurnedScale_make_then : PySem.W.codeIn K cd_TurnedScale_make_then "TurnedScale.make_then" = true)
    (k_TurnedScale_make_then : PySem.W.keepIn K (.ref f_TurnedScale_make_then) = true)
    (a_CR_f_TurnedScale_make_join : PySem.W.findIn K (.ref CR) "make_join" = some (some (.ref f_TurnedScale_make_join)))
    (i_TurnedScale_make_join : PySem.W.isFn K (.ref f_TurnedScale_make_join) = true)
    (l_TurnedScale_make_join : K.lookup f_TurnedScale_make_join = some ⟨oc_TurnedScale_make_join, od_TurnedScale_make_join, .func (PySem.W.fnOf "make_join" "TurnedScale.make_join" (defArgs s_TurnedScale_make_join) (defBody s_TurnedScale_make_join) (defScope s_TurnedScale_make_join) .none kV_TurnedScale_make_join dc_TurnedScale_make_join pm_TurnedScale_make_join an_TurnedScale_make_join cd_TurnedScale_make_join ct_TurnedScale_make_join), sl_TurnedScale_make_join⟩)
    (c_TurnedScale_make_join : PySem.W.codeIn K cd_TurnedScale_make_join "TurnedScale.make_join" = true)
    (k_TurnedScale_make_join : PySem.W.keepIn K (.ref f_TurnedScale_make_join) = true)
    (a_f_WithNever___init__ : PySem.W.findIn K (.ref CW) "__init__" = some (some (.ref f_WithNever___init__)))
    (ty_WithNever___init__ : PySem.W.typeIn K (.ref f_WithNever___init__) = some (.type "function"))
    (l_WithNever___init__ : K.lookup f_WithNever___init__ = some ⟨oc_WithNever___init__, od_WithNever___init__, .func (PySem.W.fnX "__init__" "WithNever.__init__" (defArgs s_WithNever___init__) (defBody s_WithNever___init__) (defScope s_WithNever___init__) [("__class__", cc_WithNever___init__)] .none kV_WithNever___init__ dc_WithNever___init__ pm_WithNever___init__ an_WithNever___init__ (.ref cda_WithNever___init__) ct_WithNever___init__), sl_WithNever___init__⟩)
    (c_WithNever___init__ : PySem.W.codeIn K (.ref cda_WithNever___init__) "WithNever.__init__" = true)
    (lc_WithNever___init__ : K.lookup cda_WithNever___init__ = some ⟨q1_WithNever___init__, e1_WithNever___init__, .fields vs_WithNever___init__, g1_WithNever___init__⟩)
    (hv_WithNever___init__ : vs_WithNever___init__[2]? = some (.str fi_WithNever___init__ tf_WithNever___init__))
    (hf_WithNever___init__ : ((l.prog.main.file : Str) == fi_WithNever___init__) = true)
    (lx_WithNever___init__ : K.lookup cc_WithNever___init__ = some ⟨q2_WithNever___init__, e2_WithNever___init__, .cell (some (.ref CW)), g2_WithNever___init__⟩)
    (lD_WithNever___init__ : K.lookup CW = some ⟨q3_WithNever___init__, e3_WithNever___init__, .cls cl_WithNever___init__, g3_WithNever___init__⟩)
    (k_WithNever___init__ : PySem.W.keepIn K (.ref f_WithNever___init__) = true)
    (fi2_WithNever___init__ : PySem.W.fnIn K f_WithNever___init__ = true)
    (mW_CC : PySem.W.mroIn K CC (.ref CW) = some true)
    (sW_CC : PySem.W.ks_superIn K CC CW "__init__" = some (some (.ref f_Scale___init__)))
    (a_f_TableScale___init__ : PySem.W.findIn K (.ref CT) "__init__" = some (some (.ref f_TableScale___init__)))
    (ty_TableScale___init__ : PySem.W.typeIn K (.ref f_TableScale___init__) = some (.type "function"))
    (l_TableScale___init__ : K.lookup f_TableScale___init__ = some ⟨oc_TableScale___init__, od_TableScale___init__, .func (PySem.W.fnX "__init__" "TableScale.__init__" (defArgs s_TableScale___init__) (defBody s_TableScale___init__) (defScope s_TableScale___init__) [("__class__", cc_TableScale___init__)] .none kV_TableScale___init__ dc_TableScale___init__ pm_TableScale___init__ an_TableScale___init__ (.ref cda_TableScale___init__) ct_TableScale___init__), sl_TableScale___init__⟩)
    (c_TableScale___init__ : PySem.W.codeIn K (.ref cda_TableScale___init__) "TableScale.__init__" = true)
    (lc_TableScale___init__ : K.lookup cda_TableScale___init__ = some ⟨q1_TableScale___init__, e1_TableScale___init__, .fields vs_TableScale___init__, g1_TableScale___init__⟩)
    (hv_TableScale___init__ : vs_TableScale___init__[2]? = some (.str fi_TableScale___init__ tf_TableScale___init__))
    (hf_TableScale___init__ : ((l.prog.main.file : Str) == fi_TableScale___init__) = true)
    (lx_TableScale___init__ : K.lookup cc_TableScale___init__ = some ⟨q2_TableScale___init__, e2_TableScale___init__, .cell (some (.ref CT)), g2_TableScale___init__⟩)
    (lD_TableScale___init__ : K.lookup CT = some ⟨q3_TableScale___init__, e3_TableScale___init__, .cls cl_TableScale___init__, g3_TableScale___init__⟩)
    (k_TableScale___init__ : PySem.W.keepIn K (.ref f_TableScale___init__) = true)
    (fi2_TableScale___init__ : PySem.W.fnIn K f_TableScale___init__ = true)
    (mCT : PySem.W.mroIn K CT (.ref CT) = some true)
    (sCT : PySem.W.ks_superIn K CT CT "__init__" = some (some (.ref f_Scale___init__)))
    (mk_CT : PySem.W.makesIn K CT = true)
    (fnCT : PySem.W.isFn K (.ref f_TableScale___init__) = true)
    (kp_CT : PySem.W.keepIn K (.ref CT) = true)
    (a_f_CountScale___init__ : PySem.W.findIn K (.ref CC) "__init__" = some (some (.ref f_CountScale___init__)))
    (ty_CountScale___init__ : PySem.W.typeIn K (.ref f_CountScale___init__) = some (.type "function"))
    (l_CountScale___init__ : K.lookup f_CountScale___init__ = some ⟨oc_CountScale___init__, od_CountScale___init__, .func (PySem.W.fnX "__init__" "CountScale.__init__" (defArgs s_CountScale___init__) (defBody s_CountScale___init__) (defScope s_CountScale___init__) [("__class__", cc_CountScale___init__)] .none (.ref kd_CountScale___init__) dc_CountScale___init__ pm_CountScale___init__ an_CountScale___init__ (.ref cda_CountScale___init__) ct_CountScale___init__), sl_CountScale___init__⟩)
    (c_CountScale___init__ : PySem.W.codeIn K (.ref cda_CountScale___init__) "CountScale.__init__" = true)
    (lc_CountScale___init__ : K.lookup cda_CountScale___init__ = some ⟨q1_CountScale___init__, e1_CountScale___init__, .fields vs_CountScale___init__, g1_CountScale___init__⟩)
    (hv_CountScale___init__ : vs_CountScale___init__[2]? = some (.str fi_CountScale___init__ tf_CountScale___init__))
    (hf_CountScale___init__ : ((l.prog.main.file : Str) == fi_CountScale___init__) = true)
    (lx_CountScale___init__ : K.lookup cc_CountScale___init__ = some ⟨q2_CountScale___init__, e2_CountScale___init__, .cell (some (.ref CC)), g2_CountScale___init__⟩)
    (lD_CountScale___init__ : K.lookup CC = some ⟨q3_CountScale___init__, e3_CountScale___init__, .cls cl_CountScale___init__, g3_CountScale___init__⟩)
    (k_CountScale___init__ : PySem.W.keepIn K (.ref f_CountScale___init__) = true)
    (fi2_CountScale___init__ : PySem.W.fnIn K f_CountScale___init__ = true)
    (kw_CountScale___init__ : PySem.W.nsIn K kd_CountScale___init__ "order" = some (some (.str "up" tk_CountScale___init__)))
    (mCC : PySem.W.mroIn K CC (.ref CC) = some true)
    (sCC : PySem.W.ks_superIn K CC CC "__init__" = some (some (.ref f_WithNever___init__)))
    (mk_CC : PySem.W.makesIn K CC = true)
    (fnCC : PySem.W.isFn K (.ref f_CountScale___init__) = true)
    (kp_CC : PySem.W.keepIn K (.ref CC) = true)
    (a_f_TurnedScale___init__ : PySem.W.findIn K (.ref CR) "__init__" = some (some (.ref f_TurnedScale___init__)))
    (ty_TurnedScale___init__ : PySem.W.typeIn K (.ref f_TurnedScale___init__) = some (.type "function"))
    (l_TurnedScale___init__ : K.lookup f_TurnedScale___init__ = some ⟨oc_TurnedScale___init__, od_TurnedScale___init__, .func (PySem.W.fnX "__init__" "TurnedScale.__init__" (defArgs s_TurnedScale___init__) (defBody s_TurnedScale___init__) (defScope s_TurnedScale___init__) [("__class__", cc_TurnedScale___init__)] .none kV_TurnedScale___init__ dc_TurnedScale___init__ pm_TurnedScale___init__ an_TurnedScale___init__ (.ref cda_TurnedScale___init__) ct_TurnedScale___init__), sl_TurnedScale___init__⟩)
    (c_TurnedScale___init__ : PySem.W.codeIn K (.ref cda_TurnedScale___init__) "TurnedScale.__init__" = true)
    (lc_TurnedScale___init__ : K.lookup cda_TurnedScale___init__ = some ⟨q1_TurnedScale___init__, e1_TurnedScale___init__, .fields vs_TurnedScale___init__, g1_TurnedScale___init__⟩)
    (hv_TurnedScale___init__ : vs_TurnedScale___init__[2]? = some (.str fi_TurnedScale___init__ tf_TurnedScale___init__))
    (hf_TurnedScale___init__ : ((l.prog.main.file : Str) == fi_TurnedScale___init__) = true)
    (lx_TurnedScale___init__ : K.lookup cc_TurnedScale___init__ = some ⟨q2_TurnedScale___init__, e2_TurnedScale___init__, .cell (some (.ref CR)), g2_TurnedScale___init__⟩)
    (lD_TurnedScale___init__ : K.lookup CR = some ⟨q3_TurnedScale___init__, e3_TurnedScale___init__, .cls cl_TurnedScale___init__, g3_TurnedScale___init__⟩)
    (k_TurnedScale___init__ : PySem.W.keepIn K (.ref f_TurnedScale___init__) = true)
    (fi2_TurnedScale___init__ : PySem.W.fnIn K f_TurnedScale___init__ = true)
    (mCR : PySem.W.mroIn K CR (.ref CR) = some true)
    (sCR : PySem.W.ks_superIn K CR CR "__init__" = some (some (.ref f_Scale___init__)))
    (mk_CR : PySem.W.makesIn K CR = true)
    (fnCR : PySem.W.isFn K (.ref f_TurnedScale___init__) = true)
    (kp_CR : PySem.W.keepIn K (.ref CR) = true)
    (a_f__law_source : PySem.W.nsIn K mainGlobals "_law_source" = some (some (.ref f__law_source)))
    (l__law_source : K.lookup f__law_source = some ⟨oc__law_source, od__law_source, .func (PySem.W.fnOf "_law_source" "_law_source" (defArgs s__law_source) (defBody s__law_source) (defScope s__law_source) .none kV__law_source dc__law_source pm__law_source an__law_source cd__law_source ct__law_source), sl__law_source⟩)
    (c__law_source : PySem.W.codeIn K cd__law_source "_law_source" = true)
    (k__law_source : PySem.W.keepIn K (.ref f__law_source) = true)
    (a_f__law_pick : PySem.W.nsIn K mainGlobals "_law_pick" = some (some (.ref f__law_pick)))
    (l__law_pick : K.lookup f__law_pick = some ⟨oc__law_pick, od__law_pick, .func (PySem.W.fnOf "_law_pick" "_law_pick" (defArgs s__law_pick) (defBody s__law_pick) (defScope s__law_pick) .none kV__law_pick dc__law_pick pm__law_pick an__law_pick cd__law_pick ct__law_pick), sl__law_pick⟩)
    (c__law_pick : PySem.W.codeIn K cd__law_pick "_law_pick" = true)
    (k__law_pick : PySem.W.keepIn K (.ref f__law_pick) = true)
    (a_f__law_join : PySem.W.nsIn K mainGlobals "_law_join" = some (some (.ref f__law_join)))
    (l__law_join : K.lookup f__law_join = some ⟨oc__law_join, od__law_join, .func (PySem.W.fnOf "_law_join" "_law_join" (defArgs s__law_join) (defBody s__law_join) (defScope s__law_join) .none kV__law_join dc__law_join pm__law_join an__law_join cd__law_join ct__law_join), sl__law_join⟩)
    (c__law_join : PySem.W.codeIn K cd__law_join "_law_join" = true)
    (k__law_join : PySem.W.keepIn K (.ref f__law_join) = true)
    (a_f__law_then : PySem.W.nsIn K mainGlobals "_law_then" = some (some (.ref f__law_then)))
    (l__law_then : K.lookup f__law_then = some ⟨oc__law_then, od__law_then, .func (PySem.W.fnOf "_law_then" "_law_then" (defArgs s__law_then) (defBody s__law_then) (defScope s__law_then) .none kV__law_then dc__law_then pm__law_then an__law_then cd__law_then ct__law_then), sl__law_then⟩)
    (c__law_then : PySem.W.codeIn K cd__law_then "_law_then" = true)
    (k__law_then : PySem.W.keepIn K (.ref f__law_then) = true)
    (a_f__law_tables : PySem.W.nsIn K mainGlobals "_law_tables" = some (some (.ref f__law_tables)))
    (l__law_tables : K.lookup f__law_tables = some ⟨oc__law_tables, od__law_tables, .func (PySem.W.fnOf "_law_tables" "_law_tables" (defArgs s__law_tables) (defBody s__law_tables) (defScope s__law_tables) .none kV__law_tables dc__law_tables pm__law_tables an__law_tables cd__law_tables ct__law_tables), sl__law_tables⟩)
    (c__law_tables : PySem.W.codeIn K cd__law_tables "_law_tables" = true)
    (k__law_tables : PySem.W.keepIn K (.ref f__law_tables) = true)
    (a_f__law_table_scale : PySem.W.nsIn K mainGlobals "_law_table_scale" = some (some (.ref f__law_table_scale)))
    (l__law_table_scale : K.lookup f__law_table_scale = some ⟨oc__law_table_scale, od__law_table_scale, .func (PySem.W.fnOf "_law_table_scale" "_law_table_scale" (defArgs s__law_table_scale) (defBody s__law_table_scale) (defScope s__law_table_scale) .none kV__law_table_scale dc__law_table_scale pm__law_table_scale an__law_table_scale cd__law_table_scale ct__law_table_scale), sl__law_table_scale⟩)
    (c__law_table_scale : PySem.W.codeIn K cd__law_table_scale "_law_table_scale" = true)
    (k__law_table_scale : PySem.W.keepIn K (.ref f__law_table_scale) = true)
    (a_CWt : PySem.W.nsIn K mainGlobals "Worth" = some (some (.ref CWt)))
    (pg_CWt : PySem.W.plainGet K CWt Str.empty = true)
    (hd_CWt : PySem.W.hasDictIn K CWt = true)
    (po_CWt : PySem.W.plainOver K CWt = true)
    (sa_CWt : PySem.W.findIn K (.ref CWt) "__setattr__" = some (some (.builtin "object.__setattr__")))
    (na_CWt_scale : PySem.W.findIn K (.ref CWt) "scale" = some none)
    (na_CWt_place : PySem.W.findIn K (.ref CWt) "place" = some none)
    (na_CWt_name : PySem.W.findIn K (.ref CWt) "name" = some none)
    (xsp_ : PySem.W.specialIn K (.builtin "object.__class__") "__get__" = some (some (.builtin "getset_descriptor.__get__")))
    (xtk_ : PySem.W.takesIn K (.builtin "object.__class__") = some true)
    (wca : PySem.W.findIn K (.ref CWt) "__class__" = some (some (.builtin "object.__class__")))
    (wcm : PySem.W.mroIn K CWt (.type "object") = some true)
    (wme : PySem.W.kitOne K (.ref CWt) (.ref CWt) = some true)
    (wfirst : PySem.W.selfFirst K CWt = true)
    (a_CWt_f_Worth___init__ : PySem.W.findIn K (.ref CWt) "__init__" = some (some (.ref f_Worth___init__)))
    (i_Worth___init__ : PySem.W.isFn K (.ref f_Worth___init__) = true)
    (l_Worth___init__ : K.lookup f_Worth___init__ = some ⟨oc_Worth___init__, od_Worth___init__, .func (PySem.W.fnOf "__init__" "Worth.__init__" (defArgs s_Worth___init__) (defBody s_Worth___init__) (defScope s_Worth___init__) .none kV_Worth___init__ dc_Worth___init__ pm_Worth___init__ an_Worth___init__ cd_Worth___init__ ct_Worth___init__), sl_Worth___init__⟩)
    (c_Worth___init__ : PySem.W.codeIn K cd_Worth___init__ "Worth.__init__" = true)
    (k_Worth___init__ : PySem.W.keepIn K (.ref f_Worth___init__) = true)
    (mk_CWt : PySem.W.makesIn K CWt = true)
    (kp_CWt : PySem.W.keepIn K (.ref CWt) = true)
    (a_CWt_f_Worth___eq__ : PySem.W.findIn K (.ref CWt) "__eq__" = some (some (.ref f_Worth___eq__)))
    (i_Worth___eq__ : PySem.W.isFn K (.ref f_Worth___eq__) = true)
    (l_Worth___eq__ : K.lookup f_Worth___eq__ = some ⟨oc_Worth___eq__, od_Worth___eq__, .func (PySem.W.fnOf "__eq__" "Worth.__eq__" (defArgs s_Worth___eq__) (defBody s_Worth___eq__) (defScope s_Worth___eq__) .none kV_Worth___eq__ dc_Worth___eq__ pm_Worth___eq__ an_Worth___eq__ cd_Worth___eq__ ct_Worth___eq__), sl_Worth___eq__⟩)
    (c_Worth___eq__ : PySem.W.codeIn K cd_Worth___eq__ "Worth.__eq__" = true)
    (k_Worth___eq__ : PySem.W.keepIn K (.ref f_Worth___eq__) = true)
    (a_A_MixedScales : PySem.W.nsIn K mainGlobals "MixedScales" = some (some (.ref A_MixedScales)))
    (xh_MixedScales : PySem.W.hasDictIn K A_MixedScales = true)
    (xe_MixedScales : PySem.W.subIn K (.ref A_MixedScales) (.type "BaseException") = some true)
    (xk_MixedScales : PySem.W.keepIn K (.ref A_MixedScales) = true)
    (xg_MixedScales : PySem.W.findIn K (.ref A_MixedScales) "__getattribute__" = some (some (.builtin "BaseException.__getattribute__")))
    (xgg_MixedScales : PySem.W.findIn K (.ref A_MixedScales) "__getattr__" = some none)
    (xcl_MixedScales : PySem.W.findIn K (.ref A_MixedScales) "__class__" = some (some (.builtin "object.__class__")))
    (xmo_MixedScales : PySem.W.mroIn K A_MixedScales (.type "object") = some true)
    (xt_MixedScales : PySem.W.typeIn K (.ref A_MixedScales) = some (.type "type"))
    (xte_MixedScales : PySem.W.exmOne K (.ref A_MixedScales) (.ref A_MixedScales) = some true)
    (q_MixedScales : PySem.W.excIn K A_MixedScales (eTail "ValueError") "ValueError.__new__" = true)
    (a_f_together : PySem.W.nsIn K mainGlobals "together" = some (some (.ref f_together)))
    (l_together : K.lookup f_together = some ⟨oc_together, od_together, .func (PySem.W.fnOf "together" "together" (defArgs s_together) (defBody s_together) (defScope s_together) .none kV_together dc_together pm_together an_together cd_together ct_together), sl_together⟩)
    (c_together : PySem.W.codeIn K cd_together "together" = true)
    (k_together : PySem.W.keepIn K (.ref f_together) = true)
    (a_CWt_f_Worth___mul__ : PySem.W.findIn K (.ref CWt) "__mul__" = some (some (.ref f_Worth___mul__)))
    (i_Worth___mul__ : PySem.W.isFn K (.ref f_Worth___mul__) = true)
    (l_Worth___mul__ : K.lookup f_Worth___mul__ = some ⟨oc_Worth___mul__, od_Worth___mul__, .func (PySem.W.fnOf "__mul__" "Worth.__mul__" (defArgs s_Worth___mul__) (defBody s_Worth___mul__) (defScope s_Worth___mul__) .none kV_Worth___mul__ dc_Worth___mul__ pm_Worth___mul__ an_Worth___mul__ cd_Worth___mul__ ct_Worth___mul__), sl_Worth___mul__⟩)
    (c_Worth___mul__ : PySem.W.codeIn K cd_Worth___mul__ "Worth.__mul__" = true)
    (k_Worth___mul__ : PySem.W.keepIn K (.ref f_Worth___mul__) = true)
    (a_CWt_f_Worth___or__ : PySem.W.findIn K (.ref CWt) "__or__" = some (some (.ref f_Worth___or__)))
    (i_Worth___or__ : PySem.W.isFn K (.ref f_Worth___or__) = true)
    (l_Worth___or__ : K.lookup f_Worth___or__ = some ⟨oc_Worth___or__, od_Worth___or__, .func (PySem.W.fnOf "__or__" "Worth.__or__" (defArgs s_Worth___or__) (defBody s_Worth___or__) (defScope s_Worth___or__) .none kV_Worth___or__ dc_Worth___or__ pm_Worth___or__ an_Worth___or__ cd_Worth___or__ ct_Worth___or__), sl_Worth___or__⟩)
    (c_Worth___or__ : PySem.W.codeIn K cd_Worth___or__ "Worth.__or__" = true)
    (k_Worth___or__ : PySem.W.keepIn K (.ref f_Worth___or__) = true)
    (a_CWt_f_Worth___le__ : PySem.W.findIn K (.ref CWt) "__le__" = some (some (.ref f_Worth___le__)))
    (i_Worth___le__ : PySem.W.isFn K (.ref f_Worth___le__) = true)
    (l_Worth___le__ : K.lookup f_Worth___le__ = some ⟨oc_Worth___le__, od_Worth___le__, .func (PySem.W.fnOf "__le__" "Worth.__le__" (defArgs s_Worth___le__) (defBody s_Worth___le__) (defScope s_Worth___le__) .none kV_Worth___le__ dc_Worth___le__ pm_Worth___le__ an_Worth___le__ cd_Worth___le__ ct_Worth___le__), sl_Worth___le__⟩)
    (c_Worth___le__ : PySem.W.codeIn K cd_Worth___le__ "Worth.__le__" = true)
    (k_Worth___le__ : PySem.W.keepIn K (.ref f_Worth___le__) = true)
    (a_CWt_f_Worth___lt__ : PySem.W.findIn K (.ref CWt) "__lt__" = some (some (.ref f_Worth___lt__)))
    (i_Worth___lt__ : PySem.W.isFn K (.ref f_Worth___lt__) = true)
    (l_Worth___lt__ : K.lookup f_Worth___lt__ = some ⟨oc_Worth___lt__, od_Worth___lt__, .func (PySem.W.fnOf "__lt__" "Worth.__lt__" (defArgs s_Worth___lt__) (defBody s_Worth___lt__) (defScope s_Worth___lt__) .none kV_Worth___lt__ dc_Worth___lt__ pm_Worth___lt__ an_Worth___lt__ cd_Worth___lt__ ct_Worth___lt__), sl_Worth___lt__⟩)
    (c_Worth___lt__ : PySem.W.codeIn K cd_Worth___lt__ "Worth.__lt__" = true)
    (k_Worth___lt__ : PySem.W.keepIn K (.ref f_Worth___lt__) = true)
    (wk1 : PySem.W.kitOne K (.type "str") (.ref CWt) = some false)
    (wk2 : PySem.W.kitOne K (.type "int") (.ref CWt) = some false)
    (wsub1 : PySem.W.subIn K (.type "str") (.ref CWt) = some false)
    (wsub2 : PySem.W.subIn K (.type "int") (.ref CWt) = some false)
    (a_CWt_f_Worth___eq__ : PySem.W.findIn K (.ref CWt) "__eq__" = some (some (.ref f_Worth___eq__)))
    (a_CWt_f_Worth___str__ : PySem.W.findIn K (.ref CWt) "__str__" = some (some (.ref f_Worth___str__)))
    (i_Worth___str__ : PySem.W.isFn K (.ref f_Worth___str__) = true)
    (l_Worth___str__ : K.lookup f_Worth___str__ = some ⟨oc_Worth___str__, od_Worth___str__, .func (PySem.W.fnOf "__str__" "Worth.__str__" (defArgs s_Worth___str__) (defBody s_Worth___str__) (defScope s_Worth___str__) .none kV_Worth___str__ dc_Worth___str__ pm_Worth___str__ an_Worth___str__ cd_Worth___str__ ct_Worth___str__), sl_Worth___str__⟩)
    (c_Worth___str__ : PySem.W.codeIn K cd_Worth___str__ "Worth.__str__" = true)
    (k_Worth___str__ : PySem.W.keepIn K (.ref f_Worth___str__) = true)
    (rd_CWt : PySem.W.readsIn K CWt (.type "type") = true)
    (ga_CWt : PySem.W.specialIn K (.ref CWt) "__getattribute__" = some (some (.builtin "type.__getattribute__")))
    (at_Worth_still : PySem.W.findCls K (.ref CWt) (.type "type") "still" = some (.get (.builtin "classmethod.__get__") (.ref p_Worth_still) .none (.ref CWt)))
    (rc_Worth_still : PySem.W.recIn K p_Worth_still "classmethod" = some (.ref f_Worth_still :: r_Worth_still))
    (l_Worth_still : K.lookup f_Worth_still = some ⟨oc_Worth_still, od_Worth_still, .func (PySem.W.fnOf "still" "Worth.still" (defArgs s_Worth_still) (defBody s_Worth_still) (defScope s_Worth_still) .none kV_Worth_still dc_Worth_still pm_Worth_still an_Worth_still cd_Worth_still ct_Worth_still), sl_Worth_still⟩)
    (c_Worth_still : PySem.W.codeIn K cd_Worth_still "Worth.still" = true)
    (k_Worth_still : PySem.W.keepIn K (.ref f_Worth_still) = true)
    (fi_Worth_still : PySem.W.fnIn K f_Worth_still = true)
    (at_Worth_never : PySem.W.findCls K (.ref CWt) (.type "type") "never" = some (.get (.builtin "classmethod.__get__") (.ref p_Worth_never) .none (.ref CWt)))
    (rc_Worth_never : PySem.W.recIn K p_Worth_never "classmethod" = some (.ref f_Worth_never :: r_Worth_never))
    (l_Worth_never : K.lookup f_Worth_never = some ⟨oc_Worth_never, od_Worth_never, .func (PySem.W.fnOf "never" "Worth.never" (defArgs s_Worth_never) (defBody s_Worth_never) (defScope s_Worth_never) .none kV_Worth_never dc_Worth_never pm_Worth_never an_Worth_never cd_Worth_never ct_Worth_never), sl_Worth_never⟩)
    (c_Worth_never : PySem.W.codeIn K cd_Worth_never "Worth.never" = true)
    (k_Worth_never : PySem.W.keepIn K (.ref f_Worth_never) = true)
    (fi_Worth_never : PySem.W.fnIn K f_Worth_never = true)
    (at_Worth_named : PySem.W.findCls K (.ref CWt) (.type "type") "named" = some (.get (.builtin "classmethod.__get__") (.ref p_Worth_named) .none (.ref CWt)))
    (rc_Worth_named : PySem.W.recIn K p_Worth_named "classmethod" = some (.ref f_Worth_named :: r_Worth_named))
    (l_Worth_named : K.lookup f_Worth_named = some ⟨oc_Worth_named, od_Worth_named, .func (PySem.W.fnOf "named" "Worth.named" (defArgs s_Worth_named) (defBody s_Worth_named) (defScope s_Worth_named) .none kV_Worth_named dc_Worth_named pm_Worth_named an_Worth_named cd_Worth_named ct_Worth_named), sl_Worth_named⟩)
    (c_Worth_named : PySem.W.codeIn K cd_Worth_named "Worth.named" = true)
    (k_Worth_named : PySem.W.keepIn K (.ref f_Worth_named) = true)
    (fi_Worth_named : PySem.W.fnIn K f_Worth_named = true)
    (a_f_nested_words : PySem.W.nsIn K mainGlobals "nested_words" = some (some (.ref f_nested_words)))
    (l_nested_words : K.lookup f_nested_words = some ⟨oc_nested_words, od_nested_words, .func (PySem.W.fnOf "nested_words" "nested_words" (defArgs s_nested_words) (defBody s_nested_words) (defScope s_nested_words) .none kV_nested_words dc_nested_words pm_nested_words an_nested_words cd_nested_words ct_nested_words), sl_nested_words⟩)
    (c_nested_words : PySem.W.codeIn K cd_nested_words "nested_words" = true)
    (k_nested_words : PySem.W.keepIn K (.ref f_nested_words) = true)
    (a_f_square_rows : PySem.W.nsIn K mainGlobals "square_rows" = some (some (.ref f_square_rows)))
    (l_square_rows : K.lookup f_square_rows = some ⟨oc_square_rows, od_square_rows, .func (PySem.W.fnOf "square_rows" "square_rows" (defArgs s_square_rows) (defBody s_square_rows) (defScope s_square_rows) .none kV_square_rows dc_square_rows pm_square_rows an_square_rows cd_square_rows ct_square_rows), sl_square_rows⟩)
    (c_square_rows : PySem.W.codeIn K cd_square_rows "square_rows" = true)
    (k_square_rows : PySem.W.keepIn K (.ref f_square_rows) = true)
    (a_f_table_of_fields : PySem.W.nsIn K mainGlobals "table_of_fields" = some (some (.ref f_table_of_fields)))
    (l_table_of_fields : K.lookup f_table_of_fields = some ⟨oc_table_of_fields, od_table_of_fields, .func (PySem.W.fnOf "table_of_fields" "table_of_fields" (defArgs s_table_of_fields) (defBody s_table_of_fields) (defScope s_table_of_fields) .none kV_table_of_fields dc_table_of_fields pm_table_of_fields an_table_of_fields cd_table_of_fields ct_table_of_fields), sl_table_of_fields⟩)
    (c_table_of_fields : PySem.W.codeIn K cd_table_of_fields "table_of_fields" = true)
    (k_table_of_fields : PySem.W.keepIn K (.ref f_table_of_fields) = true)
    (a_f_scale_of_list : PySem.W.nsIn K mainGlobals "scale_of_list" = some (some (.ref f_scale_of_list)))
    (l_scale_of_list : K.lookup f_scale_of_list = some ⟨oc_scale_of_list, od_scale_of_list, .func (PySem.W.fnOf "scale_of_list" "scale_of_list" (defArgs s_scale_of_list) (defBody s_scale_of_list) (defScope s_scale_of_list) .none kV_scale_of_list dc_scale_of_list pm_scale_of_list an_scale_of_list cd_scale_of_list ct_scale_of_list), sl_scale_of_list⟩)
    (c_scale_of_list : PySem.W.codeIn K cd_scale_of_list "scale_of_list" = true)
    (k_scale_of_list : PySem.W.keepIn K (.ref f_scale_of_list) = true)
    (a_f_read_scale : PySem.W.nsIn K mainGlobals "read_scale" = some (some (.ref f_read_scale)))
    (l_read_scale : K.lookup f_read_scale = some ⟨oc_read_scale, od_read_scale, .func (PySem.W.fnOf "read_scale" "read_scale" (defArgs s_read_scale) (defBody s_read_scale) (defScope s_read_scale) .none kV_read_scale dc_read_scale pm_read_scale an_read_scale cd_read_scale ct_read_scale), sl_read_scale⟩)
    (c_read_scale : PySem.W.codeIn K cd_read_scale "read_scale" = true)
    (k_read_scale : PySem.W.keepIn K (.ref f_read_scale) = true)
    (a_A_BadScale : PySem.W.nsIn K mainGlobals "BadScale" = some (some (.ref A_BadScale)))
    (xh_BadScale : PySem.W.hasDictIn K A_BadScale = true)
    (xe_BadScale : PySem.W.subIn K (.ref A_BadScale) (.type "BaseException") = some true)
    (xk_BadScale : PySem.W.keepIn K (.ref A_BadScale) = true)
    (xg_BadScale : PySem.W.findIn K (.ref A_BadScale) "__getattribute__" = some (some (.builtin "BaseException.__getattribute__")))
    (xgg_BadScale : PySem.W.findIn K (.ref A_BadScale) "__getattr__" = some none)
    (xcl_BadScale : PySem.W.findIn K (.ref A_BadScale) "__class__" = some (some (.builtin "object.__class__")))
    (xmo_BadScale : PySem.W.mroIn K A_BadScale (.type "object") = some true)
    (xt_BadScale : PySem.W.typeIn K (.ref A_BadScale) = some (.type "type"))
    (xte_BadScale : PySem.W.exmOne K (.ref A_BadScale) (.ref A_BadScale) = some true)
    (q_BadScale : PySem.W.excIn K A_BadScale (eTail "ValueError") "ValueError.__new__" = true)
    (gDl : PySem.W.nsIn K mainGlobals "DEEPEST_labels" = some (some (.int 12 tDl)))
    (a_f__law_spoiled : PySem.W.nsIn K mainGlobals "_law_spoiled" = some (some (.ref f__law_spoiled)))
    (l__law_spoiled : K.lookup f__law_spoiled = some ⟨oc__law_spoiled, od__law_spoiled, .func (PySem.W.fnOf "_law_spoiled" "_law_spoiled" (defArgs s__law_spoiled) (defBody s__law_spoiled) (defScope s__law_spoiled) .none kV__law_spoiled dc__law_spoiled pm__law_spoiled an__law_spoiled cd__law_spoiled ct__law_spoiled), sl__law_spoiled⟩)
    (c__law_spoiled : PySem.W.codeIn K cd__law_spoiled "_law_spoiled" = true)
    (k__law_spoiled : PySem.W.keepIn K (.ref f__law_spoiled) = true)
    (a_f__law_deed : PySem.W.nsIn K mainGlobals "_law_deed" = some (some (.ref f__law_deed)))
    (l__law_deed : K.lookup f__law_deed = some ⟨oc__law_deed, od__law_deed, .func (PySem.W.fnOf "_law_deed" "_law_deed" (defArgs s__law_deed) (defBody s__law_deed) (defScope s__law_deed) .none kV__law_deed dc__law_deed pm__law_deed an__law_deed cd__law_deed ct__law_deed), sl__law_deed⟩)
    (c__law_deed : PySem.W.codeIn K cd__law_deed "_law_deed" = true)
    (k__law_deed : PySem.W.keepIn K (.ref f__law_deed) = true)
    (a_f__law_is : PySem.W.nsIn K mainGlobals "_law_is" = some (some (.ref f__law_is)))
    (l__law_is : K.lookup f__law_is = some ⟨oc__law_is, od__law_is, .func (PySem.W.fnOf "_law_is" "_law_is" (defArgs s__law_is) (defBody s__law_is) (defScope s__law_is) .none kV__law_is dc__law_is pm__law_is an__law_is cd__law_is ct__law_is), sl__law_is⟩)
    (c__law_is : PySem.W.codeIn K cd__law_is "_law_is" = true)
    (k__law_is : PySem.W.keepIn K (.ref f__law_is) = true)
    (a_f__law_truth : PySem.W.nsIn K mainGlobals "_law_truth" = some (some (.ref f__law_truth)))
    (l__law_truth : K.lookup f__law_truth = some ⟨oc__law_truth, od__law_truth, .func (PySem.W.fnOf "_law_truth" "_law_truth" (defArgs s__law_truth) (defBody s__law_truth) (defScope s__law_truth) .none kV__law_truth dc__law_truth pm__law_truth an__law_truth cd__law_truth ct__law_truth), sl__law_truth⟩)
    (c__law_truth : PySem.W.codeIn K cd__law_truth "_law_truth" = true)
    (k__law_truth : PySem.W.keepIn K (.ref f__law_truth) = true)
    (a_f__law_pair : PySem.W.nsIn K mainGlobals "_law_pair" = some (some (.ref f__law_pair)))
    (l__law_pair : K.lookup f__law_pair = some ⟨oc__law_pair, od__law_pair, .func (PySem.W.fnOf "_law_pair" "_law_pair" (defArgs s__law_pair) (defBody s__law_pair) (defScope s__law_pair) .none kV__law_pair dc__law_pair pm__law_pair an__law_pair cd__law_pair ct__law_pair), sl__law_pair⟩)
    (c__law_pair : PySem.W.codeIn K cd__law_pair "_law_pair" = true)
    (k__law_pair : PySem.W.keepIn K (.ref f__law_pair) = true)
    (a_f__law_unknown : PySem.W.nsIn K mainGlobals "_law_unknown" = some (some (.ref f__law_unknown)))
    (l__law_unknown : K.lookup f__law_unknown = some ⟨oc__law_unknown, od__law_unknown, .func (PySem.W.fnOf "_law_unknown" "_law_unknown" (defArgs s__law_unknown) (defBody s__law_unknown) (defScope s__law_unknown) .none kV__law_unknown dc__law_unknown pm__law_unknown an__law_unknown cd__law_unknown ct__law_unknown), sl__law_unknown⟩)
    (c__law_unknown : PySem.W.codeIn K cd__law_unknown "_law_unknown" = true)
    (k__law_unknown : PySem.W.keepIn K (.ref f__law_unknown) = true)
    (a_f_law : PySem.W.nsIn K mainGlobals "law" = some (some (.ref f_law)))
    (l_law : K.lookup f_law = some ⟨oc_law, od_law, .func (PySem.W.fnOf "law" "law" (defArgs s_law) (defBody s_law) (defScope s_law) .none kV_law dc_law pm_law an_law cd_law ct_law), sl_law⟩)
    (c_law : PySem.W.codeIn K cd_law "law" = true)
    (k_law : PySem.W.keepIn K (.ref f_law) = true)
    (a_CDe : PySem.W.nsIn K mainGlobals "DeedscaleError" = some (some (.ref CDe)))
    (kDe : PySem.W.kitOne K (.ref A_MixedScales) (.ref CDe) = some true)
    (kVe : PySem.W.kitOne K (.ref A_MixedScales) (.type "ValueError") = some true)
    (kBe : PySem.W.kitOne K (.ref A_MixedScales) (.ref A_BadScale) = some false)
    : ∃ fd : FuncData, (∀ (s : Shared) (v : Value), BindsTo s fd ⟨[v], []⟩ [("_law_script", v)]) ∧ ∀ base : Heap, K.In base → base.Ns mainGlobals mg → FnOk l.prog w K mg base CX0 16 fa fd ["_law_script"] (sp_law K) := by
  have e := hfa.symm.trans (PySem.W.mg_of X G a_f_law)
  cases e
  refine ⟨PySem.W.fnOf "law" "law" (defArgs s_law) (defBody s_law) (defScope s_law) .none kV_law dc_law pm_law an_law cd_law ct_law, fun s v => .of_eq rfl, fun base _ _ => ?_⟩
  have Z : Bi mg := ⟨PySem.W.mg_none_of X G z_int, PySem.W.mg_none_of X G z_abs, PySem.W.mg_none_of X G z_range, PySem.W.mg_none_of X G z_len, PySem.W.mg_none_of X G z_isinstance, PySem.W.mg_none_of X G z_bool, PySem.W.mg_none_of X G z_str, PySem.W.mg_none_of X G z_list, PySem.W.mg_none_of X G z_tuple, PySem.W.mg_none_of X G z_dict, PySem.W.mg_none_of X G z_enumerate, PySem.W.mg_none_of X G z_zip, PySem.W.mg_none_of X G z_reversed, PySem.W.mg_none_of X G z_ValueError, PySem.W.mg_none_of X G z_LookupError, PySem.W.mg_none_of X G z_KeyError, PySem.W.mg_none_of X G z_Exception, PySem.W.mg_none_of X G z_super, PySem.W.mg_none_of X G z_sum, PySem.W.mg_none_of X G z_any, PySem.W.mg_none_of X G z_all, PySem.W.mg_none_of X G z_sorted, PySem.W.mg_none_of X G z_max, PySem.W.mg_none_of X G z_min, PySem.W.mg_none_of X G z_NotImplementedError, PySem.W.mg_none_of X G z_set, PySem.W.mg_none_of X G z_repr⟩
  have hC_CT : Cls K CT := ⟨pg_CT, hd_CT, po_CT, sa_CT⟩
  have hN_CT : ∀ f ∈ (["written_joins", "written_products", "label", "size", "never_at", "still_at", "depth", "worth_names", "worth_places", "product_table", "join_table"] : List Str), NoAttr K CT f := by
    intro f hf
    simp only [List.mem_cons, List.not_mem_nil, or_false] at hf
    rcases hf with rfl | rfl | rfl | rfl | rfl | rfl | rfl | rfl | rfl | rfl | rfl
    · exact na_CT_written_joins
    · exact na_CT_written_products
    · exact na_CT_label
    · exact na_CT_size
    · exact na_CT_never_at
    · exact na_CT_still_at
    · exact na_CT_depth
    · exact na_CT_worth_names
    · exact na_CT_worth_places
    · exact na_CT_product_table
    · exact na_CT_join_table
  have n_CT : ∀ f ∈ scF, NoAttr K CT f := fun f hf => hN_CT f (List.mem_cons_of_mem _ (List.mem_cons_of_mem _ hf))
  have o_CT : ClsOk K CT := ⟨hC_CT, n_CT⟩
  have hC_CC : Cls K CC := ⟨pg_CC, hd_CC, po_CC, sa_CC⟩
  have hN_CC : ∀ f ∈ (["most", "rising", "contents", "label", "size", "never_at", "still_at", "depth", "worth_names", "worth_places", "product_table", "join_table"] : List Str), NoAttr K CC f := by
    intro f hf
    simp only [List.mem_cons, List.not_mem_nil, or_false] at hf
    rcases hf with rfl | rfl | rfl | rfl | rfl | rfl | rfl | rfl | rfl | rfl | rfl | rfl
    · exact na_CC_most
    · exact na_CC_rising
    · exact na_CC_contents
    · exact na_CC_label
    · exact na_CC_size
    · exact na_CC_never_at
    · exact na_CC_still_at
    · exact na_CC_depth
    · exact na_CC_worth_names
    · exact na_CC_worth_places
    · exact na_CC_product_table
    · exact na_CC_join_table
  have nW_CC : ∀ f ∈ wnF, NoAttr K CC f := fun f hf => hN_CC f (List.mem_cons_of_mem _ (List.mem_cons_of_mem _ hf))
  have n_CC : ∀ f ∈ scF, NoAttr K CC f := fun f hf => hN_CC f (List.mem_cons_of_mem _ (List.mem_cons_of_mem _ (List.mem_cons_of_mem _ hf)))
  have o_CC : ClsOk K CC := ⟨hC_CC, n_CC⟩
  have hC_CR : Cls K CR := ⟨pg_CR, hd_CR, po_CR, sa_CR⟩
  have hN_CR : ∀ f ∈ (["inner", "label", "size", "never_at", "still_at", "depth", "worth_names", "worth_places", "product_table", "join_table"] : List Str), NoAttr K CR f := by
    intro f hf
    simp only [List.mem_cons, List.not_mem_nil, or_false] at hf
    rcases hf with rfl | rfl | rfl | rfl | rfl | rfl | rfl | rfl | rfl | rfl
    · exact na_CR_inner
    · exact na_CR_label
    · exact na_CR_size
    · exact na_CR_never_at
    · exact na_CR_still_at
    · exact na_CR_depth
    · exact na_CR_worth_names
    · exact na_CR_worth_places
    · exact na_CR_product_table
    · exact na_CR_join_table
  have n_CR : ∀ f ∈ scF, NoAttr K CR f := fun f hf => hN_CR f (List.mem_cons_of_mem _ hf)
  have o_CR : ClsOk K CR := ⟨hC_CR, n_CR⟩
  have X_U : ExI l.prog K mg CU f_UnknownWorth___init__ "name" "LookupError" "LookupError.__new__" "LookupError.__init__" := mk_exi (txt := "a scale has no worth of a name") ⟨xi, xo, xh, xs, xe, xb, xt, xk⟩ a_f_UnknownWorth___init__ ty_UnknownWorth___init__ xn xsup xm Z.z_super opq top0 l_UnknownWorth___init__ c_UnknownWorth___init__ lc_UnknownWorth___init__ hv_UnknownWorth___init__ hf_UnknownWorth___init__ lx_UnknownWorth___init__
    ⟨_, _, _, _, _, _, _, _, _, _, _, _, rfl, fun _ => rfl, fun _ _ => rfl, fun _ _ => rfl⟩ ⟨rfl, rfl, rfl, by decide +kernel⟩ ⟨rfl, rfl, rfl, rfl⟩ ⟨_, rfl, rfl⟩ (by decide +kernel) (by decide +kernel) fun fd s x v => exi_fn
  have X_c : ExcC K CU := ⟨xg, xgg, xe, xh, xcl, xsp, xtk, xmo⟩
  have X_g : ExG K CU "name" := ⟨xg, xgg, xe, xh, xn⟩
  have F_Scale___init__ := mk_funD (v := .int 1) l_Scale___init__ c_Scale___init__ k_Scale___init__ lT ⟨_, rfl⟩
  have F_cut_down := fun_mk (st := s_cut_down) l_cut_down c_cut_down k_cut_down
  have F_number_name := fun_mk (st := s_number_name) l_number_name c_number_name k_number_name
  have b_cut_down := F_cut_down.binds (ps := ["number", "most"]) fun _ _ _ _ _ _ us hl => match us, hl with | [_, _], _ => rfl
  have c__cut_down : Callee l.prog w K mg base "cut_down" CX0 1 ["number", "most"] [] (spP PCut) := ⟨f_cut_down, _, [], PySem.W.mg_of X G a_f_cut_down, k_cut_down, ok_cut_down F_cut_down, b_cut_down, .nil⟩
  have b_number_name := F_number_name.binds (ps := ["number", "most"]) fun _ _ _ _ _ _ us hl => match us, hl with | [_, _], _ => rfl
  have c__number_name : Callee l.prog w K mg base "number_name" CX0 1 ["number", "most"] [] (spP PNum) := ⟨f_number_name, _, [], PySem.W.mg_of X G a_f_number_name, k_number_name, ok_number_name Z F_number_name, b_number_name, .nil⟩
  have F_is_table_name := fun_mk (st := s_is_table_name) l_is_table_name c_is_table_name k_is_table_name
  have F_table_places := fun_mk (st := s_table_places) l_table_places c_table_places k_table_places
  have b_is_table_name := F_is_table_name.binds (ps := ["name"]) fun _ _ _ _ _ _ us hl => match us, hl with | [_], _ => rfl
  have c__is_table_name : Callee l.prog w K mg base "is_table_name" CX0 1 ["name"] [] (spP PIsN) := ⟨f_is_table_name, _, [], PySem.W.mg_of X G a_f_is_table_name, k_is_table_name, ok_is_table_name Z (PySem.W.mg_of X G gS) F_is_table_name, b_is_table_name, .nil⟩
  have b_table_places := F_table_places.binds (ps := ["places", "table"]) fun _ _ _ _ _ _ us hl => match us, hl with | [_, _], _ => rfl
  have c__table_places : Callee l.prog w K mg base "table_places" CX0 1 ["places", "table"] [] (spP PTp) := ⟨f_table_places, _, [], PySem.W.mg_of X G a_f_table_places, k_table_places, ok_table_places Z F_table_places, b_table_places, .nil⟩
  have F_depth_above := fun_mk (st := s_depth_above) l_depth_above c_depth_above k_depth_above
  have c__depth_above : CalleeR l.prog w K mg base "depth_above" CX0 2 (spP (PDepC K [CT, CC, CR])) := ok_depth_above Z (PySem.W.mg_of X G gM) (PySem.W.mg_of X G gD) F_depth_above (PySem.W.mg_of X G a_f_depth_above) k_depth_above
  have F_Scale_then_at := fun_mk (st := s_Scale_then_at) l_Scale_then_at c_Scale_then_at k_Scale_then_at
  have b_Scale_then_at := F_Scale_then_at.binds (ps := ["self", "first", "second"]) fun _ _ _ _ _ _ us hl => match us, hl with | [_, _, _], _ => rfl
  have c_CT_then_at : Method l.prog w K mg base CT "then_at" CX0 1 ["self", "first", "second"] [] (spP (PAt K fun th _ a b => .int (th a b))) := ⟨f_Scale_then_at, _, [], hC_CT, ⟨a_CT_f_Scale_then_at, i_Scale_then_at, k_Scale_then_at⟩, ok_then_at F_Scale_then_at, b_Scale_then_at, .nil⟩
  have c_CC_then_at : Method l.prog w K mg base CC "then_at" CX0 1 ["self", "first", "second"] [] (spP (PAt K fun th _ a b => .int (th a b))) := ⟨f_Scale_then_at, _, [], hC_CC, ⟨a_CC_f_Scale_then_at, i_Scale_then_at, k_Scale_then_at⟩, ok_then_at F_Scale_then_at, b_Scale_then_at, .nil⟩
  have c_CR_then_at : Method l.prog w K mg base CR "then_at" CX0 1 ["self", "first", "second"] [] (spP (PAt K fun th _ a b => .int (th a b))) := ⟨f_Scale_then_at, _, [], hC_CR, ⟨a_CR_f_Scale_then_at, i_Scale_then_at, k_Scale_then_at⟩, ok_then_at F_Scale_then_at, b_Scale_then_at, .nil⟩
  have c_then_at : ∀ C ∈ [CT, CC, CR], Method l.prog w K mg base C "then_at" CX0 1 ["self", "first", "second"] [] (spP (PAt K fun th _ a b => .int (th a b))) := by
    intro C h
    simp only [List.mem_cons, List.not_mem_nil, or_false] at h
    rcases h with rfl | rfl | rfl
    · exact c_CT_then_at
    · exact c_CC_then_at
    · exact c_CR_then_at
  have F_Scale_join_at := fun_mk (st := s_Scale_join_at) l_Scale_join_at c_Scale_join_at k_Scale_join_at
  have b_Scale_join_at := F_Scale_join_at.binds (ps := ["self", "first", "second"]) fun _ _ _ _ _ _ us hl => match us, hl with | [_, _, _], _ => rfl
  have c_CT_join_at : Method l.prog w K mg base CT "join_at" CX0 1 ["self", "first", "second"] [] (spP (PAt K fun _ jn a b => .int (jn a b))) := ⟨f_Scale_join_at, _, [], hC_CT, ⟨a_CT_f_Scale_join_at, i_Scale_join_at, k_Scale_join_at⟩, ok_join_at F_Scale_join_at, b_Scale_join_at, .nil⟩
  have c_CC_join_at : Method l.prog w K mg base CC "join_at" CX0 1 ["self", "first", "second"] [] (spP (PAt K fun _ jn a b => .int (jn a b))) := ⟨f_Scale_join_at, _, [], hC_CC, ⟨a_CC_f_Scale_join_at, i_Scale_join_at, k_Scale_join_at⟩, ok_join_at F_Scale_join_at, b_Scale_join_at, .nil⟩
  have c_CR_join_at : Method l.prog w K mg base CR "join_at" CX0 1 ["self", "first", "second"] [] (spP (PAt K fun _ jn a b => .int (jn a b))) := ⟨f_Scale_join_at, _, [], hC_CR, ⟨a_CR_f_Scale_join_at, i_Scale_join_at, k_Scale_join_at⟩, ok_join_at F_Scale_join_at, b_Scale_join_at, .nil⟩
  have c_join_at : ∀ C ∈ [CT, CC, CR], Method l.prog w K mg base C "join_at" CX0 1 ["self", "first", "second"] [] (spP (PAt K fun _ jn a b => .int (jn a b))) := by
    intro C h
    simp only [List.mem_cons, List.not_mem_nil, or_false] at h
    rcases h with rfl | rfl | rfl
    · exact c_CT_join_at
    · exact c_CC_join_at
    · exact c_CR_join_at
  have F_Scale_within_at := fun_mk (st := s_Scale_within_at) l_Scale_within_at c_Scale_within_at k_Scale_within_at
  have b_Scale_within_at := F_Scale_within_at.binds (ps := ["self", "first", "second"]) fun _ _ _ _ _ _ us hl => match us, hl with | [_, _, _], _ => rfl
  have c_CT_within_at : Method l.prog w K mg base CT "within_at" CX0 1 ["self", "first", "second"] [] (spP (PAt K fun _ jn a b => .bl (decide (jn a b = (b : Nat))))) := ⟨f_Scale_within_at, _, [], hC_CT, ⟨a_CT_f_Scale_within_at, i_Scale_within_at, k_Scale_within_at⟩, ok_within_at F_Scale_within_at, b_Scale_within_at, .nil⟩
  have c_CC_within_at : Method l.prog w K mg base CC "within_at" CX0 1 ["self", "first", "second"] [] (spP (PAt K fun _ jn a b => .bl (decide (jn a b = (b : Nat))))) := ⟨f_Scale_within_at, _, [], hC_CC, ⟨a_CC_f_Scale_within_at, i_Scale_within_at, k_Scale_within_at⟩, ok_within_at F_Scale_within_at, b_Scale_within_at, .nil⟩
  have c_CR_within_at : Method l.prog w K mg base CR "within_at" CX0 1 ["self", "first", "second"] [] (spP (PAt K fun _ jn a b => .bl (decide (jn a b = (b : Nat))))) := ⟨f_Scale_within_at, _, [], hC_CR, ⟨a_CR_f_Scale_within_at, i_Scale_within_at, k_Scale_within_at⟩, ok_within_at F_Scale_within_at, b_Scale_within_at, .nil⟩
  have c_within_at : ∀ C ∈ [CT, CC, CR], Method l.prog w K mg base C "within_at" CX0 1 ["self", "first", "second"] [] (spP (PAt K fun _ jn a b => .bl (decide (jn a b = (b : Nat))))) := by
    intro C h
    simp only [List.mem_cons, List.not_mem_nil, or_false] at h
    rcases h with rfl | rfl | rfl
    · exact c_CT_within_at
    · exact c_CC_within_at
    · exact c_CR_within_at
  have F_Scale_name_at := fun_mk (st := s_Scale_name_at) l_Scale_name_at c_Scale_name_at k_Scale_name_at
  have b_Scale_name_at := F_Scale_name_at.binds (ps := ["self", "place"]) fun _ _ _ _ _ _ us hl => match us, hl with | [_, _], _ => rfl
  have c_CT_name_at : Method l.prog w K mg base CT "name_at" CX0 1 ["self", "place"] [] (spP (PName K)) := ⟨f_Scale_name_at, _, [], hC_CT, ⟨a_CT_f_Scale_name_at, i_Scale_name_at, k_Scale_name_at⟩, ok_name_at F_Scale_name_at, b_Scale_name_at, .nil⟩
  have c_CC_name_at : Method l.prog w K mg base CC "name_at" CX0 1 ["self", "place"] [] (spP (PName K)) := ⟨f_Scale_name_at, _, [], hC_CC, ⟨a_CC_f_Scale_name_at, i_Scale_name_at, k_Scale_name_at⟩, ok_name_at F_Scale_name_at, b_Scale_name_at, .nil⟩
  have c_CR_name_at : Method l.prog w K mg base CR "name_at" CX0 1 ["self", "place"] [] (spP (PName K)) := ⟨f_Scale_name_at, _, [], hC_CR, ⟨a_CR_f_Scale_name_at, i_Scale_name_at, k_Scale_name_at⟩, ok_name_at F_Scale_name_at, b_Scale_name_at, .nil⟩
  have c_name_at : ∀ C ∈ [CT, CC, CR], Method l.prog w K mg base C "name_at" CX0 1 ["self", "place"] [] (spP (PName K)) := by
    intro C h
    simp only [List.mem_cons, List.not_mem_nil, or_false] at h
    rcases h with rfl | rfl | rfl
    · exact c_CT_name_at
    · exact c_CC_name_at
    · exact c_CR_name_at
  have F_Scale_at_name := fun_mk (st := s_Scale_at_name) l_Scale_at_name c_Scale_at_name k_Scale_at_name
  have b_Scale_at_name := F_Scale_at_name.binds (ps := ["self", "name"]) fun _ _ _ _ _ _ us hl => match us, hl with | [_, _], _ => rfl
  have c_CT_at_name : Method l.prog w K mg base CT "at_name" (L2.CX l.prog w) 4 ["self", "name"] [] (sp_at_name K CU) := ⟨f_Scale_at_name, _, [], hC_CT, ⟨a_CT_f_Scale_at_name, i_Scale_at_name, k_Scale_at_name⟩, ok_at_name F_Scale_at_name X_U (PySem.W.mg_of X G a_CU), b_Scale_at_name, .nil⟩
  have c_CC_at_name : Method l.prog w K mg base CC "at_name" (L2.CX l.prog w) 4 ["self", "name"] [] (sp_at_name K CU) := ⟨f_Scale_at_name, _, [], hC_CC, ⟨a_CC_f_Scale_at_name, i_Scale_at_name, k_Scale_at_name⟩, ok_at_name F_Scale_at_name X_U (PySem.W.mg_of X G a_CU), b_Scale_at_name, .nil⟩
  have c_CR_at_name : Method l.prog w K mg base CR "at_name" (L2.CX l.prog w) 4 ["self", "name"] [] (sp_at_name K CU) := ⟨f_Scale_at_name, _, [], hC_CR, ⟨a_CR_f_Scale_at_name, i_Scale_at_name, k_Scale_at_name⟩, ok_at_name F_Scale_at_name X_U (PySem.W.mg_of X G a_CU), b_Scale_at_name, .nil⟩
  have c_at_name : ∀ C ∈ [CT, CC, CR], Method l.prog w K mg base C "at_name" (L2.CX l.prog w) 4 ["self", "name"] [] (sp_at_name K CU) := by
    intro C h
    simp only [List.mem_cons, List.not_mem_nil, or_false] at h
    rcases h with rfl | rfl | rfl
    · exact c_CT_at_name
    · exact c_CC_at_name
    · exact c_CR_at_name
  have F_TableScale_make_then := fun_mk (st := s_TableScale_make_then) l_TableScale_make_then c_TableScale_make_then k_TableScale_make_then
  have b_TableScale_make_then := F_TableScale_make_then.binds (ps := ["self", "first", "second"]) fun _ _ _ _ _ _ us hl => match us, hl with | [_, _, _], _ => rfl
  have c_CT_make_then : Method l.prog w K mg base CT "make_then" CX0 5 ["self", "first", "second"] [] (spP (PTbM CT "written_products")) := ⟨f_TableScale_make_then, _, [], hC_CT, ⟨a_CT_f_TableScale_make_then, i_TableScale_make_then, k_TableScale_make_then⟩, ok_tb_then hC_CT (hN_CT _ (by simp)) F_TableScale_make_then, b_TableScale_make_then, .nil⟩
  have F_TableScale_make_join := fun_mk (st := s_TableScale_make_join) l_TableScale_make_join c_TableScale_make_join k_TableScale_make_join
  have b_TableScale_make_join := F_TableScale_make_join.binds (ps := ["self", "first", "second"]) fun _ _ _ _ _ _ us hl => match us, hl with | [_, _, _], _ => rfl
  have c_CT_make_join : Method l.prog w K mg base CT "make_join" CX0 5 ["self", "first", "second"] [] (spP (PTbM CT "written_joins")) := ⟨f_TableScale_make_join, _, [], hC_CT, ⟨a_CT_f_TableScale_make_join, i_TableScale_make_join, k_TableScale_make_join⟩, ok_tb_join hC_CT (hN_CT _ (by simp)) F_TableScale_make_join, b_TableScale_make_join, .nil⟩
  have s_CT : SupC l.prog w K mg base f_Scale___init__ CX0 6 ["self", "label", "names", "never_at", "still_at", "depth"] [.int 1] (spI (PScI K CT (PTbM CT "written_products") (PTbM CT "written_joins"))) := by
    obtain ⟨ds, r, b⟩ := bind_Scale F_Scale___init__
    exact ⟨_, ds, ok_Scale_init Z hC_CT n_CT c_CT_make_then c_CT_make_join F_Scale___init__, b, r, fiS, tyS⟩
  have F_CountScale_behind := fun_mk (st := s_CountScale_behind) l_CountScale_behind c_CountScale_behind k_CountScale_behind
  have b_CountScale_behind := F_CountScale_behind.binds (ps := ["self", "first", "second"]) fun _ _ _ _ _ _ us hl => match us, hl with | [_, _, _], _ => rfl
  have c_CC_behind : Method l.prog w K mg base CC "behind" CX0 3 ["self", "first", "second"] [] (spP (PBeh CC)) := ⟨f_CountScale_behind, _, [], hC_CC, ⟨a_CC_f_CountScale_behind, i_CountScale_behind, k_CountScale_behind⟩, ok_behind hC_CC (hN_CC _ (by simp)) c__cut_down F_CountScale_behind, b_CountScale_behind, .nil⟩
  have F_CountScale_either := fun_mk (st := s_CountScale_either) l_CountScale_either c_CountScale_either k_CountScale_either
  have b_CountScale_either := F_CountScale_either.binds (ps := ["self", "first", "second"]) fun _ _ _ _ _ _ us hl => match us, hl with | [_, _, _], _ => rfl
  have c_CC_either : Method l.prog w K mg base CC "either" CX0 3 ["self", "first", "second"] [] (spP (PEit CC)) := ⟨f_CountScale_either, _, [], hC_CC, ⟨a_CC_f_CountScale_either, i_CountScale_either, k_CountScale_either⟩, ok_either hC_CC (hN_CC _ (by simp)) F_CountScale_either, b_CountScale_either, .nil⟩
  have F_WithNever_make_then := fun_mk (st := s_WithNever_make_then) l_WithNever_make_then c_WithNever_make_then k_WithNever_make_then
  have b_WithNever_make_then := F_WithNever_make_then.binds (ps := ["self", "first", "second"]) fun _ _ _ _ _ _ us hl => match us, hl with | [_, _, _], _ => rfl
  have c_CC_make_then : Method l.prog w K mg base CC "make_then" CX0 5 ["self", "first", "second"] [] (spP (PMk K CC "behind" (PBeh CC) fun _ _ => 0)) := ⟨f_WithNever_make_then, _, [], hC_CC, ⟨a_CC_f_WithNever_make_then, i_WithNever_make_then, k_WithNever_make_then⟩, ok_make_then hC_CC (nW_CC _ (by decide)) c_CC_behind F_WithNever_make_then, b_WithNever_make_then, .nil⟩
  have F_WithNever_make_join := fun_mk (st := s_WithNever_make_join) l_WithNever_make_join c_WithNever_make_join k_WithNever_make_join
  have b_WithNever_make_join := F_WithNever_make_join.binds (ps := ["self", "first", "second"]) fun _ _ _ _ _ _ us hl => match us, hl with | [_, _, _], _ => rfl
  have c_CC_make_join : Method l.prog w K mg base CC "make_join" CX0 5 ["self", "first", "second"] [] (spP (PMk K CC "either" (PEit CC) fun a b => (a : Int) + b)) := ⟨f_WithNever_make_join, _, [], hC_CC, ⟨a_CC_f_WithNever_make_join, i_WithNever_make_join, k_WithNever_make_join⟩, ok_make_join hC_CC (nW_CC _ (by decide)) c_CC_either F_WithNever_make_join, b_WithNever_make_join, .nil⟩
  have s_CC : SupC l.prog w K mg base f_Scale___init__ CX0 6 ["self", "label", "names", "never_at", "still_at", "depth"] [.int 1] (spI (PScI K CC (PMk K CC "behind" (PBeh CC) fun _ _ => 0) (PMk K CC "either" (PEit CC) fun a b => (a : Int) + b))) := by
    obtain ⟨ds, r, b⟩ := bind_Scale F_Scale___init__
    exact ⟨_, ds, ok_Scale_init Z hC_CC n_CC c_CC_make_then c_CC_make_join F_Scale___init__, b, r, fiS, tyS⟩
  have F_TurnedScale_make_then := fun_mk (st := s_TurnedScale_make_then) l_TurnedScale_make_then c_TurnedScale_make_then k_TurnedScale_make_then
  have b_TurnedScale_make_then := F_TurnedScale_make_then.binds (ps := ["self", "first", "second"]) fun _ _ _ _ _ _ us hl => match us, hl with | [_, _, _], _ => rfl
  have c_CR_make_then : Method l.prog w K mg base CR "make_then" CX0 5 ["self", "first", "second"] [] (spP (PTuM K [CT, CC, CR] CR SD.th)) := ⟨f_TurnedScale_make_then, _, [], hC_CR, ⟨a_CR_f_TurnedScale_make_then, i_TurnedScale_make_then, k_TurnedScale_make_then⟩, ok_turn_then hC_CR (hN_CR _ (by simp)) c_then_at F_TurnedScale_make_then, b_TurnedScale_make_then, .nil⟩
  have F_TurnedScale_make_join := fun_mk (st := s_TurnedScale_make_join) l_TurnedScale_make_join c_TurnedScale_make_join k_TurnedScale_make_join
  have b_TurnedScale_make_join := F_TurnedScale_make_join.binds (ps := ["self", "first", "second"]) fun _ _ _ _ _ _ us hl => match us, hl with | [_, _, _], _ => rfl
  have c_CR_make_join : Method l.prog w K mg base CR "make_join" CX0 5 ["self", "first", "second"] [] (spP (PTuM K [CT, CC, CR] CR SD.jn)) := ⟨f_TurnedScale_make_join, _, [], hC_CR, ⟨a_CR_f_TurnedScale_make_join, i_TurnedScale_make_join, k_TurnedScale_make_join⟩, ok_turn_join hC_CR (hN_CR _ (by simp)) c_join_at F_TurnedScale_make_join, b_TurnedScale_make_join, .nil⟩
  have s_CR : SupC l.prog w K mg base f_Scale___init__ CX0 6 ["self", "label", "names", "never_at", "still_at", "depth"] [] (spI (PScI K CR (PTuM K [CT, CC, CR] CR SD.th) (PTuM K [CT, CC, CR] CR SD.jn))) := by
    obtain ⟨ds, r, b⟩ := bind_Scale6 F_Scale___init__
    exact ⟨_, ds, ok_Scale_init Z hC_CR n_CR c_CR_make_then c_CR_make_join F_Scale___init__, b, r, fiS, tyS⟩
  have F_WithNever___init__ := mk_funS (P := l.prog) (kws := []) l_WithNever___init__ c_WithNever___init__ lc_WithNever___init__ hv_WithNever___init__ hf_WithNever___init__ lx_WithNever___init__ lD_WithNever___init__ k_WithNever___init__ fi2_WithNever___init__ ty_WithNever___init__ kwd_none
  have w_CC : SupC l.prog w K mg base f_WithNever___init__ (L2.CX l.prog w) 8 ["self", "label", "contents", "words"] [] (spI (PWnI K CC (PMk K CC "behind" (PBeh CC) fun _ _ => 0) (PMk K CC "either" (PEit CC) fun a b => (a : Int) + b))) := ⟨_, [], ok_WithNever_init Z hC_CC nW_CC opq top0 mW_CC sW_CC s_CC F_WithNever___init__, bind_Wn F_WithNever___init__, .nil, fi2_WithNever___init__, ty_WithNever___init__⟩
  have F_TableScale___init__ := mk_funS (P := l.prog) (kws := []) l_TableScale___init__ c_TableScale___init__ lc_TableScale___init__ hv_TableScale___init__ hf_TableScale___init__ lx_TableScale___init__ lD_TableScale___init__ k_TableScale___init__ fi2_TableScale___init__ ty_TableScale___init__ kwd_none
  have ok_CT := ok_TableScale_init Z hC_CT hN_CT opq top0 mCT sCT s_CT c__is_table_name c__table_places F_TableScale___init__ (w := w) (base := base)
  have M_CT : Mk K CT f_TableScale___init__ := ⟨mk_CT, a_f_TableScale___init__, fnCT, kp_CT⟩
  have mkK_CT : MakerK l.prog w K mg base "TableScale" CT (L2.CX l.prog w) 10 ["self", "names", "joins", "products", "never", "still"] 3 ["never", "still"] (fun vs zs => vs ++ zs) (spI (PTbI CT)) := ⟨_, _, _, PySem.W.mg_of X G a_CT, M_CT, ok_CT, bindK_Tb F_TableScale___init__⟩
  have F_CountScale___init__ := mk_funS (P := l.prog) (kws := [("order", .str "up")]) l_CountScale___init__ c_CountScale___init__ lc_CountScale___init__ hv_CountScale___init__ hf_CountScale___init__ lx_CountScale___init__ lD_CountScale___init__ k_CountScale___init__ fi2_CountScale___init__ ty_CountScale___init__ (kwd_one kw_CountScale___init__ ⟨_, rfl⟩)
  have ok_CC := ok_CountScale_init Z (PySem.W.mg_of X G gM) hC_CC hN_CC opq top0 mCC sCC w_CC c__number_name F_CountScale___init__ (w := w) (base := base)
  have M_CC : Mk K CC f_CountScale___init__ := ⟨mk_CC, a_f_CountScale___init__, fnCC, kp_CC⟩
  have mkK_CC : MakerK l.prog w K mg base "CountScale" CC (L2.CX l.prog w) 10 ["self", "most", "order"] 1 ["order"] (fun vs zs => vs ++ zs) (spI (PCsI CC)) := by
    obtain ⟨g, hg⟩ := bindK_Cs F_CountScale___init__
    exact ⟨_, _, g, PySem.W.mg_of X G a_CC, M_CC, ok_CC, hg⟩
  have mk_CC : Maker l.prog w K mg base "CountScale" CC (L2.CX l.prog w) 10 ["self", "most", "order"] [.str "up"] (spI (PCsI CC)) := by
    obtain ⟨ds, r, b⟩ := bind_Cs F_CountScale___init__
    exact ⟨_, _, ds, PySem.W.mg_of X G a_CC, M_CC, ok_CC, b, r⟩
  have F_TurnedScale___init__ := mk_funS (P := l.prog) (kws := []) l_TurnedScale___init__ c_TurnedScale___init__ lc_TurnedScale___init__ hv_TurnedScale___init__ hf_TurnedScale___init__ lx_TurnedScale___init__ lD_TurnedScale___init__ k_TurnedScale___init__ fi2_TurnedScale___init__ ty_TurnedScale___init__ kwd_none
  have ok_CR := ok_TurnedScale_init Z hC_CR hN_CR opq top0 mCR sCR s_CR c__depth_above c_name_at F_TurnedScale___init__ (w := w) (base := base)
  have M_CR : Mk K CR f_TurnedScale___init__ := ⟨mk_CR, a_f_TurnedScale___init__, fnCR, kp_CR⟩
  have mk_CR : Maker l.prog w K mg base "TurnedScale" CR (L2.CX l.prog w) 10 ["self", "inner"] [] (spI (PTuI K [CT, CC, CR] CR)) := ⟨_, _, [], PySem.W.mg_of X G a_CR, M_CR, ok_CR, bind_Tu F_TurnedScale___init__, .nil⟩
  have F__law_source := fun_mk (st := s__law_source) l__law_source c__law_source k__law_source
  have F__law_pick := fun_mk (st := s__law_pick) l__law_pick c__law_pick k__law_pick
  have b__law_source := F__law_source.binds (ps := ["_law_script"]) fun _ _ _ _ _ _ us hl => match us, hl with | [_], _ => rfl
  have c___law_source : Callee l.prog w K mg base "_law_source" CX0 1 ["_law_script"] [] (sp_source K) := ⟨f__law_source, _, [], PySem.W.mg_of X G a_f__law_source, k__law_source, ok_source Z F__law_source, b__law_source, .nil⟩
  have b__law_pick := F__law_pick.binds (ps := ["_law_source_here", "_law_many"]) fun _ _ _ _ _ _ us hl => match us, hl with | [_, _], _ => rfl
  have c___law_pick : Callee l.prog w K mg base "_law_pick" CX0 1 ["_law_source_here", "_law_many"] [] sp_pick := ⟨f__law_pick, _, [], PySem.W.mg_of X G a_f__law_pick, k__law_pick, ok_pick Z F__law_pick, b__law_pick, .nil⟩
  have F__law_join := fun_mk (st := s__law_join) l__law_join c__law_join k__law_join
  have F__law_then := fun_mk (st := s__law_then) l__law_then c__law_then k__law_then
  have F__law_tables := fun_mk (st := s__law_tables) l__law_tables c__law_tables k__law_tables
  have F__law_table_scale := fun_mk (st := s__law_table_scale) l__law_table_scale c__law_table_scale k__law_table_scale
  have b__law_join := F__law_join.binds (ps := ["_law_sort", "_law_a", "_law_b"]) fun _ _ _ _ _ _ us hl => match us, hl with | [_, _, _], _ => rfl
  have c___law_join : Callee l.prog w K mg base "_law_join" CX0 1 ["_law_sort", "_law_a", "_law_b"] [] (spP PLjn) := ⟨f__law_join, _, [], PySem.W.mg_of X G a_f__law_join, k__law_join, ok_ljn Z F__law_join, b__law_join, .nil⟩
  have b__law_then := F__law_then.binds (ps := ["_law_sort", "_law_most", "_law_a", "_law_b"]) fun _ _ _ _ _ _ us hl => match us, hl with | [_, _, _, _], _ => rfl
  have c___law_then : Callee l.prog w K mg base "_law_then" CX0 1 ["_law_sort", "_law_most", "_law_a", "_law_b"] [] (spP PLth) := ⟨f__law_then, _, [], PySem.W.mg_of X G a_f__law_then, k__law_then, ok_lth Z F__law_then, b__law_then, .nil⟩
  have b__law_table_scale := F__law_table_scale.binds (ps := ["_law_names", "_law_joins", "_law_products", "_law_low", "_law_mid"]) fun _ _ _ _ _ _ us hl => match us, hl with | [_, _, _, _, _], _ => rfl
  have c___law_table_scale : Callee l.prog w K mg base "_law_table_scale" CX0 12 ["_law_names", "_law_joins", "_law_products", "_law_low", "_law_mid"] [] (spP (PTsc K [CT, CC, CR])) := ⟨f__law_table_scale, _, [], PySem.W.mg_of X G a_f__law_table_scale, k__law_table_scale, ok_tsc Z (by simp) o_CT mkK_CT F__law_table_scale, b__law_table_scale, .nil⟩
  have b__law_tables := F__law_tables.binds (ps := ["_law_state"]) fun _ _ _ _ _ _ us hl => match us, hl with | [_], _ => rfl
  have c___law_tables : Callee l.prog w K mg base "_law_tables" CX0 13 ["_law_state"] [] (spS (PTbs K [CT, CC, CR])) := ⟨f__law_tables, _, [], PySem.W.mg_of X G a_f__law_tables, k__law_tables, ok_tables Z c___law_pick c___law_join c___law_then c___law_table_scale F__law_tables, b__law_tables, .nil⟩
  have hC_CWt : Cls K CWt := ⟨pg_CWt, hd_CWt, po_CWt, sa_CWt⟩
  have hN_CWt : ∀ f ∈ (["scale", "place", "name"] : List Str), NoAttr K CWt f := by
    intro f hf
    simp only [List.mem_cons, List.not_mem_nil, or_false] at hf
    rcases hf with rfl | rfl | rfl
    · exact na_CWt_scale
    · exact na_CWt_place
    · exact na_CWt_name
  have hW : WtC K CWt := ⟨hC_CWt, fun f hf => hN_CWt f hf⟩
  have W_ins : C8.InsC K CWt := ⟨hC_CWt, wca, xsp_, xtk_, wcm, wme⟩
  have F_Worth___init__ := fun_mk (st := s_Worth___init__) l_Worth___init__ c_Worth___init__ k_Worth___init__
  have b_Worth___init__ := F_Worth___init__.binds (ps := ["self", "scale", "place"]) fun _ _ _ _ _ _ us hl => match us, hl with | [_, _, _], _ => rfl
  have M_CWt : Mk K CWt f_Worth___init__ := ⟨mk_CWt, a_CWt_f_Worth___init__, i_Worth___init__, kp_CWt⟩
  have mk_Wt : Maker l.prog w K mg base "Worth" CWt CX0 2 ["self", "scale", "place"] [] (spI (PWoI K [CT, CC, CR] CWt)) := ⟨_, _, [], PySem.W.mg_of X G a_CWt, M_CWt, ok_Worth_init hW c_name_at F_Worth___init__, b_Worth___init__, .nil⟩
  have F_Worth___eq__ := fun_mk (st := s_Worth___eq__) l_Worth___eq__ c_Worth___eq__ k_Worth___eq__
  have b_Worth___eq__ := F_Worth___eq__.binds (ps := ["self", "other"]) fun _ _ _ _ _ _ us hl => match us, hl with | [_, _], _ => rfl
  have c_wt_eq : Method l.prog w K mg base CWt "__eq__" CX0 1 ["self", "other"] [] (spP (PEqW K [CT, CC, CR] CWt)) := ⟨f_Worth___eq__, _, [], hC_CWt, ⟨a_CWt_f_Worth___eq__, i_Worth___eq__, k_Worth___eq__⟩, ok_wt_eq Z hW W_ins (PySem.W.mg_of X G a_CWt) F_Worth___eq__, b_Worth___eq__, .nil⟩
  have X_MixedScales : ExcC K A_MixedScales := ⟨xg_MixedScales, xgg_MixedScales, xe_MixedScales, xh_MixedScales, xcl_MixedScales, xsp_, xtk_, xmo_MixedScales⟩
  have e_MixedScales : Ex0C K A_MixedScales := ⟨q_MixedScales, xk_MixedScales, xe_MixedScales, xt_MixedScales⟩
  have F_together := fun_mk (st := s_together) l_together c_together k_together
  have b_together := F_together.binds (ps := ["first", "second"]) fun _ _ _ _ _ _ us hl => match us, hl with | [_, _], _ => rfl
  have c__together : Callee l.prog w K mg base "together" (L2.CX l.prog w) 1 ["first", "second"] [] (sp_tog K [CT, CC, CR] A_MixedScales) := ⟨f_together, _, [], PySem.W.mg_of X G a_f_together, k_together, ok_together e_MixedScales (PySem.W.mg_of X G a_A_MixedScales) F_together, b_together, .nil⟩
  have F_Worth___mul__ := fun_mk (st := s_Worth___mul__) l_Worth___mul__ c_Worth___mul__ k_Worth___mul__
  have b_Worth___mul__ := F_Worth___mul__.binds (ps := ["self", "other"]) fun _ _ _ _ _ _ us hl => match us, hl with | [_, _], _ => rfl
  have c_wt__mul__ : Method l.prog w K mg base CWt "__mul__" (L2.CX l.prog w) 4 ["self", "other"] [] (sp_wop K [CT, CC, CR] CWt A_MixedScales (rMulW K [CT, CC, CR] CWt)) := ⟨f_Worth___mul__, _, [], hC_CWt, ⟨a_CWt_f_Worth___mul__, i_Worth___mul__, k_Worth___mul__⟩, ok_wt__mul__ Z hW W_ins (PySem.W.mg_of X G a_CWt) c__together c_then_at mk_Wt F_Worth___mul__, b_Worth___mul__, .nil⟩
  have F_Worth___or__ := fun_mk (st := s_Worth___or__) l_Worth___or__ c_Worth___or__ k_Worth___or__
  have b_Worth___or__ := F_Worth___or__.binds (ps := ["self", "other"]) fun _ _ _ _ _ _ us hl => match us, hl with | [_, _], _ => rfl
  have c_wt__or__ : Method l.prog w K mg base CWt "__or__" (L2.CX l.prog w) 4 ["self", "other"] [] (sp_wop K [CT, CC, CR] CWt A_MixedScales (rOrW K [CT, CC, CR] CWt)) := ⟨f_Worth___or__, _, [], hC_CWt, ⟨a_CWt_f_Worth___or__, i_Worth___or__, k_Worth___or__⟩, ok_wt__or__ Z hW W_ins (PySem.W.mg_of X G a_CWt) c__together c_join_at mk_Wt F_Worth___or__, b_Worth___or__, .nil⟩
  have F_Worth___le__ := fun_mk (st := s_Worth___le__) l_Worth___le__ c_Worth___le__ k_Worth___le__
  have b_Worth___le__ := F_Worth___le__.binds (ps := ["self", "other"]) fun _ _ _ _ _ _ us hl => match us, hl with | [_, _], _ => rfl
  have c_wt__le__ : Method l.prog w K mg base CWt "__le__" (L2.CX l.prog w) 2 ["self", "other"] [] (sp_wop K [CT, CC, CR] CWt A_MixedScales (rLeW)) := ⟨f_Worth___le__, _, [], hC_CWt, ⟨a_CWt_f_Worth___le__, i_Worth___le__, k_Worth___le__⟩, ok_wt__le__ Z hW W_ins (PySem.W.mg_of X G a_CWt) c__together c_within_at F_Worth___le__, b_Worth___le__, .nil⟩
  have F_Worth___lt__ := fun_mk (st := s_Worth___lt__) l_Worth___lt__ c_Worth___lt__ k_Worth___lt__
  have b_Worth___lt__ := F_Worth___lt__.binds (ps := ["self", "other"]) fun _ _ _ _ _ _ us hl => match us, hl with | [_, _], _ => rfl
  have c_wt__lt__ : Method l.prog w K mg base CWt "__lt__" (L2.CX l.prog w) 2 ["self", "other"] [] (sp_wop K [CT, CC, CR] CWt A_MixedScales (rLtW)) := ⟨f_Worth___lt__, _, [], hC_CWt, ⟨a_CWt_f_Worth___lt__, i_Worth___lt__, k_Worth___lt__⟩, ok_wt__lt__ Z hW W_ins (PySem.W.mg_of X G a_CWt) c__together c_within_at F_Worth___lt__, b_Worth___lt__, .nil⟩
  have c_wt_eqN : Method l.prog w K mg base CWt "__eq__" CX0 1 ["self", "other"] [] (spP (PEqN K [CT, CC, CR] CWt)) := ⟨f_Worth___eq__, _, [], hC_CWt, ⟨a_CWt_f_Worth___eq__, i_Worth___eq__, k_Worth___eq__⟩, ok_wt_eqN Z W_ins (PySem.W.mg_of X G a_CWt) wk1 wk2 F_Worth___eq__, b_Worth___eq__, .nil⟩
  have F_Worth___str__ := fun_mk (st := s_Worth___str__) l_Worth___str__ c_Worth___str__ k_Worth___str__
  have b_Worth___str__ := F_Worth___str__.binds (ps := ["self"]) fun _ _ _ _ _ _ us hl => match us, hl with | [_], _ => rfl
  have c_wt_str : Method l.prog w K mg base CWt "__str__" CX0 1 ["self"] [] (spP (PStrW K [CT, CC, CR] CWt)) := ⟨f_Worth___str__, _, [], hC_CWt, ⟨a_CWt_f_Worth___str__, i_Worth___str__, k_Worth___str__⟩, ok_wt_str Z hW F_Worth___str__, b_Worth___str__, .nil⟩
  have F_Worth_still := fun_mk (st := s_Worth_still) l_Worth_still c_Worth_still k_Worth_still
  have b_Worth_still := F_Worth_still.binds (ps := ["cls", "scale"]) fun _ _ _ _ _ _ us hl => match us, hl with | [_, _], _ => rfl
  have c_wt_still : ClsmC l.prog w K mg base CWt "still" CX0 4 (spP (PCls K [CT, CC, CR] CWt (fun d => d.sl.toNat))) := ⟨.type "type", p_Worth_still, f_Worth_still, ⟨rd_CWt, ga_CWt⟩, ⟨at_Worth_still, ⟨_, rc_Worth_still⟩, fi_Worth_still⟩, fnR_of (ok_wt_still mk_Wt F_Worth_still) b_Worth_still⟩
  have F_Worth_never := fun_mk (st := s_Worth_never) l_Worth_never c_Worth_never k_Worth_never
  have b_Worth_never := F_Worth_never.binds (ps := ["cls", "scale"]) fun _ _ _ _ _ _ us hl => match us, hl with | [_, _], _ => rfl
  have c_wt_never : ClsmC l.prog w K mg base CWt "never" CX0 4 (spP (PCls K [CT, CC, CR] CWt (fun d => d.nv.toNat))) := ⟨.type "type", p_Worth_never, f_Worth_never, ⟨rd_CWt, ga_CWt⟩, ⟨at_Worth_never, ⟨_, rc_Worth_never⟩, fi_Worth_never⟩, fnR_of (ok_wt_never mk_Wt F_Worth_never) b_Worth_never⟩
  have F_Worth_named := fun_mk (st := s_Worth_named) l_Worth_named c_Worth_named k_Worth_named
  have b_Worth_named := F_Worth_named.binds (ps := ["cls", "scale", "name"]) fun _ _ _ _ _ _ us hl => match us, hl with | [_, _, _], _ => rfl
  have c_wt_named : ClsmC l.prog w K mg base CWt "named" (L2.CX l.prog w) 5 (sp_named K [CT, CC, CR] CWt CU) := ⟨.type "type", p_Worth_named, f_Worth_named, ⟨rd_CWt, ga_CWt⟩, ⟨at_Worth_named, ⟨_, rc_Worth_named⟩, fi_Worth_named⟩, fnR_of (ok_wt_named mk_Wt c_at_name F_Worth_named) b_Worth_named⟩
  have F_nested_words := fun_mk (st := s_nested_words) l_nested_words c_nested_words k_nested_words
  have F_square_rows := fun_mk (st := s_square_rows) l_square_rows c_square_rows k_square_rows
  have F_table_of_fields := fun_mk (st := s_table_of_fields) l_table_of_fields c_table_of_fields k_table_of_fields
  have F_scale_of_list := fun_mk (st := s_scale_of_list) l_scale_of_list c_scale_of_list k_scale_of_list
  have F_read_scale := fun_mk (st := s_read_scale) l_read_scale c_read_scale k_read_scale
  have X_BadScale : ExcC K A_BadScale := ⟨xg_BadScale, xgg_BadScale, xe_BadScale, xh_BadScale, xcl_BadScale, xsp_, xtk_, xmo_BadScale⟩
  have e_BadScale : Ex0C K A_BadScale := ⟨q_BadScale, xk_BadScale, xe_BadScale, xt_BadScale⟩
  have b_nested_words := F_nested_words.binds (ps := ["text"]) fun _ _ _ _ _ _ us hl => match us, hl with | [_], _ => rfl
  have c__nested_words : Callee l.prog w K mg base "nested_words" (L2.CX l.prog w) 1 ["text"] [] (sp_nw A_BadScale) := ⟨f_nested_words, _, [], PySem.W.mg_of X G a_f_nested_words, k_nested_words, ok_nested_words Z e_BadScale (PySem.W.mg_of X G a_A_BadScale) (PySem.W.mg_of X G gDl) F_nested_words, b_nested_words, .nil⟩
  have b_square_rows := F_square_rows.binds (ps := ["words", "many"]) fun _ _ _ _ _ _ us hl => match us, hl with | [_, _], _ => rfl
  have c__square_rows : Callee l.prog w K mg base "square_rows" CX0 1 ["words", "many"] [] (spP PSq) := ⟨f_square_rows, _, [], PySem.W.mg_of X G a_f_square_rows, k_square_rows, ok_square_rows Z F_square_rows, b_square_rows, .nil⟩
  have b_table_of_fields := F_table_of_fields.binds (ps := ["fields"]) fun _ _ _ _ _ _ us hl => match us, hl with | [_], _ => rfl
  have c__table_of_fields : Callee l.prog w K mg base "table_of_fields" CX0 12 ["fields"] [] (spP (PTof K [CT, CC, CR])) := ⟨f_table_of_fields, _, [], PySem.W.mg_of X G a_f_table_of_fields, k_table_of_fields, ok_table_of_fields Z (by simp) o_CT mkK_CT c__square_rows F_table_of_fields, b_table_of_fields, .nil⟩
  have b_scale_of_list := F_scale_of_list.binds (ps := ["row"]) fun _ _ _ _ _ _ us hl => match us, hl with | [_], _ => rfl
  have c__scale_of_list : Callee l.prog w K mg base "scale_of_list" CX0 13 ["row"] [] (spP (PSolT K [CT, CC, CR])) := ⟨f_scale_of_list, _, [], PySem.W.mg_of X G a_f_scale_of_list, k_scale_of_list, ok_scale_of_list Z c__table_of_fields F_scale_of_list, b_scale_of_list, .nil⟩
  have b_read_scale := F_read_scale.binds (ps := ["text"]) fun _ _ _ _ _ _ us hl => match us, hl with | [_], _ => rfl
  have c__read_scale : Callee l.prog w K mg base "read_scale" CX0 14 ["text"] [] (spP (PRdT K [CT, CC, CR])) := ⟨f_read_scale, _, [], PySem.W.mg_of X G a_f_read_scale, k_read_scale, ok_read_scale Z c__nested_words c__scale_of_list F_read_scale, b_read_scale, .nil⟩
  have F__law_spoiled := fun_mk (st := s__law_spoiled) l__law_spoiled c__law_spoiled k__law_spoiled
  have F__law_deed := fun_mk (st := s__law_deed) l__law_deed c__law_deed k__law_deed
  have F__law_is := fun_mk (st := s__law_is) l__law_is c__law_is k__law_is
  have F__law_truth := fun_mk (st := s__law_truth) l__law_truth c__law_truth k__law_truth
  have F__law_pair := fun_mk (st := s__law_pair) l__law_pair c__law_pair k__law_pair
  have F__law_unknown := fun_mk (st := s__law_unknown) l__law_unknown c__law_unknown k__law_unknown
  have F_law := fun_mk (st := s_law) l_law c_law k_law
  have b__law_spoiled := F__law_spoiled.binds (ps := ["_law_state", "_law_tables_here"]) fun _ _ _ _ _ _ us hl => match us, hl with | [_, _], _ => rfl
  have c___law_spoiled : Callee l.prog w K mg base "_law_spoiled" CX0 13 ["_law_state", "_law_tables_here"] [] (spS (PSpo K [CT, CC, CR])) := ⟨f__law_spoiled, _, [], PySem.W.mg_of X G a_f__law_spoiled, k__law_spoiled, ok_spoiled11 Z c___law_pick c___law_table_scale F__law_spoiled, b__law_spoiled, .nil⟩
  have b__law_deed := F__law_deed.binds (ps := ["_law_first", "_law_second", "_law_deed_here"]) fun _ _ _ _ _ _ us hl => match us, hl with | [_, _, _], _ => rfl
  have c___law_deed : Callee l.prog w K mg base "_law_deed" CX0 6 ["_law_first", "_law_second", "_law_deed_here"] [] (spP (PDeed K [CT, CC, CR] CWt)) := ⟨f__law_deed, _, [], PySem.W.mg_of X G a_f__law_deed, k__law_deed, ok_deed11 Z wfirst (PySem.W.mg_of X G a_A_MixedScales) xte_MixedScales X_MixedScales (PySem.W.mg_of X G a_CDe) (PySem.W.mg_of X G a_A_BadScale) kDe kVe kBe c_wt__mul__ c_wt__or__ c_wt__le__ c_wt__lt__ F__law_deed, b__law_deed, .nil⟩
  have b__law_is := F__law_is.binds (ps := ["_law_found", "_law_tables_here", "_law_place"]) fun _ _ _ _ _ _ us hl => match us, hl with | [_, _, _], _ => rfl
  have c___law_is : Callee l.prog w K mg base "_law_is" CX0 6 ["_law_found", "_law_tables_here", "_law_place"] [] (spP (PIs K [CT, CC, CR] CWt)) := ⟨f__law_is, _, [], PySem.W.mg_of X G a_f__law_is, k__law_is, ok_is11 Z hW W_ins (PySem.W.mg_of X G a_CWt) c_wt_str F__law_is, b__law_is, .nil⟩
  have b__law_truth := F__law_truth.binds (ps := ["_law_found", "_law_due"]) fun _ _ _ _ _ _ us hl => match us, hl with | [_, _], _ => rfl
  have c___law_truth : Callee l.prog w K mg base "_law_truth" CX0 1 ["_law_found", "_law_due"] [] (spP PTru) := ⟨f__law_truth, _, [], PySem.W.mg_of X G a_f__law_truth, k__law_truth, ok_truth11 Z F__law_truth, b__law_truth, .nil⟩
  have b__law_unknown := F__law_unknown.binds (ps := ["_law_scale", "_law_name"]) fun _ _ _ _ _ _ us hl => match us, hl with | [_, _], _ => rfl
  have c___law_unknown : Callee l.prog w K mg base "_law_unknown" CX0 6 ["_law_scale", "_law_name"] [] (spP (PUnk11 K [CT, CC, CR])) := ⟨f__law_unknown, _, [], PySem.W.mg_of X G a_f__law_unknown, k__law_unknown, ok_unknown11 Z hW (PySem.W.mg_of X G a_CWt) (PySem.W.mg_of X G a_CU) xte X_g c_wt_named F__law_unknown, b__law_unknown, .nil⟩
  have b__law_pair := F__law_pair.binds (ps := ["_law_tables_here", "_law_a", "_law_b"]) fun _ _ _ _ _ _ us hl => match us, hl with | [_, _, _], _ => rfl
  have c___law_pair : Callee l.prog w K mg base "_law_pair" CX0 15 ["_law_tables_here", "_law_a", "_law_b"] [] (spP (PPair11 K [CT, CC, CR])) := ⟨f__law_pair, _, [], PySem.W.mg_of X G a_f__law_pair, k__law_pair, ok_pair11 Z (PySem.W.mg_of X G a_CWt) wfirst c__read_scale mk_Wt c___law_is c___law_truth c_wt_named c_wt_never c_wt_still c_wt__mul__ c_wt__or__ c_wt__le__ c_wt__lt__ c_wt_eq F__law_pair, b__law_pair, .nil⟩
  exact ok_law11 (CM := CWt) (Cs := [CT, CC, CR]) Z (by simp) (by simp) o_CC o_CR hW wsub1 wsub2 c___law_source c___law_pick c___law_tables c___law_spoiled c___law_pair c___law_unknown c___law_deed mk_Wt mk_CC mk_CR c_wt_eq c_wt_eqN F_law
theorem facts_mk {w : World} {K : Fg} {h : Heap} {mg : Str → Option Value} {fa : Addr} (X : K.In h) (G : h.Ns mainGlobals mg) (hfa : mg "law" = some (.ref fa)) (c : SaysB fsH dfsH [] w K) :
    ∃ fd : FuncData, (∀ (s : Shared) (v : Value), BindsTo s fd ⟨[v], []⟩ [("_law_script", v)]) ∧ ∀ base : Heap, K.In base → base.Ns mainGlobals mg → FnOk (PySem.Challenge.rw_deedscale_k11_worth_operators).prog w K mg base CX0 16 fa fd ["_law_script"] (sp_law K) := by
  have h0 : ckH0 K = true := c.fact 0
  obtain ⟨q0, h0⟩ := and2 h0
  obtain ⟨q1, h0⟩ := and2 h0
  obtain ⟨q2, h0⟩ := and2 h0
  obtain ⟨q3, h0⟩ := and2 h0
  obtain ⟨q4, h0⟩ := and2 h0
  obtain ⟨q5, h0⟩ := and2 h0
  obtain ⟨q6, h0⟩ := and2 h0
  obtain ⟨q7, h0⟩ := and2 h0
  obtain ⟨q8, h0⟩ := and2 h0
  obtain ⟨q9, h0⟩ := and2 h0
  obtain ⟨q10, h0⟩ := and2 h0
  have q11 := h0
  have h1 : ckH1 K = true := c.fact 1
  obtain ⟨q12, h1⟩ := and2 h1
  obtain ⟨q13, h1⟩ := and2 h1
  obtain ⟨q14, h1⟩ := and2 h1
  obtain ⟨q15, h1⟩ := and2 h1
  obtain ⟨q16, h1⟩ := and2 h1
  obtain ⟨q17, h1⟩ := and2 h1
  obtain ⟨q18, h1⟩ := and2 h1
  obtain ⟨q19, h1⟩ := and2 h1
  obtain ⟨q20, h1⟩ := and2 h1
  obtain ⟨q21, h1⟩ := and2 h1
  obtain ⟨q22, h1⟩ := and2 h1
  have q23 := h1
  have h2 : ckH2 K = true := c.fact 2
  obtain ⟨q24, h2⟩ := and2 h2
  obtain ⟨q25, h2⟩ := and2 h2
  obtain ⟨q26, h2⟩ := and2 h2
  obtain ⟨q27, h2⟩ := and2 h2
  obtain ⟨q28, h2⟩ := and2 h2
  obtain ⟨q29, h2⟩ := and2 h2
  obtain ⟨q30, h2⟩ := and2 h2
  obtain ⟨q31, h2⟩ := and2 h2
  obtain ⟨q32, h2⟩ := and2 h2
  obtain ⟨q33, h2⟩ := and2 h2
  obtain ⟨q34, h2⟩ := and2 h2
  have q35 := h2
  have h3 : ckH3 K = true := c.fact 3
  obtain ⟨q36, h3⟩ := and2 h3
  obtain ⟨q37, h3⟩ := and2 h3
  obtain ⟨q38, h3⟩ := and2 h3
  obtain ⟨q39, h3⟩ := and2 h3
  obtain ⟨q40, h3⟩ := and2 h3
  obtain ⟨q41, h3⟩ := and2 h3
  obtain ⟨q42, h3⟩ := and2 h3
  obtain ⟨q43, h3⟩ := and2 h3
  obtain ⟨q44, h3⟩ := and2 h3
  obtain ⟨q45, h3⟩ := and2 h3
  obtain ⟨q46, h3⟩ := and2 h3
  have q47 := h3
  have h4 : ckH4 K = true := c.fact 4
  obtain ⟨q48, h4⟩ := and2 h4
  obtain ⟨q49, h4⟩ := and2 h4
  obtain ⟨q50, h4⟩ := and2 h4
  obtain ⟨q51, h4⟩ := and2 h4
  obtain ⟨q52, h4⟩ := and2 h4
  obtain ⟨q53, h4⟩ := and2 h4
  obtain ⟨q54, h4⟩ := and2 h4
  obtain ⟨q55, h4⟩ := and2 h4
  obtain ⟨q56, h4⟩ := and2 h4
  obtain ⟨q57, h4⟩ := and2 h4
  obtain ⟨q58, h4⟩ := and2 h4
  have q59 := h4
  have h5 : ckH5 K = true := c.fact 5
  obtain ⟨q60, h5⟩ := and2 h5
  obtain ⟨q61, h5⟩ := and2 h5
  obtain ⟨q62, h5⟩ := and2 h5
  obtain ⟨q63, h5⟩ := and2 h5
  obtain ⟨q64, h5⟩ := and2 h5
  obtain ⟨q65, h5⟩ := and2 h5
  obtain ⟨q66, h5⟩ := and2 h5
  obtain ⟨q67, h5⟩ := and2 h5
  obtain ⟨q68, h5⟩ := and2 h5
  obtain ⟨q69, h5⟩ := and2 h5
  obtain ⟨q70, h5⟩ := and2 h5
  have q71 := h5
  have h6 : ckH6 K = true := c.fact 6
  obtain ⟨q72, h6⟩ := and2 h6
  obtain ⟨q73, h6⟩ := and2 h6
  obtain ⟨q74, h6⟩ := and2 h6
  obtain ⟨q75, h6⟩ := and2 h6
  obtain ⟨q76, h6⟩ := and2 h6
  obtain ⟨q77, h6⟩ := and2 h6
  obtain ⟨q78, h6⟩ := and2 h6
  obtain ⟨q79, h6⟩ := and2 h6
  obtain ⟨q80, h6⟩ := and2 h6
  obtain ⟨q81, h6⟩ := and2 h6
  obtain ⟨q82, h6⟩ := and2 h6
  have q83 := h6
  have h7 : ckH7 K = true := c.fact 7
  obtain ⟨q84, h7⟩ := and2 h7
  obtain ⟨q85, h7⟩ := and2 h7
  obtain ⟨q86, h7⟩ := and2 h7
  obtain ⟨q87, h7⟩ := and2 h7
  obtain ⟨q88, h7⟩ := and2 h7
  obtain ⟨q89, h7⟩ := and2 h7
  obtain ⟨q90, h7⟩ := and2 h7
  obtain ⟨q91, h7⟩ := and2 h7
  obtain ⟨q92, h7⟩ := and2 h7
  obtain ⟨q93, h7⟩ := and2 h7
  obtain ⟨q94, h7⟩ := and2 h7
  have q95 := h7
  have h8 : ckH8 K = true := c.fact 8
  obtain ⟨q96, h8⟩ := and2 h8
  obtain ⟨q97, h8⟩ := and2 h8
  obtain ⟨q98, h8⟩ := and2 h8
  obtain ⟨q99, h8⟩ := and2 h8
  obtain ⟨q100, h8⟩ := and2 h8
  obtain ⟨q101, h8⟩ := and2 h8
  obtain ⟨q102, h8⟩ := and2 h8
  obtain ⟨q103, h8⟩ := and2 h8
  obtain ⟨q104, h8⟩ := and2 h8
  obtain ⟨q105, h8⟩ := and2 h8
  obtain ⟨q106, h8⟩ := and2 h8
  have q107 := h8
  have h9 : ckH9 K = true := c.fact 9
  obtain ⟨q108, h9⟩ := and2 h9
  obtain ⟨q109, h9⟩ := and2 h9
  obtain ⟨q110, h9⟩ := and2 h9
  obtain ⟨q111, h9⟩ := and2 h9
  obtain ⟨q112, h9⟩ := and2 h9
  obtain ⟨q113, h9⟩ := and2 h9
  obtain ⟨q114, h9⟩ := and2 h9
  obtain ⟨q115, h9⟩ := and2 h9
  obtain ⟨q116, h9⟩ := and2 h9
  obtain ⟨q117, h9⟩ := and2 h9
  obtain ⟨q118, h9⟩ := and2 h9
  have q119 := h9
  have h10 : ckH10 K = true := c.fact 10
  obtain ⟨q120, h10⟩ := and2 h10
  obtain ⟨q121, h10⟩ := and2 h10
  obtain ⟨q122, h10⟩ := and2 h10
  obtain ⟨q123, h10⟩ := and2 h10
  obtain ⟨q124, h10⟩ := and2 h10
  obtain ⟨q125, h10⟩ := and2 h10
  obtain ⟨q126, h10⟩ := and2 h10
  obtain ⟨q127, h10⟩ := and2 h10
  obtain ⟨q128, h10⟩ := and2 h10
  obtain ⟨q129, h10⟩ := and2 h10
  obtain ⟨q130, h10⟩ := and2 h10
  have q131 := h10
  have h11 : ckH11 K = true := c.fact 11
  obtain ⟨q132, h11⟩ := and2 h11
  obtain ⟨q133, h11⟩ := and2 h11
  obtain ⟨q134, h11⟩ := and2 h11
  obtain ⟨q135, h11⟩ := and2 h11
  obtain ⟨q136, h11⟩ := and2 h11
  obtain ⟨q137, h11⟩ := and2 h11
  obtain ⟨q138, h11⟩ := and2 h11
  obtain ⟨q139, h11⟩ := and2 h11
  obtain ⟨q140, h11⟩ := and2 h11
  obtain ⟨q141, h11⟩ := and2 h11
  obtain ⟨q142, h11⟩ := and2 h11
  have q143 := h11
  have h12 : ckH12 K = true := c.fact 12
  obtain ⟨q144, h12⟩ := and2 h12
  obtain ⟨q145, h12⟩ := and2 h12
  obtain ⟨q146, h12⟩ := and2 h12
  obtain ⟨q147, h12⟩ := and2 h12
  obtain ⟨q148, h12⟩ := and2 h12
  obtain ⟨q149, h12⟩ := and2 h12
  obtain ⟨q150, h12⟩ := and2 h12
  obtain ⟨q151, h12⟩ := and2 h12
  obtain ⟨q152, h12⟩ := and2 h12
  obtain ⟨q153, h12⟩ := and2 h12
  obtain ⟨q154, h12⟩ := and2 h12
  have q155 := h12
  have h13 : ckH13 K = true := c.fact 13
  obtain ⟨q156, h13⟩ := and2 h13
  obtain ⟨q157, h13⟩ := and2 h13
  obtain ⟨q158, h13⟩ := and2 h13
  obtain ⟨q159, h13⟩ := and2 h13
  obtain ⟨q160, h13⟩ := and2 h13
  obtain ⟨q161, h13⟩ := and2 h13
  obtain ⟨q162, h13⟩ := and2 h13
  obtain ⟨q163, h13⟩ := and2 h13
  obtain ⟨q164, h13⟩ := and2 h13
  obtain ⟨q165, h13⟩ := and2 h13
  obtain ⟨q166, h13⟩ := and2 h13
  have q167 := h13
  have h14 : ckH14 K = true := c.fact 14
  obtain ⟨q168, h14⟩ := and2 h14
  obtain ⟨q169, h14⟩ := and2 h14
  obtain ⟨q170, h14⟩ := and2 h14
  obtain ⟨q171, h14⟩ := and2 h14
  obtain ⟨q172, h14⟩ := and2 h14
  obtain ⟨q173, h14⟩ := and2 h14
  obtain ⟨q174, h14⟩ := and2 h14
  obtain ⟨q175, h14⟩ := and2 h14
  obtain ⟨q176, h14⟩ := and2 h14
  obtain ⟨q177, h14⟩ := and2 h14
  obtain ⟨q178, h14⟩ := and2 h14
  have q179 := h14
  have h15 : ckH15 K = true := c.fact 15
  obtain ⟨q180, h15⟩ := and2 h15
  obtain ⟨q181, h15⟩ := and2 h15
  obtain ⟨q182, h15⟩ := and2 h15
  obtain ⟨q183, h15⟩ := and2 h15
  obtain ⟨q184, h15⟩ := and2 h15
  obtain ⟨q185, h15⟩ := and2 h15
  obtain ⟨q186, h15⟩ := and2 h15
  obtain ⟨q187, h15⟩ := and2 h15
  obtain ⟨q188, h15⟩ := and2 h15
  obtain ⟨q189, h15⟩ := and2 h15
  obtain ⟨q190, h15⟩ := and2 h15
  have q191 := h15
  have h16 : ckH16 K = true := c.fact 16
  obtain ⟨q192, h16⟩ := and2 h16
  obtain ⟨q193, h16⟩ := and2 h16
  obtain ⟨q194, h16⟩ := and2 h16
  obtain ⟨q195, h16⟩ := and2 h16
  obtain ⟨q196, h16⟩ := and2 h16
  obtain ⟨q197, h16⟩ := and2 h16
  obtain ⟨q198, h16⟩ := and2 h16
  obtain ⟨q199, h16⟩ := and2 h16
  obtain ⟨q200, h16⟩ := and2 h16
  obtain ⟨q201, h16⟩ := and2 h16
  obtain ⟨q202, h16⟩ := and2 h16
  have q203 := h16
  have h17 : ckH17 K = true := c.fact 17
  obtain ⟨q204, h17⟩ := and2 h17
  obtain ⟨q205, h17⟩ := and2 h17
  obtain ⟨q206, h17⟩ := and2 h17
  obtain ⟨q207, h17⟩ := and2 h17
  obtain ⟨q208, h17⟩ := and2 h17
  obtain ⟨q209, h17⟩ := and2 h17
  obtain ⟨q210, h17⟩ := and2 h17
  obtain ⟨q211, h17⟩ := and2 h17
  obtain ⟨q212, h17⟩ := and2 h17
  obtain ⟨q213, h17⟩ := and2 h17
  obtain ⟨q214, h17⟩ := and2 h17
  have q215 := h17
  have h18 : ckH18 K = true := c.fact 18
  obtain ⟨q216, h18⟩ := and2 h18
  obtain ⟨q217, h18⟩ := and2 h18
  obtain ⟨q218, h18⟩ := and2 h18
  obtain ⟨q219, h18⟩ := and2 h18
  obtain ⟨q220, h18⟩ := and2 h18
  obtain ⟨q221, h18⟩ := and2 h18
  obtain ⟨q222, h18⟩ := and2 h18
  obtain ⟨q223, h18⟩ := and2 h18
  obtain ⟨q224, h18⟩ := and2 h18
  obtain ⟨q225, h18⟩ := and2 h18
  obtain ⟨q226, h18⟩ := and2 h18
  have q227 := h18
  have h19 : ckH19 K = true := c.fact 19
  obtain ⟨q228, h19⟩ := and2 h19
  obtain ⟨q229, h19⟩ := and2 h19
  obtain ⟨q230, h19⟩ := and2 h19
  obtain ⟨q231, h19⟩ := and2 h19
  obtain ⟨q232, h19⟩ := and2 h19
  obtain ⟨q233, h19⟩ := and2 h19
  obtain ⟨q234, h19⟩ := and2 h19
  obtain ⟨q235, h19⟩ := and2 h19
  obtain ⟨q236, h19⟩ := and2 h19
  obtain ⟨q237, h19⟩ := and2 h19
  obtain ⟨q238, h19⟩ := and2 h19
  have q239 := h19
  have h20 : ckH20 K = true := c.fact 20
  obtain ⟨q240, h20⟩ := and2 h20
  obtain ⟨q241, h20⟩ := and2 h20
  obtain ⟨q242, h20⟩ := and2 h20
  obtain ⟨q243, h20⟩ := and2 h20
  obtain ⟨q244, h20⟩ := and2 h20
  obtain ⟨q245, h20⟩ := and2 h20
  obtain ⟨q246, h20⟩ := and2 h20
  obtain ⟨q247, h20⟩ := and2 h20
  obtain ⟨q248, h20⟩ := and2 h20
  obtain ⟨q249, h20⟩ := and2 h20
  obtain ⟨q250, h20⟩ := and2 h20
  have q251 := h20
  have h21 : ckH21 K = true := c.fact 21
  obtain ⟨q252, h21⟩ := and2 h21
  obtain ⟨q253, h21⟩ := and2 h21
  obtain ⟨q254, h21⟩ := and2 h21
  obtain ⟨q255, h21⟩ := and2 h21
  obtain ⟨q256, h21⟩ := and2 h21
  obtain ⟨q257, h21⟩ := and2 h21
  obtain ⟨q258, h21⟩ := and2 h21
  obtain ⟨q259, h21⟩ := and2 h21
  obtain ⟨q260, h21⟩ := and2 h21
  obtain ⟨q261, h21⟩ := and2 h21
  obtain ⟨q262, h21⟩ := and2 h21
  have q263 := h21
  have h22 : ckH22 K = true := c.fact 22
  obtain ⟨q264, h22⟩ := and2 h22
  obtain ⟨q265, h22⟩ := and2 h22
  obtain ⟨q266, h22⟩ := and2 h22
  obtain ⟨q267, h22⟩ := and2 h22
  obtain ⟨q268, h22⟩ := and2 h22
  obtain ⟨q269, h22⟩ := and2 h22
  obtain ⟨q270, h22⟩ := and2 h22
  obtain ⟨q271, h22⟩ := and2 h22
  obtain ⟨q272, h22⟩ := and2 h22
  obtain ⟨q273, h22⟩ := and2 h22
  obtain ⟨q274, h22⟩ := and2 h22
  have q275 := h22
  have h23 : ckH23 K = true := c.fact 23
  obtain ⟨q276, h23⟩ := and2 h23
  obtain ⟨q277, h23⟩ := and2 h23
  obtain ⟨q278, h23⟩ := and2 h23
  obtain ⟨q279, h23⟩ := and2 h23
  obtain ⟨q280, h23⟩ := and2 h23
  obtain ⟨q281, h23⟩ := and2 h23
  obtain ⟨q282, h23⟩ := and2 h23
  obtain ⟨q283, h23⟩ := and2 h23
  obtain ⟨q284, h23⟩ := and2 h23
  obtain ⟨q285, h23⟩ := and2 h23
  obtain ⟨q286, h23⟩ := and2 h23
  have q287 := h23
  have h24 : ckH24 K = true := c.fact 24
  obtain ⟨q288, h24⟩ := and2 h24
  obtain ⟨q289, h24⟩ := and2 h24
  obtain ⟨q290, h24⟩ := and2 h24
  obtain ⟨q291, h24⟩ := and2 h24
  obtain ⟨q292, h24⟩ := and2 h24
  obtain ⟨q293, h24⟩ := and2 h24
  obtain ⟨q294, h24⟩ := and2 h24
  obtain ⟨q295, h24⟩ := and2 h24
  obtain ⟨q296, h24⟩ := and2 h24
  obtain ⟨q297, h24⟩ := and2 h24
  obtain ⟨q298, h24⟩ := and2 h24
  have q299 := h24
  have h25 : ckH25 K = true := c.fact 25
  obtain ⟨q300, h25⟩ := and2 h25
  obtain ⟨q301, h25⟩ := and2 h25
  obtain ⟨q302, h25⟩ := and2 h25
  obtain ⟨q303, h25⟩ := and2 h25
  obtain ⟨q304, h25⟩ := and2 h25
  obtain ⟨q305, h25⟩ := and2 h25
  obtain ⟨q306, h25⟩ := and2 h25
  obtain ⟨q307, h25⟩ := and2 h25
  obtain ⟨q308, h25⟩ := and2 h25
  obtain ⟨q309, h25⟩ := and2 h25
  obtain ⟨q310, h25⟩ := and2 h25
  have q311 := h25
  have h26 : ckH26 K = true := c.fact 26
  obtain ⟨q312, h26⟩ := and2 h26
  obtain ⟨q313, h26⟩ := and2 h26
  obtain ⟨q314, h26⟩ := and2 h26
  obtain ⟨q315, h26⟩ := and2 h26
  obtain ⟨q316, h26⟩ := and2 h26
  obtain ⟨q317, h26⟩ := and2 h26
  obtain ⟨q318, h26⟩ := and2 h26
  obtain ⟨q319, h26⟩ := and2 h26
  have q320 := h26
  obtain ⟨oc_UnknownWorth___init__, od_UnknownWorth___init__, kV_UnknownWorth___init__, dc_UnknownWorth___init__, pm_UnknownWorth___init__, an_UnknownWorth___init__, cda_UnknownWorth___init__, ct_UnknownWorth___init__, sl_UnknownWorth___init__, cc_UnknownWorth___init__, q1_UnknownWorth___init__, e1_UnknownWorth___init__, vs_UnknownWorth___init__, g1_UnknownWorth___init__, fi_UnknownWorth___init__, tf_UnknownWorth___init__, q2_UnknownWorth___init__, e2_UnknownWorth___init__, g2_UnknownWorth___init__, l_UnknownWorth___init__, c_UnknownWorth___init__, lc_UnknownWorth___init__, hv_UnknownWorth___init__, hf_UnknownWorth___init__, lx_UnknownWorth___init__, k_UnknownWorth___init__, fi2_UnknownWorth___init__, ty_UnknownWorth___init__, kw0_UnknownWorth___init__⟩ := sup_of (st := s_UnknownWorth___init__) (c.fn 0) q0
  obtain rfl := kw0_UnknownWorth___init__.symm.trans (isNon_ok q1)
  obtain ⟨T_Scale___init__, oc_Scale___init__, od_Scale___init__, kV_Scale___init__, dc_Scale___init__, pm_Scale___init__, an_Scale___init__, cd_Scale___init__, ct_Scale___init__, sl_Scale___init__, cT, dT, tT, nT, slT, l_Scale___init__, c_Scale___init__, k_Scale___init__, lT⟩ := fnlI_of (st := s_Scale___init__) (c.fn 1) q2
  obtain ⟨oc_cut_down, od_cut_down, kV_cut_down, dc_cut_down, pm_cut_down, an_cut_down, cd_cut_down, ct_cut_down, sl_cut_down, l_cut_down, c_cut_down, k_cut_down⟩ := fnl_of (st := s_cut_down) (c.fn 2) q3
  obtain ⟨oc_number_name, od_number_name, kV_number_name, dc_number_name, pm_number_name, an_number_name, cd_number_name, ct_number_name, sl_number_name, l_number_name, c_number_name, k_number_name⟩ := fnl_of (st := s_number_name) (c.fn 3) q4
  obtain ⟨oc_is_table_name, od_is_table_name, kV_is_table_name, dc_is_table_name, pm_is_table_name, an_is_table_name, cd_is_table_name, ct_is_table_name, sl_is_table_name, l_is_table_name, c_is_table_name, k_is_table_name⟩ := fnl_of (st := s_is_table_name) (c.fn 4) q5
  obtain ⟨oc_table_places, od_table_places, kV_table_places, dc_table_places, pm_table_places, an_table_places, cd_table_places, ct_table_places, sl_table_places, l_table_places, c_table_places, k_table_places⟩ := fnl_of (st := s_table_places) (c.fn 5) q6
  obtain ⟨oc_depth_above, od_depth_above, kV_depth_above, dc_depth_above, pm_depth_above, an_depth_above, cd_depth_above, ct_depth_above, sl_depth_above, l_depth_above, c_depth_above, k_depth_above⟩ := fnl_of (st := s_depth_above) (c.fn 6) q7
  obtain ⟨oc_Scale_then_at, od_Scale_then_at, kV_Scale_then_at, dc_Scale_then_at, pm_Scale_then_at, an_Scale_then_at, cd_Scale_then_at, ct_Scale_then_at, sl_Scale_then_at, l_Scale_then_at, c_Scale_then_at, k_Scale_then_at⟩ := fnl_of (st := s_Scale_then_at) (c.fn 7) q8
  obtain ⟨oc_Scale_join_at, od_Scale_join_at, kV_Scale_join_at, dc_Scale_join_at, pm_Scale_join_at, an_Scale_join_at, cd_Scale_join_at, ct_Scale_join_at, sl_Scale_join_at, l_Scale_join_at, c_Scale_join_at, k_Scale_join_at⟩ := fnl_of (st := s_Scale_join_at) (c.fn 8) q9
  obtain ⟨oc_Scale_within_at, od_Scale_within_at, kV_Scale_within_at, dc_Scale_within_at, pm_Scale_within_at, an_Scale_within_at, cd_Scale_within_at, ct_Scale_within_at, sl_Scale_within_at, l_Scale_within_at, c_Scale_within_at, k_Scale_within_at⟩ := fnl_of (st := s_Scale_within_at) (c.fn 9) q10
  obtain ⟨oc_Scale_name_at, od_Scale_name_at, kV_Scale_name_at, dc_Scale_name_at, pm_Scale_name_at, an_Scale_name_at, cd_Scale_name_at, ct_Scale_name_at, sl_Scale_name_at, l_Scale_name_at, c_Scale_name_at, k_Scale_name_at⟩ := fnl_of (st := s_Scale_name_at) (c.fn 10) q11
  obtain ⟨oc_Scale_at_name, od_Scale_at_name, kV_Scale_at_name, dc_Scale_at_name, pm_Scale_at_name, an_Scale_at_name, cd_Scale_at_name, ct_Scale_at_name, sl_Scale_at_name, l_Scale_at_name, c_Scale_at_name, k_Scale_at_name⟩ := fnl_of (st := s_Scale_at_name) (c.fn 11) q12
  obtain ⟨oc_TableScale_make_then, od_TableScale_make_then, kV_TableScale_make_then, dc_TableScale_make_then, pm_TableScale_make_then, an_TableScale_make_then, cd_TableScale_make_then, ct_TableScale_make_then, sl_TableScale_make_then, l_TableScale_make_then, c_TableScale_make_then, k_TableScale_make_then⟩ := fnl_of (st := s_TableScale_make_then) (c.fn 12) q13
  obtain ⟨oc_TableScale_make_join, od_TableScale_make_join, kV_TableScale_make_join, dc_TableScale_make_join, pm_TableScale_make_join, an_TableScale_make_join, cd_TableScale_make_join, ct_TableScale_make_join, sl_TableScale_make_join, l_TableScale_make_join, c_TableScale_make_join, k_TableScale_make_join⟩ := fnl_of (st := s_TableScale_make_join) (c.fn 13) q14
  obtain ⟨oc_CountScale_behind, od_CountScale_behind, kV_CountScale_behind, dc_CountScale_behind, pm_CountScale_behind, an_CountScale_behind, cd_CountScale_behind, ct_CountScale_behind, sl_CountScale_behind, l_CountScale_behind, c_CountScale_behind, k_CountScale_behind⟩ := fnl_of (st := s_CountScale_behind) (c.fn 14) q15
  obtain ⟨oc_CountScale_either, od_CountScale_either, kV_CountScale_either, dc_CountScale_either, pm_CountScale_either, an_CountScale_either, cd_CountScale_either, ct_CountScale_either, sl_CountScale_either, l_CountScale_either, c_CountScale_either, k_CountScale_either⟩ := fnl_of (st := s_CountScale_either) (c.fn 15) q16
  obtain ⟨oc_WithNever_make_then, od_WithNever_make_then, kV_WithNever_make_then, dc_WithNever_make_then, pm_WithNever_make_then, an_WithNever_make_then, cd_WithNever_make_then, ct_WithNever_make_then, sl_WithNever_make_then, l_WithNever_make_then, c_WithNever_make_then, k_WithNever_make_then⟩ := fnl_of (st := s_WithNever_make_then) (c.fn 16) q17
  obtain ⟨oc_WithNever_make_join, od_WithNever_make_join, kV_WithNever_make_join, dc_WithNever_make_join, pm_WithNever_make_join, an_WithNever_make_join, cd_WithNever_make_join, ct_WithNever_make_join, sl_WithNever_make_join, l_WithNever_make_join, c_WithNever_make_join, k_WithNever_make_join⟩ := fnl_of (st := s_WithNever_make_join) (c.fn 17) q18
  obtain ⟨oc_TurnedScale_make_then, od_TurnedScale_make_then, kV_TurnedScale_make_then, dc_TurnedScale_make_then, pm_TurnedScale_make_then, an_TurnedScale_make_then, cd_TurnedScale_make_then, ct_TurnedScale_make_then, sl_TurnedScale_make_then, l_TurnedScale_make_then, c_TurnedScale_make_then, k_TurnedScale_make_then⟩ := fnl_of (st := s_TurnedScale_make_then) (c.fn 18) q19
  obtain ⟨oc_TurnedScale_make_join, od_TurnedScale_make_join, kV_TurnedScale_make_join, dc_TurnedScale_make_join, pm_TurnedScale_make_join, an_TurnedScale_make_join, cd_TurnedScale_make_join, ct_TurnedScale_make_join, sl_TurnedScale_make_join, l_TurnedScale_make_join, c_TurnedScale_make_join, k_TurnedScale_make_join⟩ := fnl_of (st := s_TurnedScale_make_join) (c.fn 19) q20
  obtain ⟨oc_WithNever___init__, od_WithNever___init__, kV_WithNever___init__, dc_WithNever___init__, pm_WithNever___init__, an_WithNever___init__, cda_WithNever___init__, ct_WithNever___init__, sl_WithNever___init__, cc_WithNever___init__, q1_WithNever___init__, e1_WithNever___init__, vs_WithNever___init__, g1_WithNever___init__, fi_WithNever___init__, tf_WithNever___init__, q2_WithNever___init__, e2_WithNever___init__, g2_WithNever___init__, l_WithNever___init__, c_WithNever___init__, lc_WithNever___init__, hv_WithNever___init__, hf_WithNever___init__, lx_WithNever___init__, k_WithNever___init__, fi2_WithNever___init__, ty_WithNever___init__, kw0_WithNever___init__⟩ := sup_of (st := s_WithNever___init__) (c.fn 20) q21
  obtain ⟨oc_TableScale___init__, od_TableScale___init__, kV_TableScale___init__, dc_TableScale___init__, pm_TableScale___init__, an_TableScale___init__, cda_TableScale___init__, ct_TableScale___init__, sl_TableScale___init__, cc_TableScale___init__, q1_TableScale___init__, e1_TableScale___init__, vs_TableScale___init__, g1_TableScale___init__, fi_TableScale___init__, tf_TableScale___init__, q2_TableScale___init__, e2_TableScale___init__, g2_TableScale___init__, l_TableScale___init__, c_TableScale___init__, lc_TableScale___init__, hv_TableScale___init__, hf_TableScale___init__, lx_TableScale___init__, k_TableScale___init__, fi2_TableScale___init__, ty_TableScale___init__, kw0_TableScale___init__⟩ := sup_of (st := s_TableScale___init__) (c.fn 21) q22
  obtain ⟨oc_CountScale___init__, od_CountScale___init__, kV_CountScale___init__, dc_CountScale___init__, pm_CountScale___init__, an_CountScale___init__, cda_CountScale___init__, ct_CountScale___init__, sl_CountScale___init__, cc_CountScale___init__, q1_CountScale___init__, e1_CountScale___init__, vs_CountScale___init__, g1_CountScale___init__, fi_CountScale___init__, tf_CountScale___init__, q2_CountScale___init__, e2_CountScale___init__, g2_CountScale___init__, l_CountScale___init__, c_CountScale___init__, lc_CountScale___init__, hv_CountScale___init__, hf_CountScale___init__, lx_CountScale___init__, k_CountScale___init__, fi2_CountScale___init__, ty_CountScale___init__, kw0_CountScale___init__⟩ := sup_of (st := s_CountScale___init__) (c.fn 22) q23
  obtain ⟨kd_CountScale___init__, tk_CountScale___init__, kv1_CountScale___init__, kw_CountScale___init__⟩ := ckKw_ok q24
  obtain rfl := kw0_CountScale___init__.symm.trans kv1_CountScale___init__
  obtain ⟨oc_TurnedScale___init__, od_TurnedScale___init__, kV_TurnedScale___init__, dc_TurnedScale___init__, pm_TurnedScale___init__, an_TurnedScale___init__, cda_TurnedScale___init__, ct_TurnedScale___init__, sl_TurnedScale___init__, cc_TurnedScale___init__, q1_TurnedScale___init__, e1_TurnedScale___init__, vs_TurnedScale___init__, g1_TurnedScale___init__, fi_TurnedScale___init__, tf_TurnedScale___init__, q2_TurnedScale___init__, e2_TurnedScale___init__, g2_TurnedScale___init__, l_TurnedScale___init__, c_TurnedScale___init__, lc_TurnedScale___init__, hv_TurnedScale___init__, hf_TurnedScale___init__, lx_TurnedScale___init__, k_TurnedScale___init__, fi2_TurnedScale___init__, ty_TurnedScale___init__, kw0_TurnedScale___init__⟩ := sup_of (st := s_TurnedScale___init__) (c.fn 23) q25
  obtain ⟨oc__law_source, od__law_source, kV__law_source, dc__law_source, pm__law_source, an__law_source, cd__law_source, ct__law_source, sl__law_source, l__law_source, c__law_source, k__law_source⟩ := fnl_of (st := s__law_source) (c.fn 24) q26
  obtain ⟨oc__law_pick, od__law_pick, kV__law_pick, dc__law_pick, pm__law_pick, an__law_pick, cd__law_pick, ct__law_pick, sl__law_pick, l__law_pick, c__law_pick, k__law_pick⟩ := fnl_of (st := s__law_pick) (c.fn 25) q27
  obtain ⟨oc__law_join, od__law_join, kV__law_join, dc__law_join, pm__law_join, an__law_join, cd__law_join, ct__law_join, sl__law_join, l__law_join, c__law_join, k__law_join⟩ := fnl_of (st := s__law_join) (c.fn 26) q28
  obtain ⟨oc__law_then, od__law_then, kV__law_then, dc__law_then, pm__law_then, an__law_then, cd__law_then, ct__law_then, sl__law_then, l__law_then, c__law_then, k__law_then⟩ := fnl_of (st := s__law_then) (c.fn 27) q29
  obtain ⟨oc__law_tables, od__law_tables, kV__law_tables, dc__law_tables, pm__law_tables, an__law_tables, cd__law_tables, ct__law_tables, sl__law_tables, l__law_tables, c__law_tables, k__law_tables⟩ := fnl_of (st := s__law_tables) (c.fn 28) q30
  obtain ⟨oc__law_table_scale, od__law_table_scale, kV__law_table_scale, dc__law_table_scale, pm__law_table_scale, an__law_table_scale, cd__law_table_scale, ct__law_table_scale, sl__law_table_scale, l__law_table_scale, c__law_table_scale, k__law_table_scale⟩ := fnl_of (st := s__law_table_scale) (c.fn 29) q31
  obtain ⟨oc_Worth___init__, od_Worth___init__, kV_Worth___init__, dc_Worth___init__, pm_Worth___init__, an_Worth___init__, cd_Worth___init__, ct_Worth___init__, sl_Worth___init__, l_Worth___init__, c_Worth___init__, k_Worth___init__⟩ := fnl_of (st := s_Worth___init__) (c.fn 30) q32
  obtain ⟨oc_Worth___eq__, od_Worth___eq__, kV_Worth___eq__, dc_Worth___eq__, pm_Worth___eq__, an_Worth___eq__, cd_Worth___eq__, ct_Worth___eq__, sl_Worth___eq__, l_Worth___eq__, c_Worth___eq__, k_Worth___eq__⟩ := fnl_of (st := s_Worth___eq__) (c.fn 31) q33
  obtain ⟨oc_together, od_together, kV_together, dc_together, pm_together, an_together, cd_together, ct_together, sl_together, l_together, c_together, k_together⟩ := fnl_of (st := s_together) (c.fn 32) q34
  obtain ⟨oc_Worth___mul__, od_Worth___mul__, kV_Worth___mul__, dc_Worth___mul__, pm_Worth___mul__, an_Worth___mul__, cd_Worth___mul__, ct_Worth___mul__, sl_Worth___mul__, l_Worth___mul__, c_Worth___mul__, k_Worth___mul__⟩ := fnl_of (st := s_Worth___mul__) (c.fn 33) q35
  obtain ⟨oc_Worth___or__, od_Worth___or__, kV_Worth___or__, dc_Worth___or__, pm_Worth___or__, an_Worth___or__, cd_Worth___or__, ct_Worth___or__, sl_Worth___or__, l_Worth___or__, c_Worth___or__, k_Worth___or__⟩ := fnl_of (st := s_Worth___or__) (c.fn 34) q36
  obtain ⟨oc_Worth___le__, od_Worth___le__, kV_Worth___le__, dc_Worth___le__, pm_Worth___le__, an_Worth___le__, cd_Worth___le__, ct_Worth___le__, sl_Worth___le__, l_Worth___le__, c_Worth___le__, k_Worth___le__⟩ := fnl_of (st := s_Worth___le__) (c.fn 35) q37
  obtain ⟨oc_Worth___lt__, od_Worth___lt__, kV_Worth___lt__, dc_Worth___lt__, pm_Worth___lt__, an_Worth___lt__, cd_Worth___lt__, ct_Worth___lt__, sl_Worth___lt__, l_Worth___lt__, c_Worth___lt__, k_Worth___lt__⟩ := fnl_of (st := s_Worth___lt__) (c.fn 36) q38
  obtain ⟨oc_Worth___str__, od_Worth___str__, kV_Worth___str__, dc_Worth___str__, pm_Worth___str__, an_Worth___str__, cd_Worth___str__, ct_Worth___str__, sl_Worth___str__, l_Worth___str__, c_Worth___str__, k_Worth___str__⟩ := fnl_of (st := s_Worth___str__) (c.fn 37) q39
  obtain ⟨oc_Worth_still, od_Worth_still, kV_Worth_still, dc_Worth_still, pm_Worth_still, an_Worth_still, cd_Worth_still, ct_Worth_still, sl_Worth_still, l_Worth_still, c_Worth_still, k_Worth_still⟩ := fnl_of (st := s_Worth_still) (c.fn 38) q40
  obtain ⟨oc_Worth_never, od_Worth_never, kV_Worth_never, dc_Worth_never, pm_Worth_never, an_Worth_never, cd_Worth_never, ct_Worth_never, sl_Worth_never, l_Worth_never, c_Worth_never, k_Worth_never⟩ := fnl_of (st := s_Worth_never) (c.fn 39) q41
  obtain ⟨oc_Worth_named, od_Worth_named, kV_Worth_named, dc_Worth_named, pm_Worth_named, an_Worth_named, cd_Worth_named, ct_Worth_named, sl_Worth_named, l_Worth_named, c_Worth_named, k_Worth_named⟩ := fnl_of (st := s_Worth_named) (c.fn 40) q42
  obtain ⟨oc_nested_words, od_nested_words, kV_nested_words, dc_nested_words, pm_nested_words, an_nested_words, cd_nested_words, ct_nested_words, sl_nested_words, l_nested_words, c_nested_words, k_nested_words⟩ := fnl_of (st := s_nested_words) (c.fn 41) q43
  obtain ⟨oc_square_rows, od_square_rows, kV_square_rows, dc_square_rows, pm_square_rows, an_square_rows, cd_square_rows, ct_square_rows, sl_square_rows, l_square_rows, c_square_rows, k_square_rows⟩ := fnl_of (st := s_square_rows) (c.fn 42) q44
  obtain ⟨oc_table_of_fields, od_table_of_fields, kV_table_of_fields, dc_table_of_fields, pm_table_of_fields, an_table_of_fields, cd_table_of_fields, ct_table_of_fields, sl_table_of_fields, l_table_of_fields, c_table_of_fields, k_table_of_fields⟩ := fnl_of (st := s_table_of_fields) (c.fn 43) q45
  obtain ⟨oc_scale_of_list, od_scale_of_list, kV_scale_of_list, dc_scale_of_list, pm_scale_of_list, an_scale_of_list, cd_scale_of_list, ct_scale_of_list, sl_scale_of_list, l_scale_of_list, c_scale_of_list, k_scale_of_list⟩ := fnl_of (st := s_scale_of_list) (c.fn 44) q46
  obtain ⟨oc_read_scale, od_read_scale, kV_read_scale, dc_read_scale, pm_read_scale, an_read_scale, cd_read_scale, ct_read_scale, sl_read_scale, l_read_scale, c_read_scale, k_read_scale⟩ := fnl_of (st := s_read_scale) (c.fn 45) q47
  obtain ⟨oc__law_spoiled, od__law_spoiled, kV__law_spoiled, dc__law_spoiled, pm__law_spoiled, an__law_spoiled, cd__law_spoiled, ct__law_spoiled, sl__law_spoiled, l__law_spoiled, c__law_spoiled, k__law_spoiled⟩ := fnl_of (st := s__law_spoiled) (c.fn 46) q48
  obtain ⟨oc__law_deed, od__law_deed, kV__law_deed, dc__law_deed, pm__law_deed, an__law_deed, cd__law_deed, ct__law_deed, sl__law_deed, l__law_deed, c__law_deed, k__law_deed⟩ := fnl_of (st := s__law_deed) (c.fn 47) q49
  obtain ⟨oc__law_is, od__law_is, kV__law_is, dc__law_is, pm__law_is, an__law_is, cd__law_is, ct__law_is, sl__law_is, l__law_is, c__law_is, k__law_is⟩ := fnl_of (st := s__law_is) (c.fn 48) q50
  obtain ⟨oc__law_truth, od__law_truth, kV__law_truth, dc__law_truth, pm__law_truth, an__law_truth, cd__law_truth, ct__law_truth, sl__law_truth, l__law_truth, c__law_truth, k__law_truth⟩ := fnl_of (st := s__law_truth) (c.fn 49) q51
  obtain ⟨oc__law_pair, od__law_pair, kV__law_pair, dc__law_pair, pm__law_pair, an__law_pair, cd__law_pair, ct__law_pair, sl__law_pair, l__law_pair, c__law_pair, k__law_pair⟩ := fnl_of (st := s__law_pair) (c.fn 50) q52
  obtain ⟨oc__law_unknown, od__law_unknown, kV__law_unknown, dc__law_unknown, pm__law_unknown, an__law_unknown, cd__law_unknown, ct__law_unknown, sl__law_unknown, l__law_unknown, c__law_unknown, k__law_unknown⟩ := fnl_of (st := s__law_unknown) (c.fn 51) q53
  obtain ⟨oc_law, od_law, kV_law, dc_law, pm_law, an_law, cd_law, ct_law, sl_law, l_law, c_law, k_law⟩ := fnl_of (st := s_law) (c.fn 52) q54
  have z_int := of_decide_eq_true q55
  have z_abs := of_decide_eq_true q56
  have z_range := of_decide_eq_true q57
  have z_len := of_decide_eq_true q58
  have z_isinstance := of_decide_eq_true q59
  have z_bool := of_decide_eq_true q60
  have z_str := of_decide_eq_true q61
  have z_list := of_decide_eq_true q62
  have z_tuple := of_decide_eq_true q63
  have z_dict := of_decide_eq_true q64
  have z_enumerate := of_decide_eq_true q65
  have z_zip := of_decide_eq_true q66
  have z_reversed := of_decide_eq_true q67
  have z_ValueError := of_decide_eq_true q68
  have z_LookupError := of_decide_eq_true q69
  have z_KeyError := of_decide_eq_true q70
  have z_Exception := of_decide_eq_true q71
  have z_super := of_decide_eq_true q72
  have z_sum := of_decide_eq_true q73
  have z_any := of_decide_eq_true q74
  have z_all := of_decide_eq_true q75
  have z_sorted := of_decide_eq_true q76
  have z_max := of_decide_eq_true q77
  have z_min := of_decide_eq_true q78
  have z_NotImplementedError := of_decide_eq_true q79
  have z_set := of_decide_eq_true q80
  have z_repr := of_decide_eq_true q81
  have opq := of_decide_eq_true q82
  have top0 : (PySem.Challenge.pw_deedscale_k11_worth_operators.main.scope.names.lookup ("super" : Str)).isSome = false := rfl
  have a_CU := of_decide_eq_true q83
  have a_CN := of_decide_eq_true q84
  have a_CS := of_decide_eq_true q85
  have a_CW := of_decide_eq_true q86
  have a_CT := of_decide_eq_true q87
  have a_CC := of_decide_eq_true q88
  have a_CR := of_decide_eq_true q89
  have pg_CT := q90
  have hd_CT := q91
  have po_CT := q92
  have sa_CT := of_decide_eq_true q93
  have na_CT_written_joins := of_decide_eq_true q94
  have na_CT_written_products := of_decide_eq_true q95
  have na_CT_label := of_decide_eq_true q96
  have na_CT_size := of_decide_eq_true q97
  have na_CT_never_at := of_decide_eq_true q98
  have na_CT_still_at := of_decide_eq_true q99
  have na_CT_depth := of_decide_eq_true q100
  have na_CT_worth_names := of_decide_eq_true q101
  have na_CT_worth_places := of_decide_eq_true q102
  have na_CT_product_table := of_decide_eq_true q103
  have na_CT_join_table := of_decide_eq_true q104
  have pg_CC := q105
  have hd_CC := q106
  have po_CC := q107
  have sa_CC := of_decide_eq_true q108
  have na_CC_most := of_decide_eq_true q109
  have na_CC_rising := of_decide_eq_true q110
  have na_CC_contents := of_decide_eq_true q111
  have na_CC_label := of_decide_eq_true q112
  have na_CC_size := of_decide_eq_true q113
  have na_CC_never_at := of_decide_eq_true q114
  have na_CC_still_at := of_decide_eq_true q115
  have na_CC_depth := of_decide_eq_true q116
  have na_CC_worth_names := of_decide_eq_true q117
  have na_CC_worth_places := of_decide_eq_true q118
  have na_CC_product_table := of_decide_eq_true q119
  have na_CC_join_table := of_decide_eq_true q120
  have pg_CR := q121
  have hd_CR := q122
  have po_CR := q123
  have sa_CR := of_decide_eq_true q124
  have na_CR_inner := of_decide_eq_true q125
  have na_CR_label := of_decide_eq_true q126
  have na_CR_size := of_decide_eq_true q127
  have na_CR_never_at := of_decide_eq_true q128
  have na_CR_still_at := of_decide_eq_true q129
  have na_CR_depth := of_decide_eq_true q130
  have na_CR_worth_names := of_decide_eq_true q131
  have na_CR_worth_places := of_decide_eq_true q132
  have na_CR_product_table := of_decide_eq_true q133
  have na_CR_join_table := of_decide_eq_true q134
  have xi := q135
  have xo := q136
  have xh := q137
  have xs := of_decide_eq_true q138
  have xe := of_decide_eq_true q139
  have xb := of_decide_eq_true q140
  have xt := of_decide_eq_true q141
  have xk := q142
  have xn := of_decide_eq_true q143
  have xm := of_decide_eq_true q144
  have xsup := of_decide_eq_true q145
  have xg := of_decide_eq_true q146
  have xgg := of_decide_eq_true q147
  have xcl := of_decide_eq_true q148
  have xsp := of_decide_eq_true q149
  have xtk := of_decide_eq_true q150
  have xmo := of_decide_eq_true q151
  have xte := of_decide_eq_true q152
  have xkN := of_decide_eq_true q153
  have xkL := of_decide_eq_true q154
  have xkV := of_decide_eq_true q155
  have a_f_UnknownWorth___init__ := of_decide_eq_true q156
  have a_f_Scale___init__ := of_decide_eq_true q157
  have fiS := q158
  have tyS := of_decide_eq_true q159
  obtain ⟨tM, gM⟩ := nsInt_of q160
  have a_f_cut_down := of_decide_eq_true q161
  have a_f_number_name := of_decide_eq_true q162
  obtain ⟨tS, gS⟩ := nsStr_of q163
  have a_f_is_table_name := of_decide_eq_true q164
  have a_f_table_places := of_decide_eq_true q165
  obtain ⟨tD, gD⟩ := nsInt_of q166
  have a_f_depth_above := of_decide_eq_true q167
  have a_CT_f_Scale_then_at := of_decide_eq_true q168
  have i_Scale_then_at := q169
  have a_CC_f_Scale_then_at := of_decide_eq_true q170
  have a_CR_f_Scale_then_at := of_decide_eq_true q171
  have a_CT_f_Scale_join_at := of_decide_eq_true q172
  have i_Scale_join_at := q173
  have a_CC_f_Scale_join_at := of_decide_eq_true q174
  have a_CR_f_Scale_join_at := of_decide_eq_true q175
  have a_CT_f_Scale_within_at := of_decide_eq_true q176
  have i_Scale_within_at := q177
  have a_CC_f_Scale_within_at := of_decide_eq_true q178
  have a_CR_f_Scale_within_at := of_decide_eq_true q179
  have a_CT_f_Scale_name_at := of_decide_eq_true q180
  have i_Scale_name_at := q181
  have a_CC_f_Scale_name_at := of_decide_eq_true q182
  have a_CR_f_Scale_name_at := of_decide_eq_true q183
  have a_CT_f_Scale_at_name := of_decide_eq_true q184
  have i_Scale_at_name := q185
  have a_CC_f_Scale_at_name := of_decide_eq_true q186
  have a_CR_f_Scale_at_name := of_decide_eq_true q187
  have a_CT_f_TableScale_make_then := of_decide_eq_true q188
  have i_TableScale_make_then := q189
  have a_CT_f_TableScale_make_join := of_decide_eq_true q190
  have i_TableScale_make_join := q191
  have a_CC_f_CountScale_behind := of_decide_eq_true q192
  have i_CountScale_behind := q193
  have a_CC_f_CountScale_either := of_decide_eq_true q194
  have i_CountScale_either := q195
  have a_CC_f_WithNever_make_then := of_decide_eq_true q196
  have i_WithNever_make_then := q197
  have a_CC_f_WithNever_make_join := of_decide_eq_true q198
  have i_WithNever_make_join := q199
  have a_CR_f_TurnedScale_make_then := of_decide_eq_true q200
  have i_TurnedScale_make_then := q201
  have a_CR_f_TurnedScale_make_join := of_decide_eq_true q202
  have i_TurnedScale_make_join := q203
  have a_f_WithNever___init__ := of_decide_eq_true q204
  obtain ⟨q3_WithNever___init__, e3_WithNever___init__, cl_WithNever___init__, g3_WithNever___init__, lD_WithNever___init__⟩ := ckCls_ok2 q205
  have mW_CC := of_decide_eq_true q206
  have sW_CC := of_decide_eq_true q207
  have a_f_TableScale___init__ := of_decide_eq_true q208
  obtain ⟨q3_TableScale___init__, e3_TableScale___init__, cl_TableScale___init__, g3_TableScale___init__, lD_TableScale___init__⟩ := ckCls_ok2 q209
  have mCT := of_decide_eq_true q210
  have sCT := of_decide_eq_true q211
  have mk_CT := q212
  have fnCT := q213
  have kp_CT := q214
  have a_f_CountScale___init__ := of_decide_eq_true q215
  obtain ⟨q3_CountScale___init__, e3_CountScale___init__, cl_CountScale___init__, g3_CountScale___init__, lD_CountScale___init__⟩ := ckCls_ok2 q216
  have mCC := of_decide_eq_true q217
  have sCC := of_decide_eq_true q218
  have mk_CC := q219
  have fnCC := q220
  have kp_CC := q221
  have a_f_TurnedScale___init__ := of_decide_eq_true q222
  obtain ⟨q3_TurnedScale___init__, e3_TurnedScale___init__, cl_TurnedScale___init__, g3_TurnedScale___init__, lD_TurnedScale___init__⟩ := ckCls_ok2 q223
  have mCR := of_decide_eq_true q224
  have sCR := of_decide_eq_true q225
  have mk_CR := q226
  have fnCR := q227
  have kp_CR := q228
  have a_f__law_source := of_decide_eq_true q229
  have a_f__law_pick := of_decide_eq_true q230
  have a_f__law_join := of_decide_eq_true q231
  have a_f__law_then := of_decide_eq_true q232
  have a_f__law_tables := of_decide_eq_true q233
  have a_f__law_table_scale := of_decide_eq_true q234
  have a_CWt := of_decide_eq_true q235
  have pg_CWt := q236
  have hd_CWt := q237
  have po_CWt := q238
  have sa_CWt := of_decide_eq_true q239
  have na_CWt_scale := of_decide_eq_true q240
  have na_CWt_place := of_decide_eq_true q241
  have na_CWt_name := of_decide_eq_true q242
  have xsp_ := of_decide_eq_true q243
  have xtk_ := of_decide_eq_true q244
  have wca := of_decide_eq_true q245
  have wcm := of_decide_eq_true q246
  have wme := of_decide_eq_true q247
  have wfirst := q248
  have a_CWt_f_Worth___init__ := of_decide_eq_true q249
  have i_Worth___init__ := q250
  have mk_CWt := q251
  have kp_CWt := q252
  have a_CWt_f_Worth___eq__ := of_decide_eq_true q253
  have i_Worth___eq__ := q254
  have a_A_MixedScales := of_decide_eq_true q255
  have xh_MixedScales := q256
  have xe_MixedScales := of_decide_eq_true q257
  have xk_MixedScales := q258
  have xg_MixedScales := of_decide_eq_true q259
  have xgg_MixedScales := of_decide_eq_true q260
  have xcl_MixedScales := of_decide_eq_true q261
  have xmo_MixedScales := of_decide_eq_true q262
  have xt_MixedScales := of_decide_eq_true q263
  have xte_MixedScales := of_decide_eq_true q264
  have q_MixedScales := q265
  have a_f_together := of_decide_eq_true q266
  have a_CWt_f_Worth___mul__ := of_decide_eq_true q267
  have i_Worth___mul__ := q268
  have a_CWt_f_Worth___or__ := of_decide_eq_true q269
  have i_Worth___or__ := q270
  have a_CWt_f_Worth___le__ := of_decide_eq_true q271
  have i_Worth___le__ := q272
  have a_CWt_f_Worth___lt__ := of_decide_eq_true q273
  have i_Worth___lt__ := q274
  have wk1 := of_decide_eq_true q275
  have wk2 := of_decide_eq_true q276
  have wsub1 := of_decide_eq_true q277
  have wsub2 := of_decide_eq_true q278
  have a_CWt_f_Worth___eq__ := of_decide_eq_true q279
  have a_CWt_f_Worth___str__ := of_decide_eq_true q280
  have i_Worth___str__ := q281
  have rd_CWt := q282
  have ga_CWt := of_decide_eq_true q283
  have at_Worth_still := ckGet_ok q284
  obtain ⟨r_Worth_still, rc_Worth_still⟩ := rec_of q285
  have fi_Worth_still := q286
  have at_Worth_never := ckGet_ok q287
  obtain ⟨r_Worth_never, rc_Worth_never⟩ := rec_of q288
  have fi_Worth_never := q289
  have at_Worth_named := ckGet_ok q290
  obtain ⟨r_Worth_named, rc_Worth_named⟩ := rec_of q291
  have fi_Worth_named := q292
  have a_f_nested_words := of_decide_eq_true q293
  have a_f_square_rows := of_decide_eq_true q294
  have a_f_table_of_fields := of_decide_eq_true q295
  have a_f_scale_of_list := of_decide_eq_true q296
  have a_f_read_scale := of_decide_eq_true q297
  have a_A_BadScale := of_decide_eq_true q298
  have xh_BadScale := q299
  have xe_BadScale := of_decide_eq_true q300
  have xk_BadScale := q301
  have xg_BadScale := of_decide_eq_true q302
  have xgg_BadScale := of_decide_eq_true q303
  have xcl_BadScale := of_decide_eq_true q304
  have xmo_BadScale := of_decide_eq_true q305
  have xt_BadScale := of_decide_eq_true q306
  have xte_BadScale := of_decide_eq_true q307
  have q_BadScale := q308
  obtain ⟨tDl, gDl⟩ := nsInt_of q309
  have a_f__law_spoiled := of_decide_eq_true q310
  have a_f__law_deed := of_decide_eq_true q311
  have a_f__law_is := of_decide_eq_true q312
  have a_f__law_truth := of_decide_eq_true q313
  have a_f__law_pair := of_decide_eq_true q314
  have a_f__law_unknown := of_decide_eq_true q315
  have a_f_law := of_decide_eq_true q316
  have a_CDe := of_decide_eq_true q317
  have kDe := of_decide_eq_true q318
  have kVe := of_decide_eq_true q319
  have kBe := of_decide_eq_true q320
  exact all_mk (l := PySem.Challenge.rw_deedscale_k11_worth_operators) X G hfa z_int z_abs z_range z_len z_isinstance z_bool z_str z_list z_tuple z_dict z_enumerate z_zip z_reversed z_ValueError z_LookupError z_KeyError z_Exception z_super z_sum z_any z_all z_sorted z_max z_min z_NotImplementedError z_set z_repr opq top0 a_CU a_CN a_CS a_CW a_CT a_CC a_CR pg_CT hd_CT po_CT sa_CT na_CT_written_joins na_CT_written_products na_CT_label na_CT_size na_CT_never_at na_CT_still_at na_CT_depth na_CT_worth_names na_CT_worth_places na_CT_product_table na_CT_join_table pg_CC hd_CC po_CC sa_CC na_CC_most na_CC_rising na_CC_contents na_CC_label na_CC_size na_CC_never_at na_CC_still_at na_CC_depth na_CC_worth_names na_CC_worth_places na_CC_product_table na_CC_join_table pg_CR hd_CR po_CR sa_CR na_CR_inner na_CR_label na_CR_size na_CR_never_at na_CR_still_at na_CR_depth na_CR_worth_names na_CR_worth_places na_CR_product_table na_CR_join_table xi xo xh xs xe xb xt xk xn xm xsup xg xgg xcl xsp xtk xmo xte xkN xkL xkV a_f_UnknownWorth___init__ ty_UnknownWorth___init__ l_UnknownWorth___init__ c_UnknownWorth___init__ lc_UnknownWorth___init__ hv_UnknownWorth___init__ hf_UnknownWorth___init__ lx_UnknownWorth___init__ a_f_Scale___init__ l_Scale___init__ c_Scale___init__ k_Scale___init__ lT fiS tyS gM a_f_cut_down l_cut_down c_cut_down k_cut_down a_f_number_name l_number_name c_number_name k_number_name gS a_f_is_table_name l_is_table_name c_is_table_name k_is_table_name a_f_table_places l_table_places c_table_places k_table_places gD a_f_depth_above l_depth_above c_depth_above k_depth_above a_CT_f_Scale_then_at i_Scale_then_at l_Scale_then_at c_Scale_then_at k_Scale_then_at a_CC_f_Scale_then_at a_CR_f_Scale_then_at a_CT_f_Scale_join_at i_Scale_join_at l_Scale_join_at c_Scale_join_at k_Scale_join_at a_CC_f_Scale_join_at a_CR_f_Scale_join_at a_CT_f_Scale_within_at i_Scale_within_at l_Scale_within_at c_Scale_within_at k_Scale_within_at a_CC_f_Scale_within_at a_CR_f_Scale_within_at a_CT_f_Scale_name_at i_Scale_name_at l_Scale_name_at c_Scale_name_at k_Scale_name_at a_CC_f_Scale_name_at a_CR_f_Scale_name_at a_CT_f_Scale_at_name i_Scale_at_name l_Scale_at_name c_Scale_at_name k_Scale_at_name a_CC_f_Scale_at_name a_CR_f_Scale_at_name a_CT_f_TableScale_make_then i_TableScale_make_then l_TableScale_make_then c_TableScale_make_then k_TableScale_make_then a_CT_f_TableScale_make_join i_TableScale_make_join l_TableScale_make_join c_TableScale_make_join k_TableScale_make_join a_CC_f_CountScale_behind i_CountScale_behind l_CountScale_behind c_CountScale_behind k_CountScale_behind a_CC_f_CountScale_either i_CountScale_either l_CountScale_either c_CountScale_either k_CountScale_either a_CC_f_WithNever_make_then i_WithNever_make_then l_WithNever_make_then c_WithNever_make_then k_WithNever_make_then a_CC_f_WithNever_make_join i_WithNever_make_join l_WithNever_make_join c_WithNever_make_join k_WithNever_make_join a_CR_f_TurnedScale_make_then i_TurnedScale_make_then l_TurnedScale_make_then c_TurnedScale_make_then k_TurnedScale_make_then a_CR_f_TurnedScale_make_join i_TurnedScale_make_join l_TurnedScale_make_join c_TurnedScale_make_join k_TurnedScale_make_join a_f_WithNever___init__ ty_WithNever___init__ l_WithNever___init__ c_WithNever___init__ lc_WithNever___init__ hv_WithNever___init__ hf_WithNever___init__ lx_WithNever___init__ lD_WithNever___init__ k_WithNever___init__ fi2_WithNever___init__ mW_CC sW_CC a_f_TableScale___init__ ty_TableScale___init__ l_TableScale___init__ c_TableScale___init__ lc_TableScale___init__ hv_TableScale___init__ hf_TableScale___init__ lx_TableScale___init__ lD_TableScale___init__ k_TableScale___init__ fi2_TableScale___init__ mCT sCT mk_CT fnCT kp_CT a_f_CountScale___init__ ty_CountScale___init__ l_CountScale___init__ c_CountScale___init__ lc_CountScale___init__ hv_CountScale___init__ hf_CountScale___init__ lx_CountScale___init__ lD_CountScale___init__ k_CountScale___init__ fi2_CountScale___init__ kw_CountScale___init__ mCC sCC mk_CC fnCC kp_CC a_f_TurnedScale___init__ ty_TurnedScale___init__ l_TurnedScale___init__ c_TurnedScale___init__ lc_TurnedScale___init__ hv_TurnedScale___init__ hf_TurnedScale___init__ lx_TurnedScale___init__ lD_TurnedScale___init__ k_TurnedScale___init__ fi2_TurnedScale___init__ mCR sCR mk_CR fnCR kp_CR a_f__law_source l__law_source c__law_source k__law_source a_f__law_pick l__law_pick c__law_pick k__law_pick a_f__law_join l__law_join c__law_join k__law_join a_f__law_then l__law_then c__law_then k__law_then a_f__law_tables l__law_tables c__law_tables k__law_tables a_f__law_table_scale l__law_table_scale c__law_table_scale k__law_table_scale a_CWt pg_CWt hd_CWt po_CWt sa_CWt na_CWt_scale na_CWt_place na_CWt_name xsp_ xtk_ wca wcm wme wfirst a_CWt_f_Worth___init__ i_Worth___init__ l_Worth___init__ c_Worth___init__ k_Worth___init__ mk_CWt kp_CWt a_CWt_f_Worth___eq__ i_Worth___eq__ l_Worth___eq__ c_Worth___eq__ k_Worth___eq__ a_A_MixedScales xh_MixedScales xe_MixedScales xk_MixedScales xg_MixedScales xgg_MixedScales xcl_MixedScales xmo_MixedScales xt_MixedScales xte_MixedScales q_MixedScales a_f_together l_together c_together k_together a_CWt_f_Worth___mul__ i_Worth___mul__ l_Worth___mul__ c_Worth___mul__ k_Worth___mul__ a_CWt_f_Worth___or__ i_Worth___or__ l_Worth___or__ c_Worth___or__ k_Worth___or__ a_CWt_f_Worth___le__ i_Worth___le__ l_Worth___le__ c_Worth___le__ k_Worth___le__ a_CWt_f_Worth___lt__ i_Worth___lt__ l_Worth___lt__ c_Worth___lt__ k_Worth___lt__ wk1 wk2 wsub1 wsub2 a_CWt_f_Worth___eq__ a_CWt_f_Worth___str__ i_Worth___str__ l_Worth___str__ c_Worth___str__ k_Worth___str__ rd_CWt ga_CWt at_Worth_still rc_Worth_still l_Worth_still c_Worth_still k_Worth_still fi_Worth_still at_Worth_never rc_Worth_never l_Worth_never c_Worth_never k_Worth_never fi_Worth_never at_Worth_named rc_Worth_named l_Worth_named c_Worth_named k_Worth_named fi_Worth_named a_f_nested_words l_nested_words c_nested_words k_nested_words a_f_square_rows l_square_rows c_square_rows k_square_rows a_f_table_of_fields l_table_of_fields c_table_of_fields k_table_of_fields a_f_scale_of_list l_scale_of_list c_scale_of_list k_scale_of_list a_f_read_scale l_read_scale c_read_scale k_read_scale a_A_BadScale xh_BadScale xe_BadScale xk_BadScale xg_BadScale xgg_BadScale xcl_BadScale xmo_BadScale xt_BadScale xte_BadScale q_BadScale gDl a_f__law_spoiled l__law_spoiled c__law_spoiled k__law_spoiled a_f__law_deed l__law_deed c__law_deed k__law_deed a_f__law_is l__law_is c__law_is k__law_is a_f__law_truth l__law_truth c__law_truth k__law_truth a_f__law_pair l__law_pair c__law_pair k__law_pair a_f__law_unknown l__law_unknown c__law_unknown k__law_unknown a_f_law l_law c_law k_law a_CDe kDe kVe kBe
end L2.DS
open PySem PySem.W PySem.Calls PyProof.Rows
set_option maxRecDepth 100000 in
set_option maxHeartbeats 0 in
theorem PySem.Challenge.cw_deedscale_k11_worth_operators_holds : PySem.Challenge.rw_deedscale_k11_worth_operators.Holds := by
  w_on; o_law
  refine HandSHeadRun.head_any (r := L2.DS.RH) (q := L2.DS.qH) (H := L2.DS.hookB 8000 L2.DS.fsH L2.DS.dfsH []) (ob := L2.DS.obH) (M := 9000) (loose := L2.DS.namesH) (d := HandSHeadRun.topDef L2.DS.RH.prog 56) (kwd := []) L2.DS.obH_eq
    (by kernel_rfl) (fun s => by kernel_rfl) L2.DS.runH (by kernel_rfl) (by kernel_rfl) (by kernel_rfl) (by rfl) (by first | assumption | decide +kernel) (by decide +kernel) ⟨rfl, rfl, rfl, rfl, rfl, by decide +kernel⟩ ?hw ?hc
  case hw => w_witness2
  case hc =>
    refine L2.walk_ofE (l := PySem.Challenge.rw_deedscale_k11_worth_operators) (n := 63) (k := 16) (x := "_law_script") (CX := L2.CX0) rfl (by decide) (by kernel_rfl) ⟨rfl, by decide, by decide⟩ ?F (fun _ _ _ _ z => z)
    intro w mg fa h Y G hmg0
    obtain ⟨K, KX, c⟩ := Y
    have hmg : mg ("law" : PySem.Str) = some (.ref fa) := by
      have e : (HandSHeadRun.topDef L2.DS.RH.prog 56).name = ("law" : PySem.Str) := by kernel_rfl
      rw [← e]
      exact hmg0
    obtain ⟨fd, hb, hF⟩ := L2.DS.facts_mk KX G hmg c
    exact ⟨K, fd, L2.DS.sp_law K, KX, hb, fun H a ns hl _ hS => ⟨a, ns, rfl, hS, hl, fun _ => rfl⟩, hF⟩
#print axioms PySem.Challenge.cw_deedscale_k11_worth_operators_holds
