import PyProof.Rows.All
import Wide.All
import OpenK.AllK
import Wide.FinOn
import KE.KStateDown
import HandS.Words
import KE.KExcInit
import HandS.Defaults
import HandS.Head0
import HandS.Head1
import HandS.Head2
import HandS.HeadHook1
import HandS.HeadHook2
import HandS.HeadHook3
import PySem.Challenge.RW_deedscale_k06_bad_scales
import KE.KExcSuper
import HandS.ForMost
import HandS.ForExc
import HandS.ExcInit
import HandS.ClsMeth
import HandS.More
import HandS.Wide
import HandS.Flow
import HandS.IsInst
import HandS.Dict
import HandS.Star
import HandS.DictComp
import HandS.FStr
import HandS.Walk
import HandS.MakeKwOnly
import HandS.WordsExc
import HandS.Conv
import KE.KIndexOf
import PyProof.SeqIndex
import HandS.ExcIs
import HandS.ExcOwn
import HandS.Text
import HandS.ExcValue
import PyProof.StrOps2
import HandS.Deep
import PyProof.StrBlock2
import PyProof.StrBlockL
import HandS.Iter
import PyProof.Rows.StrMul
import HandS.CallLocal
import HandS.TupAny
import HandS.SlotsOwn
import HandS.Property
import HandS.Codes
import KE.KFmtOwn
import KE.KOpsOwn
import PyProof.InstEq
import HandS.ReplaceLit
import HandS.ReplaceDef
import HandS.ReplaceList
import PyProof.Rows.StrSplitJoin
import HandS.TryOnly
import KE.KCallOwn
import HandS.TupLe
import HandS.RaiseMore
import HandS.HeadEnd
set_option Elab.async false
set_option linter.all false
set_option maxRecDepth 100000
set_option maxHeartbeats 4000000
/-! The head by one run of the kernel, with a look of one's own: facts as Bools of what the top has left, functions and tables by their texts. -/
namespace L2.DS
open PySem PySem.Spec PyProof.Rows
abbrev Fg := PySem.W.Frag
/-- a function as its text has it -/
abbrev FnU : Type := Option (Str × Str × Arguments × FuncBody × Scope × Addr × Addr)
def fnU (K : Fg) (f : Addr) : FnU := match K.lookup f with
  | some ⟨_, _, .func fd, _⟩ => some (fd.name, fd.qualname, fd.params, fd.body, fd.scope, fd.globals, fd.builtins)
  | _ => none
def fdA (K : Fg) (f : Addr) : FuncData := match K.lookup f with
  | some ⟨_, _, .func fd, _⟩ => fd
  | _ => default
structure Df where
  at_ : Fg → Addr
  name : Str
  qual : Str
  st : Stmt
def Df.val (d : Df) : FnU := some (d.name, d.qual, defArgs d.st, .stmts (defBody d.st), defScope d.st, mainGlobals, builtinsNs)
/-- all that is reached of some addresses: each once, told by a mask -/
def reachG (g : Addr → Option Obj) : Nat → List Addr → Nat → Fg
  | 0, _, _ => []
  | n + 1, as, M => match as with
    | [] => []
    | a :: q => match Nat.beq (Nat.mod (Nat.shiftRight M a) 2) 1 with
      | true => reachG g n q M
      | false => match g a with
        | none => reachG g n q M
        | some o => HandSHeadRun.frNat (Nat.lor M (Nat.shiftLeft 1 a)) fun M' => (a, o) :: reachG g n (He.refsD o ++ q) M'
theorem reachG_in {g : Addr → Option Obj} : ∀ {n : Nat} {as : List Addr} {M : Nat} {a : Addr} {o : Obj}, (a, o) ∈ reachG g n as M → g a = some o
  | 0, _, _, _, _, h => by cases h
  | n + 1, [], _, _, _, h => by cases h
  | n + 1, b :: q, M, a, o, h => by
    unfold reachG at h
    dsimp only at h
    split at h
    · exact reachG_in h
    · cases hb : g b with
      | none =>
        rw [hb] at h
        exact reachG_in h
      | some ob =>
        rw [hb] at h
        dsimp only at h
        rw [HandSHeadRun.frNat_eq] at h
        rcases List.mem_cons.mp h with e | e
        · cases e
          exact hb
        · exact reachG_in e
theorem look_mem {K : Fg} {a : Addr} {o : Obj} : K.lookup a = some o → (a, o) ∈ K := fun h => by
  induction K with
  | nil => cases h
  | cons p r ih =>
    obtain ⟨b, u⟩ := p
    rw [List.lookup_cons] at h
    split at h
    · rename_i e
      cases h
      rw [beq_iff_eq.mp e]
      exact List.mem_cons_self
    · exact List.mem_cons_of_mem _ (ih h)
def fragB (n : Nat) (g : Addr → Option Obj) : Fg := reachG g n [mainGlobals, cStatics] 0
theorem fragB_in {n : Nat} {h : Heap} : (fragB n h.get?).In h := fun _ _ e => reachG_in (look_mem e)
/-! ### the look -/
abbrev AlB : Type := (Bool × List FnU) × List (Option (List (Option (Str × Int))))
def obsB (fs : List (Fg → Bool)) (dfs : List Df) (ts : List He.Tab) (K : Fg) : AlB := ((fs.all fun f => f K, dfs.map fun d => fnU K (d.at_ K)), ts.map fun t => He.dicW K (t.1 K))
def valB (dfs : List Df) (ts : List He.Tab) (w : World) : AlB := ((true, dfs.map Df.val), ts.map fun t => some (He.keysIn w.params t.2))
def SaysB (fs : List (Fg → Bool)) (dfs : List Df) (ts : List He.Tab) (w : World) (K : Fg) : Prop := obsB fs dfs ts K = valB dfs ts w
def obsBG (n : Nat) (fs : List (Fg → Bool)) (dfs : List Df) (ts : List He.Tab) (g : Addr → Option Obj) : AlB := obsB fs dfs ts (fragB n g)
def hookB (n : Nat) (fs : List (Fg → Bool)) (dfs : List Df) (ts : List He.Tab) : PySem.W.Hook where
  α := AlB
  obs := fun s => obsBG n fs dfs ts s.heap.get?
  val := fun w => valB dfs ts w
  says := fun w h => ∃ K : Fg, K.In h ∧ SaysB fs dfs ts w K
  of := fun _ _ e => ⟨_, fragB_in, e⟩
  keeps := fun _ _ _ ⟨K, hK, c⟩ k => ⟨K, PySem.W.Frag.In.keeps hK k, c⟩
theorem obsBG_eq {n : Nat} {fs : List (Fg → Bool)} {dfs : List Df} {ts : List He.Tab} {g : Addr → Option Obj} {s : Shared} (h : ∀ a, g a = s.heap.get? a) : obsBG n fs dfs ts g = (hookB n fs dfs ts).obs s := by
  have e : g = s.heap.get? := funext h
  rw [e] <;> rfl
section
variable {fs : List (Fg → Bool)} {dfs : List Df} {ts : List He.Tab} {w : World} {K : Fg}
theorem SaysB.all (c : SaysB fs dfs ts w K) : (fs.all fun f => f K) = true := congrArg (fun z : AlB => z.1.1) c
theorem SaysB.fact (c : SaysB fs dfs ts w K) (i : Nat) {f : Fg → Bool} (h : fs[i]? = some f := by rfl) : f K = true := List.all_eq_true.mp c.all f (List.mem_of_getElem? h)
theorem SaysB.fn (c : SaysB fs dfs ts w K) (i : Nat) {d : Df} (h : dfs[i]? = some d := by rfl) : fnU K (d.at_ K) = d.val := by
  have e : dfs.map (fun d => fnU K (d.at_ K)) = dfs.map Df.val := congrArg (fun z : AlB => z.1.2) c
  have e2 : (dfs.map fun d => fnU K (d.at_ K))[i]? = (dfs.map Df.val)[i]? := by rw [e]
  rw [List.getElem?_map, List.getElem?_map, h] at e2
  exact Option.some.inj e2
theorem SaysB.tab (c : SaysB fs dfs ts w K) (i : Nat) {t : He.Tab} (h : ts[i]? = some t := by rfl) : ∃ es n, KDict K w (t.1 K) es n := by
  have e : ts.map (fun t => He.dicW K (t.1 K)) = ts.map fun t => some (He.keysIn w.params t.2) := congrArg (fun z : AlB => z.2) c
  have e2 : (ts.map fun t => He.dicW K (t.1 K))[i]? = (ts.map fun t => some (He.keysIn w.params t.2))[i]? := by rw [e]
  rw [List.getElem?_map, List.getElem?_map, h] at e2
  exact He.dicW_ok (Option.some.inj e2)
end
/-! ### checks -/
def isNon : Value → Bool
  | .none => true
  | _ => false
theorem isNon_ok {v : Value} (h : isNon v = true) : v = .none := by
  cases v <;> first | rfl | cases h
/-- a plain def: no closure, no defaults -/
def ckFn (K : Fg) (f : Addr) (qual : Str) : Bool := PySem.W.keepIn K (.ref f) && (match K.lookup f with
  | some ⟨_, _, .func fd, _⟩ => fd.closure.isEmpty && (isNon fd.defaults && PySem.W.codeIn K fd.code qual)
  | _ => false)
/-- a def with whole numbers as defaults -/
def intV (i : Int) : Value → Bool
  | .int j _ => decide (i = j)
  | _ => false
def ckDflL (i : Int) : List Value → Bool
  | [u] => intV i u
  | _ => false
def ckDflT (i : Int) : Option Obj → Bool
  | some ⟨_, _, .seq its _, _⟩ => ckDflL i its.toList
  | _ => false
def ckDfl (K : Fg) (i : Int) : Value → Bool
  | .ref T => ckDflT i (K.lookup T)
  | _ => false
def ckFnI (K : Fg) (f : Addr) (qual : Str) (i : Int) : Bool := PySem.W.keepIn K (.ref f) && (match K.lookup f with
  | some ⟨_, _, .func fd, _⟩ => fd.closure.isEmpty && (PySem.W.codeIn K fd.code qual && ckDfl K i fd.defaults)
  | _ => false)
/-- a def with a closure over its class -/
def ckFile (file : Str) (vs : Array Value) : Bool := match (vs[2]? : Option Value) with
  | some (.str fi _) => file == fi
  | _ => false
def ckCell (D : Addr) : Option Obj → Bool
  | some ⟨_, _, .cell (some (.ref D')), _⟩ => decide (D' = D)
  | _ => false
def ckClo (K : Fg) (D : Addr) : List (Str × Addr) → Bool
  | [(x, cc)] => decide (x = ("__class__" : Str)) && ckCell D (K.lookup cc)
  | _ => false
def ckFlds (file : Str) : Option Obj → Bool
  | some ⟨_, _, .fields vs, _⟩ => ckFile file vs
  | _ => false
def ckCode (file : Str) (K : Fg) (qual : Str) : Value → Bool
  | .ref cda => PySem.W.codeIn K (.ref cda) qual && ckFlds file (K.lookup cda)
  | _ => false
def ckSup (file : Str) (K : Fg) (f D : Addr) (qual : Str) : Bool := PySem.W.keepIn K (.ref f) && (PySem.W.fnIn K f && (decide (PySem.W.typeIn K (.ref f) = some (.type "function")) && (match K.lookup f with
  | some ⟨_, _, .func fd, _⟩ => isNon fd.defaults && (ckClo K D fd.closure && ckCode file K qual fd.code)
  | _ => false)))
def ckCls (K : Fg) (D : Addr) : Bool := match K.lookup D with
  | some ⟨_, _, .cls _, _⟩ => true
  | _ => false
/-- its keyword-only default, a text; none -/
def ckKw (K : Fg) (f : Addr) (x z : Str) : Bool := match (fdA K f).kwdefaults with
  | .ref D => (match PySem.W.nsIn K D x with
    | some (some (.str y _)) => decide (y = z)
    | _ => false)
  | _ => false
/-- a module's number, text -/
def ckInt (K : Fg) (x : Str) (i : Int) : Bool := match PySem.W.nsIn K mainGlobals x with
  | some (some (.int j _)) => decide (j = i)
  | _ => false
def ckStr (K : Fg) (x z : Str) : Bool := match PySem.W.nsIn K mainGlobals x with
  | some (some (.str y _)) => decide (y = z)
  | _ => false
/-! ### what they say -/
section
variable {K : Fg} {f D : Addr} {x qual file z : Str} {st : Stmt} {i : Int}
theorem fnU_ok (e : fnU K f = some (x, qual, defArgs st, .stmts (defBody st), defScope st, mainGlobals, builtinsNs)) : ∃ oc od osl cl dV kV doc pm an cdv ct, K.lookup f = some ⟨oc, od, .func ⟨x, qual, defArgs st, .stmts (defBody st), defScope st, mainGlobals, cl, dV, kV, doc, pm, an, cdv, ct, builtinsNs⟩, osl⟩ := by
  unfold fnU at e
  split at e
  · rename_i oc od fd osl h
    obtain ⟨n1, n2, n3, n4, n5, n6, n7, n8, n9, n10, n11, n12, n13, n14, n15⟩ := fd
    have eu : (some (n1, n2, n3, n4, n5, n6, n15) : FnU) = some (x, qual, defArgs st, .stmts (defBody st), defScope st, mainGlobals, builtinsNs) := e
    simp only [Prod.mk.injEq, Option.some.injEq] at eu
    obtain ⟨u1, u2, u3, u4, u5, u6, u7⟩ := eu
    subst u1 u2 u3 u4 u5 u6 u7
    exact ⟨oc, od, osl, n7, n8, n9, n10, n11, n12, n13, n14, h⟩
  · cases e
theorem and2 {a b : Bool} (h : (a && b) = true) : a = true ∧ b = true := Bool.and_eq_true_iff.mp h
theorem fun_of (e : fnU K f = some (x, qual, defArgs st, .stmts (defBody st), defScope st, mainGlobals, builtinsNs)) (c : ckFn K f qual = true) : ∃ fd, Fun K x qual st f fd := by
  obtain ⟨oc, od, osl, cl, dV, kV, doc, pm, an, cdv, ct, l⟩ := fnU_ok e
  obtain ⟨k, c⟩ := and2 c
  rw [l] at c
  obtain ⟨c1, c⟩ := and2 (show (cl.isEmpty && (isNon dV && PySem.W.codeIn K cdv qual)) = true from c)
  obtain ⟨c2, c3⟩ := and2 c
  obtain rfl := List.isEmpty_iff.mp c1
  obtain rfl := isNon_ok c2
  exact ⟨_, ⟨oc, od, kV, doc, pm, an, cdv, ct, osl, rfl, l, c3⟩, k⟩
theorem funI_of (e : fnU K f = some (x, qual, defArgs st, .stmts (defBody st), defScope st, mainGlobals, builtinsNs)) (c : ckFnI K f qual i = true) : ∃ fd, FunD K x qual (defArgs st) (defBody st) (defScope st) [.int i] [] f fd := by
  obtain ⟨oc, od, osl, cl, dV, kV, doc, pm, an, cdv, ct, l⟩ := fnU_ok e
  obtain ⟨k, c⟩ := and2 c
  rw [l] at c
  obtain ⟨c1, c⟩ := and2 c
  obtain ⟨c2, c3⟩ := and2 c
  obtain rfl := List.isEmpty_iff.mp c1
  refine ⟨_, ⟨oc, od, dV, kV, doc, pm, an, cdv, ct, osl, rfl, l, c2, ?_, .inl rfl⟩, k⟩
  cases dV with
  | ref T =>
    have c4 : ckDflT i (K.lookup T) = true := c3
    cases lT : K.lookup T with
    | none =>
      rw [lT] at c4
      cases c4
    | some o =>
      obtain ⟨o1, o2, o3, o4⟩ := o
      rw [lT] at c4
      cases o3 with
      | seq its n =>
        have c5 : ckDflL i its.toList = true := c4
        refine .inr ⟨by simp, T, _, its.toList, n, rfl, lT, by simp, ?_⟩
        match hl : its.toList, c5 with
        | [u], c6 =>
          refine .cons ?_ .nil
          have c7 : intV i u = true := c6
          cases u with
          | int j t => exact ⟨t, by rw [of_decide_eq_true c7]⟩
          | _ => cases c7
      | _ => cases c4
  | _ => cases c3
end
end L2.DS
namespace L2.DS
open PySem PySem.Spec PyProof.Rows
def topH (i : Nat) : Stmt := PySem.Challenge.pw_deedscale_k06_bad_scales.main.body.getD i (.Pass ⟨0, 0, 0, 0⟩)
def dfsH : List Df := ([⟨fun K => He.ma K (He.ga K "Scale") "__init__", "__init__", "Scale.__init__", inClass (topH 7) 0⟩, ⟨fun K => He.ga K "cut_down", "cut_down", "cut_down", topH 17⟩, ⟨fun K => He.ga K "number_name", "number_name", "number_name", topH 18⟩, ⟨fun K => He.ga K "digits_of", "digits_of", "digits_of", topH 19⟩, ⟨fun K => He.ga K "is_table_name", "is_table_name", "is_table_name", topH 8⟩, ⟨fun K => He.ga K "table_places", "table_places", "table_places", topH 9⟩, ⟨fun K => He.ga K "depth_above", "depth_above", "depth_above", topH 22⟩, ⟨fun K => He.ga K "half_places", "half_places", "half_places", topH 24⟩, ⟨fun K => He.ma K (He.ga K "TableScale") "then_at", "then_at", "Scale.then_at", inClass (topH 7) 3⟩, ⟨fun K => He.ma K (He.ga K "TableScale") "join_at", "join_at", "Scale.join_at", inClass (topH 7) 4⟩, ⟨fun K => He.ma K (He.ga K "TableScale") "name_at", "name_at", "Scale.name_at", inClass (topH 7) 6⟩, ⟨fun K => He.ma K (He.ga K "TableScale") "make_then", "make_then", "TableScale.make_then", inClass (topH 10) 1⟩, ⟨fun K => He.ma K (He.ga K "TableScale") "make_join", "make_join", "TableScale.make_join", inClass (topH 10) 2⟩, ⟨fun K => He.ma K (He.ga K "PairScale") "make_then", "make_then", "PairScale.make_then", inClass (topH 23) 1⟩, ⟨fun K => He.ma K (He.ga K "PairScale") "make_join", "make_join", "PairScale.make_join", inClass (topH 23) 2⟩, ⟨fun K => He.ma K (He.ga K "TurnedScale") "make_then", "make_then", "TurnedScale.make_then", inClass (topH 25) 1⟩, ⟨fun K => He.ma K (He.ga K "TurnedScale") "make_join", "make_join", "TurnedScale.make_join", inClass (topH 25) 2⟩, ⟨fun K => He.ma K (He.ga K "CountScale") "behind", "behind", "CountScale.behind", inClass (topH 13) 1⟩, ⟨fun K => He.ma K (He.ga K "CountScale") "either", "either", "CountScale.either", inClass (topH 13) 2⟩, ⟨fun K => He.ma K (He.ga K "CountScale") "make_then", "make_then", "WithNever.make_then", inClass (topH 12) 1⟩, ⟨fun K => He.ma K (He.ga K "CountScale") "make_join", "make_join", "WithNever.make_join", inClass (topH 12) 2⟩, ⟨fun K => He.ma K (He.ga K "SpanScale") "behind", "behind", "SpanScale.behind", inClass (topH 14) 1⟩, ⟨fun K => He.ma K (He.ga K "SpanScale") "either", "either", "SpanScale.either", inClass (topH 14) 2⟩, ⟨fun K => He.ma K (He.ga K "WatchScale") "arrows", "arrows", "WatchScale.arrows", inClass (topH 16) 1⟩, ⟨fun K => He.ma K (He.ga K "WatchScale") "make_then", "make_then", "WatchScale.make_then", inClass (topH 16) 2⟩, ⟨fun K => He.ma K (He.ga K "WatchScale") "make_join", "make_join", "WatchScale.make_join", inClass (topH 16) 3⟩, ⟨fun K => He.ma K (He.ga K "SetScale") "behind", "behind", "SetScale.behind", inClass (topH 15) 1⟩, ⟨fun K => He.ma K (He.ga K "SetScale") "either", "either", "SetScale.either", inClass (topH 15) 2⟩, ⟨fun K => He.ma K (He.ga K "HeapScale") "make_then", "make_then", "HeapScale.make_then", inClass (topH 26) 1⟩, ⟨fun K => He.ma K (He.ga K "HeapScale") "make_join", "make_join", "HeapScale.make_join", inClass (topH 26) 2⟩] : List Df) ++ ([⟨fun K => He.ma K (He.ga K "WithNever") "__init__", "__init__", "WithNever.__init__", inClass (topH 12) 0⟩, ⟨fun K => He.ma K (He.ga K "TableScale") "__init__", "__init__", "TableScale.__init__", inClass (topH 10) 0⟩, ⟨fun K => He.ma K (He.ga K "PairScale") "__init__", "__init__", "PairScale.__init__", inClass (topH 23) 0⟩, ⟨fun K => He.ma K (He.ga K "TurnedScale") "__init__", "__init__", "TurnedScale.__init__", inClass (topH 25) 0⟩, ⟨fun K => He.ma K (He.ga K "CountScale") "__init__", "__init__", "CountScale.__init__", inClass (topH 13) 0⟩, ⟨fun K => He.ma K (He.ga K "SpanScale") "__init__", "__init__", "SpanScale.__init__", inClass (topH 14) 0⟩, ⟨fun K => He.ma K (He.ga K "WatchScale") "__init__", "__init__", "WatchScale.__init__", inClass (topH 16) 0⟩, ⟨fun K => He.ma K (He.ga K "SetScale") "__init__", "__init__", "SetScale.__init__", inClass (topH 15) 0⟩, ⟨fun K => He.ma K (He.ga K "HeapScale") "__init__", "__init__", "HeapScale.__init__", inClass (topH 26) 0⟩, ⟨fun K => He.ga K "_law_source", "_law_source", "_law_source", topH 28⟩, ⟨fun K => He.ga K "_law_pick", "_law_pick", "_law_pick", topH 29⟩, ⟨fun K => He.ga K "_law_like", "_law_like", "_law_like", topH 30⟩, ⟨fun K => He.ga K "_law_number", "_law_number", "_law_number", topH 31⟩, ⟨fun K => He.ga K "_law_family_size", "_law_family_size", "_law_family_size", topH 32⟩, ⟨fun K => He.ga K "_law_family", "_law_family", "_law_family", topH 33⟩, ⟨fun K => He.ga K "_law_around", "_law_around", "_law_around", topH 34⟩, ⟨fun K => He.ga K "_law_due", "_law_due", "_law_due", topH 35⟩, ⟨fun K => He.ga K "_law_deep_right", "_law_deep_right", "_law_deep_right", topH 36⟩, ⟨fun K => He.ga K "law", "law", "law", topH 37⟩] : List Df)
def ckH0 (K : Fg) : Bool := ckFnI K (He.ma K (He.ga K "Scale") "__init__") "Scale.__init__" 1 && (ckFn K (He.ga K "cut_down") "cut_down" && (ckFn K (He.ga K "number_name") "number_name" && (ckFn K (He.ga K "digits_of") "digits_of" && (ckFn K (He.ga K "is_table_name") "is_table_name" && (ckFn K (He.ga K "table_places") "table_places" && (ckFn K (He.ga K "depth_above") "depth_above" && (ckFn K (He.ga K "half_places") "half_places" && (ckFn K (He.ma K (He.ga K "TableScale") "then_at") "Scale.then_at" && (ckFn K (He.ma K (He.ga K "TableScale") "join_at") "Scale.join_at" && (ckFn K (He.ma K (He.ga K "TableScale") "name_at") "Scale.name_at" && (ckFn K (He.ma K (He.ga K "TableScale") "make_then") "TableScale.make_then")))))))))))
def ckH1 (K : Fg) : Bool := ckFn K (He.ma K (He.ga K "TableScale") "make_join") "TableScale.make_join" && (ckFn K (He.ma K (He.ga K "PairScale") "make_then") "PairScale.make_then" && (ckFn K (He.ma K (He.ga K "PairScale") "make_join") "PairScale.make_join" && (ckFn K (He.ma K (He.ga K "TurnedScale") "make_then") "TurnedScale.make_then" && (ckFn K (He.ma K (He.ga K "TurnedScale") "make_join") "TurnedScale.make_join" && (ckFn K (He.ma K (He.ga K "CountScale") "behind") "CountScale.behind" && (ckFn K (He.ma K (He.ga K "CountScale") "either") "CountScale.either" && (ckFn K (He.ma K (He.ga K "CountScale") "make_then") "WithNever.make_then" && (ckFn K (He.ma K (He.ga K "CountScale") "make_join") "WithNever.make_join" && (ckFn K (He.ma K (He.ga K "SpanScale") "behind") "SpanScale.behind" && (ckFn K (He.ma K (He.ga K "SpanScale") "either") "SpanScale.either" && (ckFn K (He.ma K (He.ga K "WatchScale") "arrows") "WatchScale.arrows")))))))))))
def ckH2 (K : Fg) : Bool := ckFn K (He.ma K (He.ga K "WatchScale") "make_then") "WatchScale.make_then" && (ckFn K (He.ma K (He.ga K "WatchScale") "make_join") "WatchScale.make_join" && (ckFn K (He.ma K (He.ga K "SetScale") "behind") "SetScale.behind" && (ckFn K (He.ma K (He.ga K "SetScale") "either") "SetScale.either" && (ckFn K (He.ma K (He.ga K "HeapScale") "make_then") "HeapScale.make_then" && (ckFn K (He.ma K (He.ga K "HeapScale") "make_join") "HeapScale.make_join" && (ckSup PySem.Challenge.pw_deedscale_k06_bad_scales.main.file K (He.ma K (He.ga K "WithNever") "__init__") (He.ga K "WithNever") "WithNever.__init__" && (ckSup PySem.Challenge.pw_deedscale_k06_bad_scales.main.file K (He.ma K (He.ga K "TableScale") "__init__") (He.ga K "TableScale") "TableScale.__init__" && (ckSup PySem.Challenge.pw_deedscale_k06_bad_scales.main.file K (He.ma K (He.ga K "PairScale") "__init__") (He.ga K "PairScale") "PairScale.__init__" && (ckSup PySem.Challenge.pw_deedscale_k06_bad_scales.main.file K (He.ma K (He.ga K "TurnedScale") "__init__") (He.ga K "TurnedScale") "TurnedScale.__init__" && (ckSup PySem.Challenge.pw_deedscale_k06_bad_scales.main.file K (He.ma K (He.ga K "CountScale") "__init__") (He.ga K "CountScale") "CountScale.__init__" && (ckKw K (He.ma K (He.ga K "CountScale") "__init__") "order" "up")))))))))))
def ckH3 (K : Fg) : Bool := ckSup PySem.Challenge.pw_deedscale_k06_bad_scales.main.file K (He.ma K (He.ga K "SpanScale") "__init__") (He.ga K "SpanScale") "SpanScale.__init__" && (ckSup PySem.Challenge.pw_deedscale_k06_bad_scales.main.file K (He.ma K (He.ga K "WatchScale") "__init__") (He.ga K "WatchScale") "WatchScale.__init__" && (ckSup PySem.Challenge.pw_deedscale_k06_bad_scales.main.file K (He.ma K (He.ga K "SetScale") "__init__") (He.ga K "SetScale") "SetScale.__init__" && (ckKw K (He.ma K (He.ga K "SetScale") "__init__") "join" "may" && (ckSup PySem.Challenge.pw_deedscale_k06_bad_scales.main.file K (He.ma K (He.ga K "HeapScale") "__init__") (He.ga K "HeapScale") "HeapScale.__init__" && (ckFn K (He.ga K "_law_source") "_law_source" && (ckFn K (He.ga K "_law_pick") "_law_pick" && (ckFn K (He.ga K "_law_like") "_law_like" && (ckFn K (He.ga K "_law_number") "_law_number" && (ckFn K (He.ga K "_law_family_size") "_law_family_size" && (ckFn K (He.ga K "_law_family") "_law_family" && (ckFn K (He.ga K "_law_around") "_law_around")))))))))))
def ckH4 (K : Fg) : Bool := ckFn K (He.ga K "_law_due") "_law_due" && (ckFn K (He.ga K "_law_deep_right") "_law_deep_right" && (ckFn K (He.ga K "law") "law" && (decide (PySem.W.nsIn K mainGlobals "int" = some none) && (decide (PySem.W.nsIn K mainGlobals "abs" = some none) && (decide (PySem.W.nsIn K mainGlobals "range" = some none) && (decide (PySem.W.nsIn K mainGlobals "len" = some none) && (decide (PySem.W.nsIn K mainGlobals "isinstance" = some none) && (decide (PySem.W.nsIn K mainGlobals "bool" = some none) && (decide (PySem.W.nsIn K mainGlobals "str" = some none) && (decide (PySem.W.nsIn K mainGlobals "list" = some none) && (decide (PySem.W.nsIn K mainGlobals "tuple" = some none))))))))))))
def ckH5 (K : Fg) : Bool := decide (PySem.W.nsIn K mainGlobals "dict" = some none) && (decide (PySem.W.nsIn K mainGlobals "enumerate" = some none) && (decide (PySem.W.nsIn K mainGlobals "zip" = some none) && (decide (PySem.W.nsIn K mainGlobals "reversed" = some none) && (decide (PySem.W.nsIn K mainGlobals "ValueError" = some none) && (decide (PySem.W.nsIn K mainGlobals "LookupError" = some none) && (decide (PySem.W.nsIn K mainGlobals "KeyError" = some none) && (decide (PySem.W.nsIn K mainGlobals "Exception" = some none) && (decide (PySem.W.nsIn K mainGlobals "super" = some none) && (decide (PySem.W.nsIn K mainGlobals "sum" = some none) && (decide (PySem.W.nsIn K mainGlobals "any" = some none) && (decide (PySem.W.nsIn K mainGlobals "all" = some none))))))))))))
def ckH6 (K : Fg) : Bool := decide (PySem.W.nsIn K mainGlobals "sorted" = some none) && (decide (PySem.W.nsIn K mainGlobals "max" = some none) && (decide (PySem.W.nsIn K mainGlobals "min" = some none) && (decide (PySem.W.nsIn K mainGlobals "NotImplementedError" = some none) && (decide (PySem.W.nsIn K mainGlobals "set" = some none) && (decide (PySem.W.nsIn K mainGlobals "repr" = some none) && (decide (PySem.W.nsIn K cStatics "thirdparty.any" = some none) && (decide (PySem.W.nsIn K mainGlobals "Scale" = some (some (.ref (He.ga K "Scale")))) && (decide (PySem.W.nsIn K mainGlobals "WithNever" = some (some (.ref (He.ga K "WithNever")))) && (decide (PySem.W.nsIn K mainGlobals "TableScale" = some (some (.ref (He.ga K "TableScale")))) && (decide (PySem.W.nsIn K mainGlobals "PairScale" = some (some (.ref (He.ga K "PairScale")))) && (decide (PySem.W.nsIn K mainGlobals "TurnedScale" = some (some (.ref (He.ga K "TurnedScale")))))))))))))))
def ckH7 (K : Fg) : Bool := decide (PySem.W.nsIn K mainGlobals "CountScale" = some (some (.ref (He.ga K "CountScale")))) && (decide (PySem.W.nsIn K mainGlobals "SpanScale" = some (some (.ref (He.ga K "SpanScale")))) && (decide (PySem.W.nsIn K mainGlobals "WatchScale" = some (some (.ref (He.ga K "WatchScale")))) && (decide (PySem.W.nsIn K mainGlobals "SetScale" = some (some (.ref (He.ga K "SetScale")))) && (decide (PySem.W.nsIn K mainGlobals "HeapScale" = some (some (.ref (He.ga K "HeapScale")))) && ((PySem.W.plainGet K (He.ga K "TableScale") Str.empty) && ((PySem.W.hasDictIn K (He.ga K "TableScale")) && ((PySem.W.plainOver K (He.ga K "TableScale")) && (decide (PySem.W.findIn K (.ref (He.ga K "TableScale")) "__setattr__" = some (some (.builtin "object.__setattr__"))) && (decide (PySem.W.findIn K (.ref (He.ga K "TableScale")) "written_joins" = some none) && (decide (PySem.W.findIn K (.ref (He.ga K "TableScale")) "written_products" = some none) && (decide (PySem.W.findIn K (.ref (He.ga K "TableScale")) "label" = some none))))))))))))
def ckH8 (K : Fg) : Bool := decide (PySem.W.findIn K (.ref (He.ga K "TableScale")) "size" = some none) && (decide (PySem.W.findIn K (.ref (He.ga K "TableScale")) "never_at" = some none) && (decide (PySem.W.findIn K (.ref (He.ga K "TableScale")) "still_at" = some none) && (decide (PySem.W.findIn K (.ref (He.ga K "TableScale")) "depth" = some none) && (decide (PySem.W.findIn K (.ref (He.ga K "TableScale")) "worth_names" = some none) && (decide (PySem.W.findIn K (.ref (He.ga K "TableScale")) "worth_places" = some none) && (decide (PySem.W.findIn K (.ref (He.ga K "TableScale")) "product_table" = some none) && (decide (PySem.W.findIn K (.ref (He.ga K "TableScale")) "join_table" = some none) && ((PySem.W.plainGet K (He.ga K "PairScale") Str.empty) && ((PySem.W.hasDictIn K (He.ga K "PairScale")) && ((PySem.W.plainOver K (He.ga K "PairScale")) && (decide (PySem.W.findIn K (.ref (He.ga K "PairScale")) "__setattr__" = some (some (.builtin "object.__setattr__"))))))))))))))
def ckH9 (K : Fg) : Bool := decide (PySem.W.findIn K (.ref (He.ga K "PairScale")) "left" = some none) && (decide (PySem.W.findIn K (.ref (He.ga K "PairScale")) "right" = some none) && (decide (PySem.W.findIn K (.ref (He.ga K "PairScale")) "label" = some none) && (decide (PySem.W.findIn K (.ref (He.ga K "PairScale")) "size" = some none) && (decide (PySem.W.findIn K (.ref (He.ga K "PairScale")) "never_at" = some none) && (decide (PySem.W.findIn K (.ref (He.ga K "PairScale")) "still_at" = some none) && (decide (PySem.W.findIn K (.ref (He.ga K "PairScale")) "depth" = some none) && (decide (PySem.W.findIn K (.ref (He.ga K "PairScale")) "worth_names" = some none) && (decide (PySem.W.findIn K (.ref (He.ga K "PairScale")) "worth_places" = some none) && (decide (PySem.W.findIn K (.ref (He.ga K "PairScale")) "product_table" = some none) && (decide (PySem.W.findIn K (.ref (He.ga K "PairScale")) "join_table" = some none) && ((PySem.W.plainGet K (He.ga K "TurnedScale") Str.empty))))))))))))
def ckH10 (K : Fg) : Bool := (PySem.W.hasDictIn K (He.ga K "TurnedScale")) && ((PySem.W.plainOver K (He.ga K "TurnedScale")) && (decide (PySem.W.findIn K (.ref (He.ga K "TurnedScale")) "__setattr__" = some (some (.builtin "object.__setattr__"))) && (decide (PySem.W.findIn K (.ref (He.ga K "TurnedScale")) "inner" = some none) && (decide (PySem.W.findIn K (.ref (He.ga K "TurnedScale")) "label" = some none) && (decide (PySem.W.findIn K (.ref (He.ga K "TurnedScale")) "size" = some none) && (decide (PySem.W.findIn K (.ref (He.ga K "TurnedScale")) "never_at" = some none) && (decide (PySem.W.findIn K (.ref (He.ga K "TurnedScale")) "still_at" = some none) && (decide (PySem.W.findIn K (.ref (He.ga K "TurnedScale")) "depth" = some none) && (decide (PySem.W.findIn K (.ref (He.ga K "TurnedScale")) "worth_names" = some none) && (decide (PySem.W.findIn K (.ref (He.ga K "TurnedScale")) "worth_places" = some none) && (decide (PySem.W.findIn K (.ref (He.ga K "TurnedScale")) "product_table" = some none))))))))))))
def ckH11 (K : Fg) : Bool := decide (PySem.W.findIn K (.ref (He.ga K "TurnedScale")) "join_table" = some none) && ((PySem.W.plainGet K (He.ga K "CountScale") Str.empty) && ((PySem.W.hasDictIn K (He.ga K "CountScale")) && ((PySem.W.plainOver K (He.ga K "CountScale")) && (decide (PySem.W.findIn K (.ref (He.ga K "CountScale")) "__setattr__" = some (some (.builtin "object.__setattr__"))) && (decide (PySem.W.findIn K (.ref (He.ga K "CountScale")) "most" = some none) && (decide (PySem.W.findIn K (.ref (He.ga K "CountScale")) "rising" = some none) && (decide (PySem.W.findIn K (.ref (He.ga K "CountScale")) "contents" = some none) && (decide (PySem.W.findIn K (.ref (He.ga K "CountScale")) "label" = some none) && (decide (PySem.W.findIn K (.ref (He.ga K "CountScale")) "size" = some none) && (decide (PySem.W.findIn K (.ref (He.ga K "CountScale")) "never_at" = some none) && (decide (PySem.W.findIn K (.ref (He.ga K "CountScale")) "still_at" = some none))))))))))))
def ckH12 (K : Fg) : Bool := decide (PySem.W.findIn K (.ref (He.ga K "CountScale")) "depth" = some none) && (decide (PySem.W.findIn K (.ref (He.ga K "CountScale")) "worth_names" = some none) && (decide (PySem.W.findIn K (.ref (He.ga K "CountScale")) "worth_places" = some none) && (decide (PySem.W.findIn K (.ref (He.ga K "CountScale")) "product_table" = some none) && (decide (PySem.W.findIn K (.ref (He.ga K "CountScale")) "join_table" = some none) && ((PySem.W.plainGet K (He.ga K "SpanScale") Str.empty) && ((PySem.W.hasDictIn K (He.ga K "SpanScale")) && ((PySem.W.plainOver K (He.ga K "SpanScale")) && (decide (PySem.W.findIn K (.ref (He.ga K "SpanScale")) "__setattr__" = some (some (.builtin "object.__setattr__"))) && (decide (PySem.W.findIn K (.ref (He.ga K "SpanScale")) "most" = some none) && (decide (PySem.W.findIn K (.ref (He.ga K "SpanScale")) "contents" = some none) && (decide (PySem.W.findIn K (.ref (He.ga K "SpanScale")) "label" = some none))))))))))))
def ckH13 (K : Fg) : Bool := decide (PySem.W.findIn K (.ref (He.ga K "SpanScale")) "size" = some none) && (decide (PySem.W.findIn K (.ref (He.ga K "SpanScale")) "never_at" = some none) && (decide (PySem.W.findIn K (.ref (He.ga K "SpanScale")) "still_at" = some none) && (decide (PySem.W.findIn K (.ref (He.ga K "SpanScale")) "depth" = some none) && (decide (PySem.W.findIn K (.ref (He.ga K "SpanScale")) "worth_names" = some none) && (decide (PySem.W.findIn K (.ref (He.ga K "SpanScale")) "worth_places" = some none) && (decide (PySem.W.findIn K (.ref (He.ga K "SpanScale")) "product_table" = some none) && (decide (PySem.W.findIn K (.ref (He.ga K "SpanScale")) "join_table" = some none) && ((PySem.W.plainGet K (He.ga K "WatchScale") Str.empty) && ((PySem.W.hasDictIn K (He.ga K "WatchScale")) && ((PySem.W.plainOver K (He.ga K "WatchScale")) && (decide (PySem.W.findIn K (.ref (He.ga K "WatchScale")) "__setattr__" = some (some (.builtin "object.__setattr__"))))))))))))))
def ckH14 (K : Fg) : Bool := decide (PySem.W.findIn K (.ref (He.ga K "WatchScale")) "states" = some none) && (decide (PySem.W.findIn K (.ref (He.ga K "WatchScale")) "label" = some none) && (decide (PySem.W.findIn K (.ref (He.ga K "WatchScale")) "size" = some none) && (decide (PySem.W.findIn K (.ref (He.ga K "WatchScale")) "never_at" = some none) && (decide (PySem.W.findIn K (.ref (He.ga K "WatchScale")) "still_at" = some none) && (decide (PySem.W.findIn K (.ref (He.ga K "WatchScale")) "depth" = some none) && (decide (PySem.W.findIn K (.ref (He.ga K "WatchScale")) "worth_names" = some none) && (decide (PySem.W.findIn K (.ref (He.ga K "WatchScale")) "worth_places" = some none) && (decide (PySem.W.findIn K (.ref (He.ga K "WatchScale")) "product_table" = some none) && (decide (PySem.W.findIn K (.ref (He.ga K "WatchScale")) "join_table" = some none) && ((PySem.W.plainGet K (He.ga K "SetScale") Str.empty) && ((PySem.W.hasDictIn K (He.ga K "SetScale")))))))))))))
def ckH15 (K : Fg) : Bool := (PySem.W.plainOver K (He.ga K "SetScale")) && (decide (PySem.W.findIn K (.ref (He.ga K "SetScale")) "__setattr__" = some (some (.builtin "object.__setattr__"))) && (decide (PySem.W.findIn K (.ref (He.ga K "SetScale")) "loose" = some none) && (decide (PySem.W.findIn K (.ref (He.ga K "SetScale")) "contents" = some none) && (decide (PySem.W.findIn K (.ref (He.ga K "SetScale")) "label" = some none) && (decide (PySem.W.findIn K (.ref (He.ga K "SetScale")) "size" = some none) && (decide (PySem.W.findIn K (.ref (He.ga K "SetScale")) "never_at" = some none) && (decide (PySem.W.findIn K (.ref (He.ga K "SetScale")) "still_at" = some none) && (decide (PySem.W.findIn K (.ref (He.ga K "SetScale")) "depth" = some none) && (decide (PySem.W.findIn K (.ref (He.ga K "SetScale")) "worth_names" = some none) && (decide (PySem.W.findIn K (.ref (He.ga K "SetScale")) "worth_places" = some none) && (decide (PySem.W.findIn K (.ref (He.ga K "SetScale")) "product_table" = some none))))))))))))
def ckH16 (K : Fg) : Bool := decide (PySem.W.findIn K (.ref (He.ga K "SetScale")) "join_table" = some none) && ((PySem.W.plainGet K (He.ga K "HeapScale") Str.empty) && ((PySem.W.hasDictIn K (He.ga K "HeapScale")) && ((PySem.W.plainOver K (He.ga K "HeapScale")) && (decide (PySem.W.findIn K (.ref (He.ga K "HeapScale")) "__setattr__" = some (some (.builtin "object.__setattr__"))) && (decide (PySem.W.findIn K (.ref (He.ga K "HeapScale")) "inner" = some none) && (decide (PySem.W.findIn K (.ref (He.ga K "HeapScale")) "heaps" = some none) && (decide (PySem.W.findIn K (.ref (He.ga K "HeapScale")) "label" = some none) && (decide (PySem.W.findIn K (.ref (He.ga K "HeapScale")) "size" = some none) && (decide (PySem.W.findIn K (.ref (He.ga K "HeapScale")) "never_at" = some none) && (decide (PySem.W.findIn K (.ref (He.ga K "HeapScale")) "still_at" = some none) && (decide (PySem.W.findIn K (.ref (He.ga K "HeapScale")) "depth" = some none))))))))))))
def ckH17 (K : Fg) : Bool := decide (PySem.W.findIn K (.ref (He.ga K "HeapScale")) "worth_names" = some none) && (decide (PySem.W.findIn K (.ref (He.ga K "HeapScale")) "worth_places" = some none) && (decide (PySem.W.findIn K (.ref (He.ga K "HeapScale")) "product_table" = some none) && (decide (PySem.W.findIn K (.ref (He.ga K "HeapScale")) "join_table" = some none) && (decide (PySem.W.findIn K (.ref (He.ga K "Scale")) "__init__" = some (some (.ref (He.ma K (He.ga K "Scale") "__init__")))) && ((PySem.W.fnIn K (He.ma K (He.ga K "Scale") "__init__")) && (decide (PySem.W.typeIn K (.ref (He.ma K (He.ga K "Scale") "__init__")) = some (.type "function")) && (ckInt K "MOST_WORTHS" 64 && (decide (PySem.W.nsIn K mainGlobals "cut_down" = some (some (.ref (He.ga K "cut_down")))) && (decide (PySem.W.nsIn K mainGlobals "number_name" = some (some (.ref (He.ga K "number_name")))) && (decide (PySem.W.nsIn K mainGlobals "digits_of" = some (some (.ref (He.ga K "digits_of")))) && (ckStr K "SIGNS" "abcdefghijklmnopqrstuvwxyz0123456789")))))))))))
def ckH18 (K : Fg) : Bool := decide (PySem.W.nsIn K mainGlobals "is_table_name" = some (some (.ref (He.ga K "is_table_name")))) && (decide (PySem.W.nsIn K mainGlobals "table_places" = some (some (.ref (He.ga K "table_places")))) && (ckInt K "DEEPEST" 10 && (decide (PySem.W.nsIn K mainGlobals "depth_above" = some (some (.ref (He.ga K "depth_above")))) && (decide (PySem.W.nsIn K mainGlobals "half_places" = some (some (.ref (He.ga K "half_places")))) && (decide (PySem.W.findIn K (.ref (He.ga K "TableScale")) "then_at" = some (some (.ref (He.ma K (He.ga K "TableScale") "then_at")))) && ((PySem.W.isFn K (.ref (He.ma K (He.ga K "TableScale") "then_at"))) && (decide (PySem.W.findIn K (.ref (He.ga K "PairScale")) "then_at" = some (some (.ref (He.ma K (He.ga K "TableScale") "then_at")))) && (decide (PySem.W.findIn K (.ref (He.ga K "TurnedScale")) "then_at" = some (some (.ref (He.ma K (He.ga K "TableScale") "then_at")))) && (decide (PySem.W.findIn K (.ref (He.ga K "CountScale")) "then_at" = some (some (.ref (He.ma K (He.ga K "TableScale") "then_at")))) && (decide (PySem.W.findIn K (.ref (He.ga K "SpanScale")) "then_at" = some (some (.ref (He.ma K (He.ga K "TableScale") "then_at")))) && (decide (PySem.W.findIn K (.ref (He.ga K "WatchScale")) "then_at" = some (some (.ref (He.ma K (He.ga K "TableScale") "then_at")))))))))))))))
def ckH19 (K : Fg) : Bool := decide (PySem.W.findIn K (.ref (He.ga K "SetScale")) "then_at" = some (some (.ref (He.ma K (He.ga K "TableScale") "then_at")))) && (decide (PySem.W.findIn K (.ref (He.ga K "HeapScale")) "then_at" = some (some (.ref (He.ma K (He.ga K "TableScale") "then_at")))) && (decide (PySem.W.findIn K (.ref (He.ga K "TableScale")) "join_at" = some (some (.ref (He.ma K (He.ga K "TableScale") "join_at")))) && ((PySem.W.isFn K (.ref (He.ma K (He.ga K "TableScale") "join_at"))) && (decide (PySem.W.findIn K (.ref (He.ga K "PairScale")) "join_at" = some (some (.ref (He.ma K (He.ga K "TableScale") "join_at")))) && (decide (PySem.W.findIn K (.ref (He.ga K "TurnedScale")) "join_at" = some (some (.ref (He.ma K (He.ga K "TableScale") "join_at")))) && (decide (PySem.W.findIn K (.ref (He.ga K "CountScale")) "join_at" = some (some (.ref (He.ma K (He.ga K "TableScale") "join_at")))) && (decide (PySem.W.findIn K (.ref (He.ga K "SpanScale")) "join_at" = some (some (.ref (He.ma K (He.ga K "TableScale") "join_at")))) && (decide (PySem.W.findIn K (.ref (He.ga K "WatchScale")) "join_at" = some (some (.ref (He.ma K (He.ga K "TableScale") "join_at")))) && (decide (PySem.W.findIn K (.ref (He.ga K "SetScale")) "join_at" = some (some (.ref (He.ma K (He.ga K "TableScale") "join_at")))) && (decide (PySem.W.findIn K (.ref (He.ga K "HeapScale")) "join_at" = some (some (.ref (He.ma K (He.ga K "TableScale") "join_at")))) && (decide (PySem.W.findIn K (.ref (He.ga K "TableScale")) "name_at" = some (some (.ref (He.ma K (He.ga K "TableScale") "name_at")))))))))))))))
def ckH20 (K : Fg) : Bool := (PySem.W.isFn K (.ref (He.ma K (He.ga K "TableScale") "name_at"))) && (decide (PySem.W.findIn K (.ref (He.ga K "PairScale")) "name_at" = some (some (.ref (He.ma K (He.ga K "TableScale") "name_at")))) && (decide (PySem.W.findIn K (.ref (He.ga K "TurnedScale")) "name_at" = some (some (.ref (He.ma K (He.ga K "TableScale") "name_at")))) && (decide (PySem.W.findIn K (.ref (He.ga K "CountScale")) "name_at" = some (some (.ref (He.ma K (He.ga K "TableScale") "name_at")))) && (decide (PySem.W.findIn K (.ref (He.ga K "SpanScale")) "name_at" = some (some (.ref (He.ma K (He.ga K "TableScale") "name_at")))) && (decide (PySem.W.findIn K (.ref (He.ga K "WatchScale")) "name_at" = some (some (.ref (He.ma K (He.ga K "TableScale") "name_at")))) && (decide (PySem.W.findIn K (.ref (He.ga K "SetScale")) "name_at" = some (some (.ref (He.ma K (He.ga K "TableScale") "name_at")))) && (decide (PySem.W.findIn K (.ref (He.ga K "HeapScale")) "name_at" = some (some (.ref (He.ma K (He.ga K "TableScale") "name_at")))) && (decide (PySem.W.findIn K (.ref (He.ga K "TableScale")) "make_then" = some (some (.ref (He.ma K (He.ga K "TableScale") "make_then")))) && ((PySem.W.isFn K (.ref (He.ma K (He.ga K "TableScale") "make_then"))) && (decide (PySem.W.findIn K (.ref (He.ga K "TableScale")) "make_join" = some (some (.ref (He.ma K (He.ga K "TableScale") "make_join")))) && ((PySem.W.isFn K (.ref (He.ma K (He.ga K "TableScale") "make_join"))))))))))))))
def ckH21 (K : Fg) : Bool := decide (PySem.W.findIn K (.ref (He.ga K "PairScale")) "make_then" = some (some (.ref (He.ma K (He.ga K "PairScale") "make_then")))) && ((PySem.W.isFn K (.ref (He.ma K (He.ga K "PairScale") "make_then"))) && (decide (PySem.W.findIn K (.ref (He.ga K "PairScale")) "make_join" = some (some (.ref (He.ma K (He.ga K "PairScale") "make_join")))) && ((PySem.W.isFn K (.ref (He.ma K (He.ga K "PairScale") "make_join"))) && (decide (PySem.W.findIn K (.ref (He.ga K "TurnedScale")) "make_then" = some (some (.ref (He.ma K (He.ga K "TurnedScale") "make_then")))) && ((PySem.W.isFn K (.ref (He.ma K (He.ga K "TurnedScale") "make_then"))) && (decide (PySem.W.findIn K (.ref (He.ga K "TurnedScale")) "make_join" = some (some (.ref (He.ma K (He.ga K "TurnedScale") "make_join")))) && ((PySem.W.isFn K (.ref (He.ma K (He.ga K "TurnedScale") "make_join"))) && (decide (PySem.W.findIn K (.ref (He.ga K "CountScale")) "behind" = some (some (.ref (He.ma K (He.ga K "CountScale") "behind")))) && ((PySem.W.isFn K (.ref (He.ma K (He.ga K "CountScale") "behind"))) && (decide (PySem.W.findIn K (.ref (He.ga K "CountScale")) "either" = some (some (.ref (He.ma K (He.ga K "CountScale") "either")))) && ((PySem.W.isFn K (.ref (He.ma K (He.ga K "CountScale") "either"))))))))))))))
def ckH22 (K : Fg) : Bool := decide (PySem.W.findIn K (.ref (He.ga K "CountScale")) "make_then" = some (some (.ref (He.ma K (He.ga K "CountScale") "make_then")))) && ((PySem.W.isFn K (.ref (He.ma K (He.ga K "CountScale") "make_then"))) && (decide (PySem.W.findIn K (.ref (He.ga K "CountScale")) "make_join" = some (some (.ref (He.ma K (He.ga K "CountScale") "make_join")))) && ((PySem.W.isFn K (.ref (He.ma K (He.ga K "CountScale") "make_join"))) && (decide (PySem.W.findIn K (.ref (He.ga K "SpanScale")) "behind" = some (some (.ref (He.ma K (He.ga K "SpanScale") "behind")))) && ((PySem.W.isFn K (.ref (He.ma K (He.ga K "SpanScale") "behind"))) && (decide (PySem.W.findIn K (.ref (He.ga K "SpanScale")) "either" = some (some (.ref (He.ma K (He.ga K "SpanScale") "either")))) && ((PySem.W.isFn K (.ref (He.ma K (He.ga K "SpanScale") "either"))) && (decide (PySem.W.findIn K (.ref (He.ga K "SpanScale")) "make_then" = some (some (.ref (He.ma K (He.ga K "CountScale") "make_then")))) && (decide (PySem.W.findIn K (.ref (He.ga K "SpanScale")) "make_join" = some (some (.ref (He.ma K (He.ga K "CountScale") "make_join")))) && (decide (PySem.W.findIn K (.ref (He.ga K "WatchScale")) "arrows" = some (some (.ref (He.ma K (He.ga K "WatchScale") "arrows")))) && ((PySem.W.isFn K (.ref (He.ma K (He.ga K "WatchScale") "arrows"))))))))))))))
def ckH23 (K : Fg) : Bool := decide (PySem.W.findIn K (.ref (He.ga K "WatchScale")) "make_then" = some (some (.ref (He.ma K (He.ga K "WatchScale") "make_then")))) && ((PySem.W.isFn K (.ref (He.ma K (He.ga K "WatchScale") "make_then"))) && (decide (PySem.W.findIn K (.ref (He.ga K "WatchScale")) "make_join" = some (some (.ref (He.ma K (He.ga K "WatchScale") "make_join")))) && ((PySem.W.isFn K (.ref (He.ma K (He.ga K "WatchScale") "make_join"))) && (decide (PySem.W.findIn K (.ref (He.ga K "SetScale")) "behind" = some (some (.ref (He.ma K (He.ga K "SetScale") "behind")))) && ((PySem.W.isFn K (.ref (He.ma K (He.ga K "SetScale") "behind"))) && (decide (PySem.W.findIn K (.ref (He.ga K "SetScale")) "either" = some (some (.ref (He.ma K (He.ga K "SetScale") "either")))) && ((PySem.W.isFn K (.ref (He.ma K (He.ga K "SetScale") "either"))) && (decide (PySem.W.findIn K (.ref (He.ga K "SetScale")) "make_then" = some (some (.ref (He.ma K (He.ga K "CountScale") "make_then")))) && (decide (PySem.W.findIn K (.ref (He.ga K "SetScale")) "make_join" = some (some (.ref (He.ma K (He.ga K "CountScale") "make_join")))) && (decide (PySem.W.findIn K (.ref (He.ga K "HeapScale")) "make_then" = some (some (.ref (He.ma K (He.ga K "HeapScale") "make_then")))) && ((PySem.W.isFn K (.ref (He.ma K (He.ga K "HeapScale") "make_then"))))))))))))))
def ckH24 (K : Fg) : Bool := decide (PySem.W.findIn K (.ref (He.ga K "HeapScale")) "make_join" = some (some (.ref (He.ma K (He.ga K "HeapScale") "make_join")))) && ((PySem.W.isFn K (.ref (He.ma K (He.ga K "HeapScale") "make_join"))) && (decide (PySem.W.findIn K (.ref (He.ga K "WithNever")) "__init__" = some (some (.ref (He.ma K (He.ga K "WithNever") "__init__")))) && (ckCls K (He.ga K "WithNever") && (decide (PySem.W.mroIn K (He.ga K "CountScale") (.ref (He.ga K "WithNever")) = some true) && (decide (PySem.W.ks_superIn K (He.ga K "CountScale") (He.ga K "WithNever") "__init__" = some (some (.ref (He.ma K (He.ga K "Scale") "__init__")))) && (decide (PySem.W.mroIn K (He.ga K "SpanScale") (.ref (He.ga K "WithNever")) = some true) && (decide (PySem.W.ks_superIn K (He.ga K "SpanScale") (He.ga K "WithNever") "__init__" = some (some (.ref (He.ma K (He.ga K "Scale") "__init__")))) && (decide (PySem.W.mroIn K (He.ga K "SetScale") (.ref (He.ga K "WithNever")) = some true) && (decide (PySem.W.ks_superIn K (He.ga K "SetScale") (He.ga K "WithNever") "__init__" = some (some (.ref (He.ma K (He.ga K "Scale") "__init__")))) && (decide (PySem.W.findIn K (.ref (He.ga K "TableScale")) "__init__" = some (some (.ref (He.ma K (He.ga K "TableScale") "__init__")))) && (ckCls K (He.ga K "TableScale"))))))))))))
def ckH25 (K : Fg) : Bool := decide (PySem.W.mroIn K (He.ga K "TableScale") (.ref (He.ga K "TableScale")) = some true) && (decide (PySem.W.ks_superIn K (He.ga K "TableScale") (He.ga K "TableScale") "__init__" = some (some (.ref (He.ma K (He.ga K "Scale") "__init__")))) && ((PySem.W.makesIn K (He.ga K "TableScale")) && ((PySem.W.isFn K (.ref (He.ma K (He.ga K "TableScale") "__init__"))) && ((PySem.W.keepIn K (.ref (He.ga K "TableScale"))) && (decide (PySem.W.findIn K (.ref (He.ga K "PairScale")) "__init__" = some (some (.ref (He.ma K (He.ga K "PairScale") "__init__")))) && (ckCls K (He.ga K "PairScale") && (decide (PySem.W.mroIn K (He.ga K "PairScale") (.ref (He.ga K "PairScale")) = some true) && (decide (PySem.W.ks_superIn K (He.ga K "PairScale") (He.ga K "PairScale") "__init__" = some (some (.ref (He.ma K (He.ga K "Scale") "__init__")))) && ((PySem.W.makesIn K (He.ga K "PairScale")) && ((PySem.W.isFn K (.ref (He.ma K (He.ga K "PairScale") "__init__"))) && ((PySem.W.keepIn K (.ref (He.ga K "PairScale"))))))))))))))
def ckH26 (K : Fg) : Bool := decide (PySem.W.findIn K (.ref (He.ga K "TurnedScale")) "__init__" = some (some (.ref (He.ma K (He.ga K "TurnedScale") "__init__")))) && (ckCls K (He.ga K "TurnedScale") && (decide (PySem.W.mroIn K (He.ga K "TurnedScale") (.ref (He.ga K "TurnedScale")) = some true) && (decide (PySem.W.ks_superIn K (He.ga K "TurnedScale") (He.ga K "TurnedScale") "__init__" = some (some (.ref (He.ma K (He.ga K "Scale") "__init__")))) && ((PySem.W.makesIn K (He.ga K "TurnedScale")) && ((PySem.W.isFn K (.ref (He.ma K (He.ga K "TurnedScale") "__init__"))) && ((PySem.W.keepIn K (.ref (He.ga K "TurnedScale"))) && (decide (PySem.W.findIn K (.ref (He.ga K "CountScale")) "__init__" = some (some (.ref (He.ma K (He.ga K "CountScale") "__init__")))) && (ckCls K (He.ga K "CountScale") && (decide (PySem.W.mroIn K (He.ga K "CountScale") (.ref (He.ga K "CountScale")) = some true) && (decide (PySem.W.ks_superIn K (He.ga K "CountScale") (He.ga K "CountScale") "__init__" = some (some (.ref (He.ma K (He.ga K "WithNever") "__init__")))) && ((PySem.W.makesIn K (He.ga K "CountScale")))))))))))))
def ckH27 (K : Fg) : Bool := (PySem.W.isFn K (.ref (He.ma K (He.ga K "CountScale") "__init__"))) && ((PySem.W.keepIn K (.ref (He.ga K "CountScale"))) && (decide (PySem.W.findIn K (.ref (He.ga K "SpanScale")) "__init__" = some (some (.ref (He.ma K (He.ga K "SpanScale") "__init__")))) && (ckCls K (He.ga K "SpanScale") && (decide (PySem.W.mroIn K (He.ga K "SpanScale") (.ref (He.ga K "SpanScale")) = some true) && (decide (PySem.W.ks_superIn K (He.ga K "SpanScale") (He.ga K "SpanScale") "__init__" = some (some (.ref (He.ma K (He.ga K "WithNever") "__init__")))) && ((PySem.W.makesIn K (He.ga K "SpanScale")) && ((PySem.W.isFn K (.ref (He.ma K (He.ga K "SpanScale") "__init__"))) && ((PySem.W.keepIn K (.ref (He.ga K "SpanScale"))) && (decide (PySem.W.findIn K (.ref (He.ga K "WatchScale")) "__init__" = some (some (.ref (He.ma K (He.ga K "WatchScale") "__init__")))) && (ckCls K (He.ga K "WatchScale") && (decide (PySem.W.mroIn K (He.ga K "WatchScale") (.ref (He.ga K "WatchScale")) = some true))))))))))))
def ckH28 (K : Fg) : Bool := decide (PySem.W.ks_superIn K (He.ga K "WatchScale") (He.ga K "WatchScale") "__init__" = some (some (.ref (He.ma K (He.ga K "Scale") "__init__")))) && ((PySem.W.makesIn K (He.ga K "WatchScale")) && ((PySem.W.isFn K (.ref (He.ma K (He.ga K "WatchScale") "__init__"))) && ((PySem.W.keepIn K (.ref (He.ga K "WatchScale"))) && (decide (PySem.W.findIn K (.ref (He.ga K "SetScale")) "__init__" = some (some (.ref (He.ma K (He.ga K "SetScale") "__init__")))) && (ckCls K (He.ga K "SetScale") && (decide (PySem.W.mroIn K (He.ga K "SetScale") (.ref (He.ga K "SetScale")) = some true) && (decide (PySem.W.ks_superIn K (He.ga K "SetScale") (He.ga K "SetScale") "__init__" = some (some (.ref (He.ma K (He.ga K "WithNever") "__init__")))) && ((PySem.W.makesIn K (He.ga K "SetScale")) && ((PySem.W.isFn K (.ref (He.ma K (He.ga K "SetScale") "__init__"))) && ((PySem.W.keepIn K (.ref (He.ga K "SetScale"))) && (decide (PySem.W.findIn K (.ref (He.ga K "HeapScale")) "__init__" = some (some (.ref (He.ma K (He.ga K "HeapScale") "__init__")))))))))))))))
def ckH29 (K : Fg) : Bool := ckCls K (He.ga K "HeapScale") && (decide (PySem.W.mroIn K (He.ga K "HeapScale") (.ref (He.ga K "HeapScale")) = some true) && (decide (PySem.W.ks_superIn K (He.ga K "HeapScale") (He.ga K "HeapScale") "__init__" = some (some (.ref (He.ma K (He.ga K "Scale") "__init__")))) && ((PySem.W.makesIn K (He.ga K "HeapScale")) && ((PySem.W.isFn K (.ref (He.ma K (He.ga K "HeapScale") "__init__"))) && ((PySem.W.keepIn K (.ref (He.ga K "HeapScale"))) && (decide (PySem.W.nsIn K mainGlobals "_law_source" = some (some (.ref (He.ga K "_law_source")))) && (decide (PySem.W.nsIn K mainGlobals "_law_pick" = some (some (.ref (He.ga K "_law_pick")))) && (decide (PySem.W.nsIn K mainGlobals "_law_like" = some (some (.ref (He.ga K "_law_like")))) && (decide (PySem.W.nsIn K mainGlobals "_law_number" = some (some (.ref (He.ga K "_law_number")))) && (decide (PySem.W.nsIn K mainGlobals "_law_family_size" = some (some (.ref (He.ga K "_law_family_size")))) && (decide (PySem.W.nsIn K mainGlobals "_law_family" = some (some (.ref (He.ga K "_law_family")))))))))))))))
def ckH30 (K : Fg) : Bool := decide (PySem.W.nsIn K mainGlobals "_law_around" = some (some (.ref (He.ga K "_law_around")))) && (decide (PySem.W.nsIn K mainGlobals "_law_due" = some (some (.ref (He.ga K "_law_due")))) && (decide (PySem.W.nsIn K mainGlobals "_law_deep_right" = some (some (.ref (He.ga K "_law_deep_right")))) && (decide (PySem.W.nsIn K mainGlobals "law" = some (some (.ref (He.ga K "law")))) && (decide (PySem.W.specialIn K (.builtin "object.__class__") "__get__" = some (some (.builtin "getset_descriptor.__get__"))) && (decide (PySem.W.takesIn K (.builtin "object.__class__") = some true) && (decide (PySem.W.nsIn K mainGlobals "BadScale" = some (some (.ref (He.ga K "BadScale")))) && ((PySem.W.hasDictIn K (He.ga K "BadScale")) && (decide (PySem.W.subIn K (.ref (He.ga K "BadScale")) (.type "BaseException") = some true) && ((PySem.W.keepIn K (.ref (He.ga K "BadScale"))) && (decide (PySem.W.findIn K (.ref (He.ga K "BadScale")) "__getattribute__" = some (some (.builtin "BaseException.__getattribute__"))) && (decide (PySem.W.findIn K (.ref (He.ga K "BadScale")) "__getattr__" = some none))))))))))))
def ckH31 (K : Fg) : Bool := decide (PySem.W.findIn K (.ref (He.ga K "BadScale")) "__class__" = some (some (.builtin "object.__class__"))) && (decide (PySem.W.mroIn K (He.ga K "BadScale") (.type "object") = some true) && (decide (PySem.W.typeIn K (.ref (He.ga K "BadScale")) = some (.type "type")) && (decide (PySem.W.exmOne K (.ref (He.ga K "BadScale")) (.ref (He.ga K "BadScale")) = some true) && ((PySem.W.excIn K (He.ga K "BadScale") [.type "ValueError", .type "Exception", .type "BaseException", .type "object"] "ValueError.__new__") && (decide (PySem.W.nsIn K mainGlobals "DeedscaleError" = some (some (.ref (He.ga K "DeedscaleError")))) && (decide (PySem.W.kitOne K (.ref (He.ga K "BadScale")) (.ref (He.ga K "DeedscaleError")) = some true)))))))
def fsH : List (Fg → Bool) := ([ckH0, ckH1, ckH2, ckH3, ckH4, ckH5, ckH6, ckH7, ckH8, ckH9, ckH10, ckH11, ckH12, ckH13, ckH14, ckH15, ckH16, ckH17, ckH18, ckH19, ckH20, ckH21, ckH22, ckH23, ckH24, ckH25, ckH26, ckH27, ckH28, ckH29] : List (Fg → Bool)) ++ ([ckH30, ckH31] : List (Fg → Bool))
abbrev RH : PySem.W.OpenRow := PySem.W.OpenLaw.row PySem.Challenge.rw_deedscale_k06_bad_scales
abbrev qH : Program := PySem.W.view RH.prog [37]
def namesH : List Str := (["_wall", "__name__", "DeedscaleError", "BadScale", "MOST_WORTHS", "SIGNS", "Scale", "is_table_name", "table_places", "TableScale", "WithNever", "CountScale", "SpanScale", "SetScale", "WatchScale", "cut_down", "number_name", "digits_of", "DEEPEST", "depth_above", "PairScale", "half_places", "TurnedScale", "HeapScale", "_law_source", "_law_pick", "_law_like", "_law_number", "_law_family_size", "_law_family"] : List Str) ++ (["_law_around", "_law_due", "_law_deep_right"] : List Str)
def obH (s : PySem.W.SharedT) : AlB := obsBG 8000 fsH dfsH [] (HandSHeadRun.getT s)
theorem obH_eq (s : PySem.W.SharedT) : obH s = (hookB 8000 fsH dfsH []).obs s.abs := obsBG_eq (HandSHeadRun.getT_eq s)
theorem runH (w : World) : HandSHeadRun.RunEq RH qH (hookB 8000 fsH dfsH []) obH 12000 namesH w := by
  intro os
  kernel_rfl
end L2.DS
/-! Defs whose body says super().__init__(..): their frame bears a cell of the class. -/
namespace L2.DS
open PySem PySem.Spec PyProof.Rows
/-! ### the frame -/
abbrev envS (qual : Str) (scope : Scope) (L f : Addr) (cd : Value) (cc : Addr) : Env :=
  PySem.W.envX qual scope L f cd (cellsFrom (L + 1) scope.names [("__class__", cc)])
theorem cells_acc : ∀ (names : List (Str × NameKind)) (n : Nat) (acc : List (Str × Addr)), cellsFrom n names acc = cellsFrom n names [] ++ acc
  | [], _, _ => rfl
  | (x, kd) :: r, n, acc => by
    unfold cellsFrom
    split
    · rw [cells_acc r (n + 1) ((x, n) :: acc), cells_acc r (n + 1) [(x, n)], List.append_assoc]
      rfl
    · exact cells_acc r n acc
/-- the scope of such a def: N its names, the parameters ps first -/
structure ScS (N ps : List Str) (sc : Scope) : Prop where
  kind : sc.kind = .function
  co : sc.isCoroutine = false
  gen : sc.isGenerator = false
  nd : N.Nodup
  pre : N.take ps.length = ps
  par : ∀ x ∈ ps, sc.names.lookup x = some .local ∨ sc.names.lookup x = some .cell
  fre : ∀ y ∈ sc.names, y.2 = .free → y.1 = ("__class__" : Str)
  cls : sc.names.lookup ("__class__" : Str) = some .free
  ncl : ∀ y ∈ sc.names, y.2 = .cell → y.1 ≠ ("__class__" : Str)
  sup : sc.names.lookup ("super" : Str) = some .globalImplicit
/-- which names a list of cells made at the entry has -/
theorem own_name : ∀ (names : List (Str × NameKind)) (n : Nat) (acc : List (Str × Addr)) (x : Str) (c : Addr), (x, c) ∈ cellsFrom n names acc → (x, c) ∈ acc ∨ (x, NameKind.cell) ∈ names
  | [], _, _, _, _, h => .inl h
  | (y, kd) :: r, n, acc, x, c, h => by
    unfold cellsFrom at h
    split at h
    · rename_i hk
      rcases own_name r (n + 1) _ x c h with q | q
      · rcases List.mem_cons.mp q with e | q
        · cases e
          refine .inr (List.mem_cons.mpr (.inl ?_))
          rw [show kd = NameKind.cell from beq_iff_eq.mp hk]
        · exact .inl q
      · exact .inr (List.mem_cons_of_mem _ q)
    · rcases own_name r n acc x c h with q | q
      · exact .inl q
      · exact .inr (List.mem_cons_of_mem _ q)
section
variable {M : Model} {A : Around} {E : Value → Shared → Prop} {s₀ s : Shared} {m cm : Str → Option Value} {env : Env} {own : List (Str × Addr)}
theorem put_local {n : Str} {v : Value} {Q : Unit → Shared → Prop} (x : InCallC s₀ env.locals m own cm s) (hk : env.scope.kind = .function) (hl : env.kindOf n = some .local)
    (h : ∀ s', InCallC s₀ env.locals (fun y => if y = n then some v else m y) own cm s' → Q () s') : wpAny M A (storeName env n v) Q E s := by
  refine wpAny_storeName_local hl x.toInCall.ns (fun g ng sg => h _ ⟨⟨?c1, ng, fun b o e => ?c2, x.toInCall.fresh⟩, fun k c hc => ?c3, x.apart, x.above⟩) (by rw [hk]; rfl)
  case c1 =>
    obtain ⟨h1, tk, rfl⟩ := x.toInCall.same
    exact ⟨g, _, rfl⟩
  case c2 =>
    have lt := Nat.lt_of_lt_of_le (Heap.lt_size e) x.toInCall.fresh
    exact sg.extBut b o (Nat.ne_of_lt lt) (x.toInCall.keep b o e)
  case c3 =>
    have gt := x.above k c (PySem.mem_of_lookup hc)
    exact (x.cell k c hc).sameBut sg (Nat.ne_of_gt gt)
theorem put_cell {n : Str} {c : Addr} {v : Value} {Q : Unit → Shared → Prop} (x : InCallC s₀ env.locals m own cm s) (hk : env.scope.kind = .function) (hl : env.kindOf n = some .cell)
    (hc : env.cells.lookup n = some c) (ho : own.lookup n = some c) (h : ∀ s', InCallC s₀ env.locals m own (fun y => if y = n then some v else cm y) s' → Q () s') :
    wpAny M A (storeName env n v) Q E s := by
  have gt := x.above n c (PySem.mem_of_lookup ho)
  refine wpAny_storeName_cell hk hl hc (x.cell n c ho) fun g cg sg => h _ ⟨⟨?c1, x.toInCall.ns.sameBut sg (Nat.ne_of_lt gt), fun b o e => ?c2, x.toInCall.fresh⟩, fun k c' hk' => ?c3, x.apart, x.above⟩
  case c1 =>
    obtain ⟨h1, tk, rfl⟩ := x.toInCall.same
    exact ⟨g, _, rfl⟩
  case c2 =>
    have lt := Nat.lt_of_lt_of_le (Heap.lt_size e) x.toInCall.fresh
    exact sg.extBut b o (Nat.ne_of_lt (Nat.lt_trans lt gt)) (x.toInCall.keep b o e)
  case c3 =>
    by_cases hkn : k = n
    · subst hkn
      rw [ho] at hk'
      cases hk'
      simpa using cg
    · rw [if_neg hkn]
      refine (x.cell k c' hk').sameBut sg fun e => hkn ?_
      have h1 := PySem.mem_of_lookup ho
      rw [← e] at h1
      exact name_of_addr x.apart (PySem.mem_of_lookup hk') h1
theorem put_all (f : Str × Value → PUnit → Sem (ForInStep PUnit)) (hf : ∀ n v u, f (n, v) u = (do storeName env n v; pure (.yield ⟨⟩))) (hk : env.scope.kind = .function)
    (sub : ∀ n c, own.lookup n = some c → env.cells.lookup n = some c) :
    ∀ (bs : List (Str × Value)) (m cm : Str → Option Value) (s : Shared) (Q : PUnit → Shared → Prop), InCallC s₀ env.locals m own cm s →
      (∀ x ∈ bs, env.kindOf x.1 = some .local ∨ (env.kindOf x.1 = some .cell ∧ (own.lookup x.1).isSome = true)) →
      (∀ s', InCallC s₀ env.locals (bindL env.kindOf bs m) own (bindC env.kindOf bs cm) s' → Q ⟨⟩ s') → wpAny M A (forIn bs ⟨⟩ f) Q E s
  | [], m, cm, s, Q, x, _, h => by
    rw [List.forIn_nil]
    exact wpAny_pure (h s x)
  | (n, v) :: r, m, cm, s, Q, x, kd, h => by
    rw [List.forIn_cons, hf]
    have kr := fun y (hy : y ∈ r) => kd y (List.mem_cons_of_mem _ hy)
    unfold bindL bindC at h
    rcases kd (n, v) List.mem_cons_self with hl | ⟨hl, hc⟩
    · rw [if_pos hl, if_pos hl] at h
      exact wpAny_bind (wpAny_bind (put_local x hk hl fun s' x' => wpAny_pure (put_all f hf hk sub r _ _ s' Q x' kr h)))
    · obtain ⟨c, hc⟩ := Option.isSome_iff_exists.mp hc
      have hnl : ¬ env.kindOf n = some .local := fun z => by
        rw [hl] at z
        cases z
      rw [if_neg hnl, if_neg hnl] at h
      exact wpAny_bind (wpAny_bind (put_cell x hk hl (sub n c hc) hc fun s' x' => wpAny_pure (put_all f hf hk sub r _ _ s' Q x' kr h)))
end
section
variable {M : Model} {A : Around} {E : Value → Shared → Prop} {s : Shared}
theorem new_envS {scope : Scope} {binds : List (Str × Value)} {qual : Str} {f cc : Addr} {cd : Value} {Q : Env → Shared → Prop} (hk : scope.kind = .function)
    (kd : ∀ x ∈ binds, scope.names.lookup x.1 = some .local ∨ (scope.names.lookup x.1 = some .cell ∧ ((cellsFrom (s.heap.objs.size + 1) scope.names []).lookup x.1).isSome = true))
    (hQ : ∀ s', InCallC s s.heap.objs.size (bindL (envS qual scope s.heap.objs.size f cd cc).kindOf binds fun _ => none) (cellsFrom (s.heap.objs.size + 1) scope.names [])
      (bindC (envS qual scope s.heap.objs.size f cd cc).kindOf binds fun _ => none) s' → Q (envS qual scope s.heap.objs.size f cd cc) s') :
    wpAny M A (newFunctionEnv scope mainGlobals [("__class__", cc)] binds (qual ++ ".<locals>.") (some f) cd none builtinsNs) Q E s := by
  simp only [newFunctionEnv, Option.isSome_none, Bool.false_eq_true, if_false]
  refine wpAny_bind (wpAny_alloc ?_)
  refine wpAny_bind (wpAny_layCells _ (fun nm kd cells => by cases e : kd == NameKind.cell <;> simp [e]) _ _ _ _ ?_)
  have ok := cellsFrom_ok scope.names (s.heap.push { cls := .type "frame", data := .dict #[] }) (s.heap.objs.size + 1) [] ⟨fun _ _ z => (nomatch z), List.Pairwise.nil⟩ (by rw [Heap.size_push]; exact Nat.le_refl _)
  rw [Heap.size_push] at ok
  rw [show (Shared.heap { s with heap := s.heap.push { cls := .type "frame", data := .dict #[] } }).objs.size = s.heap.objs.size + 1 from Heap.size_push ..]
  refine wpAny_bind (put_all (s₀ := s) (env := envS qual scope s.heap.objs.size f cd cc) (own := cellsFrom (s.heap.objs.size + 1) scope.names []) _ (fun _ _ _ => rfl) hk (fun n c e => ?_) binds (fun _ => none) (fun _ => none) _ _
    ⟨⟨⟨_, _, rfl⟩, (Heap.Ns.new s.heap (.type "frame")).keeps (pushCells_keeps _ _), fun b o e => pushCells_keeps _ _ b o (Heap.get?_push_of_some _ e), Nat.le_refl _⟩, fun n c z => (ok.empty n c (PySem.mem_of_lookup z)).1, ok.apart, fun n c z => (ok.empty n c z).2⟩ kd fun s' x => wpAny_pure (hQ s' x))
  show (cellsFrom (s.heap.objs.size + 1) scope.names [("__class__", cc)]).lookup n = some c
  rw [cells_acc, List.lookup_append, e]
  rfl
end
/-! ### the context -/
def cxS (CX : CXT) (P : Program) (w : World) (K : PySem.W.Frag) (mg : Str → Option Value) (base : Heap) (N : List Str) (qual : Str) (scope : Scope) (f : Addr) (cd : Value) (cc : Addr) (A : Around) (outer : List Env) (s : Shared) (H : Hp) (E : XK) : Cx where
  prog := P
  w := w
  K := K
  mg := mg
  base := base
  A := A.deeper (envS qual scope s.heap.objs.size f cd cc)
  N := N
  s_0 := s
  H_0 := H
  env := envS qual scope s.heap.objs.size f cd cc
  outer := outer
  stack := envS qual scope s.heap.objs.size f cd cc :: outer
  ex := []
  calm := true
  fn := fun x => !(x == ("__class__" : Str))
  pn := []
  xe := fun e s' => wpAny (model P w) (A.deeper (envS qual scope s.heap.objs.size f cd cc)) (leaving (envS qual scope s.heap.objs.size f cd cc) e) (fun _ s2 => CX outer H s E e s2) (fun e' s2 => CX outer H s E e' s2) s'
theorem cell_in {sc : Scope} {n : Nat} {x : Str} (h : sc.names.lookup x = some .cell) : ∃ c, (cellsFrom n sc.names []).lookup x = some c :=
  Option.isSome_iff_exists.mp (PySem.W.cellsFrom_some sc.names n [] (.inl h))
section
variable {CX : CXT} {P : Program} {w : World} {K : PySem.W.Frag} {mg : Str → Option Value} {base : Heap} {N ps : List Str} {qual : Str} {scope : Scope} {f cc D : Addr} {cd : Value} {A : Around} {outer : List Env} {s s1 : Shared} {H : Hp} {E : XK} {us : List Value} {vs : List V}
theorem look_ownS {L : Nat} {x : Str} {c : Addr} (h : (cellsFrom (L + 1) scope.names [("__class__", cc)]).lookup x = some c) (S : ScS N ps scope) :
    ((cellsFrom (L + 1) scope.names []).lookup x = some c ∧ x ≠ ("__class__" : Str)) ∨ (x = ("__class__" : Str) ∧ c = cc) := by
  rw [cells_acc, List.lookup_append] at h
  cases e : (cellsFrom (L + 1) scope.names []).lookup x with
  | some c1 =>
    rw [e] at h
    have h : c1 = c := Option.some.inj h
    subst h
    refine .inl ⟨rfl, ?_⟩
    rcases own_name _ _ _ _ _ (PySem.mem_of_lookup e) with q | q
    · cases q
    · exact S.ncl _ q rfl
  | none =>
    rw [e] at h
    have h : List.lookup x [(("__class__" : Str), cc)] = some c := h
    by_cases hx : x = ("__class__" : Str)
    · subst hx
      refine .inr ⟨rfl, ?_⟩
      have q : List.lookup ("__class__" : Str) [(("__class__" : Str), cc)] = some cc := by simp [List.lookup]
      rw [q] at h
      exact (Option.some.inj h).symm
    · have hb : (x == ("__class__" : Str)) = false := by simpa using hx
      have q : List.lookup x [(("__class__" : Str), cc)] = none := by simp [List.lookup, hb]
      rw [q] at h
      cases h
theorem look_clsS {L : Nat} (S : ScS N ps scope) : (cellsFrom (L + 1) scope.names [("__class__", cc)]).lookup ("__class__" : Str) = some cc := by
  rw [cells_acc, List.lookup_append]
  cases e : (cellsFrom (L + 1) scope.names []).lookup ("__class__" : Str) with
  | none => simp [List.lookup]
  | some c1 =>
    rcases own_name _ _ _ _ _ (PySem.mem_of_lookup e) with q | q
    · cases q
    · exact absurd rfl (S.ncl _ q rfl)
theorem inv_startS (S : ScS N ps scope) (hd : A.handled = none) (e0 : Env0 P w K mg base A outer s H) (hl : vs.length = ps.length) (r : Vals vs us)
    {ccl : Value} {ccd : Option Addr} {csl : Array (Option Value)} (hcc : K.lookup cc = some ⟨ccl, ccd, .cell (some (.ref D)), csl⟩)
    (x : InCallC s s.heap.objs.size (bindL (envS qual scope s.heap.objs.size f cd cc).kindOf (ps.zip us) fun _ => none) (cellsFrom (s.heap.objs.size + 1) scope.names []) (bindC (envS qual scope s.heap.objs.size f cd cc).kindOf (ps.zip us) fun _ => none) s1) :
    Inv (cxS CX P w K mg base N qual scope f cd cc A outer s H E) [] (start N vs) H s1 := by
  have hpl : ps.length ≤ N.length := by
    have z := congrArg List.length S.pre
    rw [List.length_take] at z
    omega
  obtain ⟨h1, tk, rfl, hk⟩ := x.done
  have bcc : base.get? cc = some ⟨ccl, ccd, .cell (some (.ref D)), csl⟩ := e0.mod.kin _ _ hcc
  have scc := (e0.bs _ _ bcc).1
  have Hcc : H cc = none := (e0.bs _ _ bcc).2
  have ltc : cc < s.heap.objs.size := Heap.lt_size scc
  have noA : ∀ b : Addr, b ∉ (cxS CX P w K mg base N qual scope f cd cc A outer s H E).ex := fun b z => absurd (show b ∈ ([] : List Addr) from z) (by simp)
  have abv : ∀ y c, (cellsFrom (s.heap.objs.size + 1) scope.names []).lookup y = some c → s.heap.objs.size < c := fun y c e => x.above y c (PySem.mem_of_lookup e)
  have own2 : ∀ y c, (cxS CX P w K mg base N qual scope f cd cc A outer s H E).env.cells.lookup y = some c → ((cellsFrom (s.heap.objs.size + 1) scope.names []).lookup y = some c ∧ y ≠ ("__class__" : Str)) ∨ (y = ("__class__" : Str) ∧ c = cc) := fun y c e => look_ownS e S
  refine ⟨⟨e0.mod, S.kind, rfl, rfl, Nat.le_refl _, fun y z c a b => ?_, fun y hy => ?_, fun y c hf h => ?_, fun _ => hd, Around.frames_deeper e0.frames, .inr ⟨rfl, rfl⟩, fun b z => absurd z (noA b), e0.bs, e0.bsz, fun b _ _ => noA b, fun b z => absurd z (noA b), e0.funs, e0.frf⟩,
    rfl, e0.bare, Un.kept hk, ⟨_, x.toInCall.ns, fun i y v a b c => ?_⟩, fun y c e => ?_, e0.hok.fresh (Nat.le_refl _), fun y c e => ?_, fun p hp => absurd (show p ∈ ([] : List (Addr × Obj)) from hp) (by simp), e0.hok.kept hk, ?_⟩
  · rcases own2 y c a with ⟨a, _⟩ | ⟨a, a2⟩ <;> rcases own2 z c b with ⟨b, _⟩ | ⟨b, b2⟩
    · exact name_of_addr x.apart (PySem.mem_of_lookup a) (PySem.mem_of_lookup b)
    · have ab := abv y c a
      rw [b2] at ab
      exact absurd (Nat.lt_trans ltc ab) (Nat.lt_irrefl _)
    · have ab := abv z c b
      rw [a2] at ab
      exact absurd (Nat.lt_trans ltc ab) (Nat.lt_irrefl _)
    · rw [a, b]
  · have hy : scope.names.lookup y = some .cell ∨ scope.names.lookup y = some .free := hy
    show ∃ c, (cellsFrom (s.heap.objs.size + 1) scope.names [("__class__", cc)]).lookup y = some c
    rcases hy with hy | hy
    · obtain ⟨c, e⟩ := cell_in (n := s.heap.objs.size + 1) hy
      refine ⟨c, ?_⟩
      rw [cells_acc, List.lookup_append, e]
      rfl
    · have ey := S.fre _ (PySem.mem_of_lookup hy) rfl
      exact ⟨cc, by rw [show y = ("__class__" : Str) from ey]; exact look_clsS S⟩
  · rcases own2 y c h with ⟨a, _⟩ | ⟨a, _⟩
    · exact Nat.le_of_lt (abv y c a)
    · have hf : (!(y == ("__class__" : Str))) = true := hf
      rw [a] at hf
      simp at hf
  · have a : N[i]? = some y := a
    by_cases hi : i < ps.length
    · have hp : ps[i]? = some y := by
        rw [← S.pre, List.getElem?_take_of_lt hi]
        exact a
      have hv : vs[i]? = some v := by
        unfold start at b
        rw [List.getElem?_append_left (by rw [List.length_map]; omega), List.getElem?_map] at b
        cases e : vs[i]? with
        | none =>
          rw [e] at b
          cases b
        | some q =>
          rw [e] at b
          cases b
          rfl
      obtain ⟨u, hu, rv⟩ := r.get hv
      have ndP : ps.Nodup := by
        have q := S.nd.sublist (List.take_sublist ps.length N)
        rw [S.pre] at q
        exact q
      refine ⟨u, rv, ?_⟩
      rcases S.par y (List.mem_of_getElem? hp) with q | q
      · exact .inl ⟨q, bindL_get ndP hp hu q⟩
      · obtain ⟨c, hc⟩ := cell_in (n := s.heap.objs.size + 1) q
        refine .inr ⟨.inl q, c, ?_, ?_⟩
        · show (cellsFrom (s.heap.objs.size + 1) scope.names [("__class__", cc)]).lookup y = some c
          rw [cells_acc, List.lookup_append, hc]
          rfl
        · have z := x.cell y c hc
          rw [bindC_get ndP hp hu (show (envS qual scope s.heap.objs.size f cd cc).kindOf y ≠ some .local from fun k => by
            have k : scope.names.lookup y = some .local := k
            rw [q] at k
            cases k)] at z
          exact z
    · unfold start at b
      rw [List.getElem?_append_right (by rw [List.length_map]; omega), List.getElem?_replicate] at b
      split at b <;> cases b
  · rcases own2 y c e with ⟨a, _⟩ | ⟨_, a⟩
    · exact ⟨_, x.cell y c a⟩
    · rw [a]
      exact ⟨_, _, hk _ _ scc, rfl⟩
  · rcases own2 y c e with ⟨a, _⟩ | ⟨_, a⟩
    · exact e0.hok.fresh (Nat.le_of_lt (abv y c a))
    · rw [a]
      exact Hcc
  · unfold start
    show _ = N.length
    rw [List.length_append, List.length_map, List.length_replicate]
    omega
end
/-! ### a body in its own activation -/
structure PSA (X : Cx) (body sts : List Stmt) (t : TS) : Prop where
  run : ∀ (pins : List (Addr × Obj)) (s : Shared) (σ : L2.St) (H : Hp) (D : Ends), Inv X pins σ H s → t D σ H → PySem.wpAt (model X.prog X.w) X.A (.func body X.env) (execs sts X.env) (SP X pins D) X.xe s
/-- what super() asks of the running def, of a class D: its cell, its code, its first parameter ar -/
structure SupAt (X : Cx) (D : Addr) (ar : Str) : Prop where
  kc : X.env.kindOf ("__class__" : Str) = some .free
  ks : X.env.kindOf ("super" : Str) = some .globalImplicit
  fn : ∃ f of fd a, X.env.func = some f ∧ X.K.lookup f = some of ∧ of.data = .func fd ∧ (fd.params.posonlyargs ++ fd.params.args).head? = some a ∧ a.arg = ar
  code : ∃ cda oc vs file tf, X.env.code = .ref cda ∧ X.K.lookup cda = some oc ∧ oc.data = .fields vs ∧ vs[2]? = some (.str file tf) ∧ ((X.prog.main.file : Str) == file) = true
  top : (X.prog.main.scope.names.lookup ("super" : Str)).isSome = false
  cell : ∃ cc oc, X.env.cells.lookup ("__class__" : Str) = some cc ∧ X.K.lookup cc = some oc ∧ oc.data = .cell (some (.ref D))
  cls : ∃ oD cd, X.K.lookup D = some oD ∧ oD.data = .cls cd
  mg : X.mg "super" = none
  opq : PySem.W.nsIn X.K cStatics "thirdparty.any" = some none
section
variable {X : Cx} {body sts : List Stmt} {st : Stmt} {t u : TS} {D : Addr} {ar : Str}
theorem psa_end (h : PSs X sts t) : PSA X body sts t := ⟨fun pins s σ H D I q => wpAt_of_wpAny (h.run pins s σ H D I q)⟩
theorem psa_cons (h : PS X st t) (hr : PSA X body sts u) : PSA X body (st :: sts) (tSeq t u) := by
  refine ⟨fun pins s σ H D I q => ks_wpAt_execs_cons (wpAt_of_wpAny (thn (h.run pins s σ H _ I q) fun f s' hs => ?_))⟩
  cases f with
  | next =>
    obtain ⟨σ', H', I', q'⟩ := hs
    exact hr.run pins s' σ' H' D I' q'
  | ret v => exact hs
  | brk => exact hs
  | cont => exact hs
/-! ### super() itself: a new object of class super -/
/-- the name of the first parameter: a local or a cell -/
def Own1 (sc : Scope) (x : Str) : Prop := sc.names.lookup x = some .local ∨ sc.names.lookup x = some .cell
theorem super_new {pins : List (Addr × Obj)} {s : Shared} {σ : L2.St} {H : Hp} {Q : Value → Shared → Prop} {p0 p1 : Pos} {attr : Str} {whole : Sem Value} {x C : Addr} {ox : Obj} {odx : Option Obj} (S : SupAt X D ar) (I : Inv X pins σ H s)
    (hat : (attr == ("__class__" : Str)) = false) (hN : X.N[0]? = some ar) (hv : Own1 X.env.scope ar) (hσ : σ[0]? = some (some (.ref x))) (J : PySem.W.InstAt s.heap x ox C odx) (hsub : PySem.W.mroIn X.K C (.ref D) = some true)
    (h : ∀ so h', s.heap.objs.size = so → h'.get? so = some (PySem.W.ks_superObj D x C) → (∀ y o, s.heap.get? y = some o → h'.get? y = some o) → Q (.ref so) { s with heap := h' }) :
    PySem.wpAt (model X.prog X.w) X.A (.func body X.env) (attributeBase (.Call (.Name "super" p0) [] [] p1) attr X.env whole) Q X.xe s := by
  obtain ⟨f, of, fd, a, f1, f2, f3, f4, f5⟩ := S.fn
  obtain ⟨cda, oc, vs, file, tf, c1, c2, c3, c4, c5⟩ := S.code
  obtain ⟨cc, occ, e1, e2, e3⟩ := S.cell
  obtain ⟨oD, cdD, d1, d2⟩ := S.cls
  obtain ⟨mb, b1, b2⟩ := I.mod.blt
  have KX := I.kIn
  refine ks_wpAt_super_base S.ks S.kc hat f1 (KX _ _ f2) f3 f4 c1 (KX _ _ c2) c3 c4 c5 S.top ?_
  refine PySem.W.ks_loadName_global I.ok.kind S.ks (Calls.loadGlobal_builtin (mg := X.mg) (mb := mb) (by rw [I.ok.glob]; exact I.mod.glob.keeps I.bk) S.mg (by rw [I.ok.blt]; exact b1.keeps I.bk) ((b2 _ (by decide)).trans (by decide +kernel)) ⟨rfl, ?_⟩)
  refine wpAny_loadName_free I.ok.kind S.kc e1 ⟨occ, KX _ _ e2, e3⟩ ?_
  obtain ⟨m, hn, hl⟩ := I.loc
  have hvis : Vis X.env.scope ar := hv.elim .inl fun z => .inr (.inl z)
  obtain ⟨u, ru, l⟩ := hl 0 ar (.ref x) hN hσ hvis
  obtain rfl : u = Value.ref x := ru
  have fin : wpAny (model X.prog X.w) X.A (isType (.ref D)) (fun b s₄ => b = true ∧ wpAny (model X.prog X.w) X.A (call (.type "super") [.ref D, .ref x]) Q X.xe s₄) X.xe s := by
    refine ks_wpAny_isType_cls (KX _ _ d1) d2 ⟨rfl, ?_⟩
    obtain ⟨hh, g, d, t, os⟩ := s
    refine ks_wpAny_call_super (KX _ _ d1) d2 J.at_ J.cls (fun c e => ?_) (PySem.W.looks_mroIn KX hsub) (fun h' e k => h _ h' rfl e k)
    have z := J.no
    unfold PySem.W.notCls at z
    rw [e] at z
    exact Bool.noConfusion z
  rw [f5]
  rcases l with ⟨hk, hm⟩ | ⟨hk, c, hc, hcell⟩
  · exact wpAny_loadName_local I.ok.kind hk hn hm fin
  · have hk : X.env.kindOf ar = some .cell := by
      rcases hv with z | z
      · rcases hk with k | k
        · exact k
        · exact absurd ((show X.env.scope.names.lookup ar = some .free from k).symm.trans z) (by simp)
      · exact z
    exact wpAny_loadName_cell I.ok.kind hk hc hcell fin
/-! ### super().__init__(e, ..), the def found being one of the text -/
def tSup (K : PySem.W.Frag) (D f2 : Addr) (sp : Sp) (dvs : List V) (E : XK) (ta : TA) : TS := fun Dn σ H => ∃ x C dx fs, σ[0]? = some (some (.ref x)) ∧ H x = some (.ins C dx fs) ∧
  PySem.W.mroIn K C (.ref D) = some true ∧ PySem.W.ks_superIn K C D "__init__" = some (some (.ref f2)) ∧ ta σ H fun vs H1 => sp (.ref x :: (vs ++ dvs)) H1 (fun _ H2 => Dn.nx σ H2) E
theorem psa_sup {CX : CXT} {k : Nat} {f2 : Addr} {fd : FuncData} {ps : List Str} {sp : Sp} {dvs : List V} {ds : List Value} {E : XK} {e : Expr} {es : List Expr} {ta : TA} {p0 p1 ap pos pos' : Pos} {pl : Sem Bool} (S : SupAt X D ar)
    (hN : X.N[0]? = some ar) (hv : Own1 X.env.scope ar) (F : FnOk X.prog X.w X.K X.mg X.base CX k f2 fd ps sp) (hr : Room k X.A) (hb : Binds X.K fd ps ds) (hd : Vals dvs ds) (hx : Passes CX X E)
    (hf : PySem.W.fnIn X.K f2 = true) (ht : PySem.W.typeIn X.K (.ref f2) = some (.type "function")) (ha : PA X (e :: es) ta) (hr2 : PSA X body sts u)
    (he : eval (.Call (.Attribute (.Call (.Name "super" p0) [] [] p1) "__init__" ap) (e :: es) [] pos) X.env = (do
      let ov ← attributeBase (.Call (.Name "super" p0) [] [] p1) "__init__" X.env (eval (.Call (.Name "super" p0) [] [] p1) X.env)
      standAt ap.atName
      let (f, first) ← holding [ov] (getMethod ov "__init__" pl)
      callWith pos f first (backTo pos (starEach (e :: es) X.env)) []) := by rfl)
    (hst : starEach (e :: es) X.env = (false, eval e X.env) :: starEach es X.env := by rfl) (hpl : (backTo pos (starEach es X.env)).any (·.1) = false := by rfl)
    (hs : swapsWith (.Call (.Attribute (.Call (.Name "super" p0) [] [] p1) "__init__" ap) (e :: es) [] pos) none pos'.line X.env = pure false := by rfl) :
    PSA X body (.Expr (.Call (.Attribute (.Call (.Name "super" p0) [] [] p1) "__init__" ap) (e :: es) [] pos) pos' :: sts) (tSeq (tSup X.K D f2 sp dvs E ta) u) := by
  refine ⟨fun pins s σ H Dn I q => ks_wpAt_execs_cons (ks_wpAt_Expr_any (ks_wpAt_MethodCall ?_ he) I.quiet hs)⟩
  obtain ⟨x, C, dx, fs, hσ, hx1, hm, hsi, q⟩ := q
  obtain ⟨mA, O, _⟩ := ins_get I.hok hx1
  obtain ⟨odx, J, _⟩ := O.look
  refine super_new S I (by decide) hN hv hσ J hm fun so h' eso k1 k2 => ?_
  have I1 : Inv X pins σ H { s with heap := h' } := I.kept (t' := s.toks) k2
  obtain ⟨mA1, O1, _⟩ := ins_get I1.hok hx1
  obtain ⟨ody, J1, _⟩ := O1.look
  have KX := I1.kIn
  cases hc : PySem.W.clsIn X.K C with
  | none =>
    unfold PySem.W.ks_superIn at hsi
    rw [hc] at hsi
    cases hsi
  | some cd =>
    unfold PySem.W.ks_superIn at hsi
    rw [hc] at hsi
    obtain ⟨of, hof, hofc⟩ : ∃ of, h'.get? f2 = some of ∧ of.cls = .type "function" := by
      have z : (X.K.lookup f2).map (·.cls) = some (.type "function") := ht
      cases y : X.K.lookup f2 with
      | none =>
        rw [y] at z
        cases z
      | some of =>
        rw [y] at z
        exact ⟨of, KX _ _ y, Option.some.inj z⟩
    refine ks_wpAny_getMethod_super k1 (PySem.W.looks_opaque KX S.opq) (l₀ := cd.mro) (fun A' Q' E' s' kk qq => wpAny_bind ((PySem.W.looks_clsIn KX hc) A' _ E' s' kk (wpAny_pure qq))) rfl KX hsi hof hofc (PySem.W.ks_ne KX J1 hc) (by decide) ?_
    have I2 := ClX.met_new (g := f2) (C := x) I1
    refine ClX.callwith_cm I2 (ClX.base_none I1 (Nat.le_refl _)) hf (thn (ha.run pos _ _ σ H _ I2 q) fun us s3 ⟨vs, H2, I3, rv, q2⟩ => ⟨⟨ClX.pin_at I3, I3.kIn⟩, ?_⟩) hst hpl
    have r2 : Vals (V.ref x :: (vs ++ dvs)) (Value.ref x :: (us ++ ds)) := .cons rfl (rv.append hd)
    have hl : (Value.ref x :: us ++ ds).length = ps.length := by
      have z := r2.length
      rw [F.len _ _ _ _ q2] at z
      exact z.symm
    refine wpAny_call (PySem.W.method_call (ClX.pin_at I3) (codeAny_mono (F.run X.A X.stack _ _ ⟨Value.ref x :: us, []⟩ (Value.ref x :: (us ++ ds)) _ _ E hr I3.env0 (hb _ (Value.ref x :: us) I3.kIn hl) r2 q2) fun r s' hq => ?_))
    cases r with
    | error er => exact hx _ σ _ _ er s' (ClX.unpin I3) hq
    | ok fl =>
      cases fl with
      | ret v =>
        obtain ⟨v', H', I4, _, q3⟩ := (ClX.unpin I3).after hq
        exact hr2.run _ s' σ H' Dn I4 q3
      | next => exact False.elim hq
      | brk => exact False.elim hq
      | cont => exact False.elim hq
end
end L2.DS
/-! Own exceptions whose __init__ says super().__init__('text'); self.f = f. -/
namespace L2.DS
open PySem PySem.Spec PyProof.Rows
abbrev eTail (B : String) : List Value := [.type B, .type "Exception", .type "BaseException", .type "object"]
/-! ### C(e) -/
/-! ### n.f, n the error that an except suite holds -/
end L2.DS
/-! The rule for a def that says super().__init__. -/
namespace L2.DS
open PySem PySem.Spec PyProof.Rows
structure FunS (prog : Program) (K : PySem.W.Frag) (x qual : Str) (st : Stmt) (f : Addr) (fd : FuncData) (D : Addr) : Prop where
  ex : ∃ (oc : Value) (od : Option Addr) (dV kV doc pm : Value) (an : Option Addr) (cda : Addr) (ct : Value) (osl : Array (Option Value)) (cc : Addr) (ol : Obj) (vs : Array Value) (file : Str) (tf : Tok) (ccl : Value) (ccd : Option Addr) (csl : Array (Option Value)),
    fd = PySem.W.fnX x qual (defArgs st) (defBody st) (defScope st) [("__class__", cc)] dV kV doc pm an (.ref cda) ct ∧ K.lookup f = some ⟨oc, od, .func fd, osl⟩ ∧ PySem.W.codeIn K (.ref cda) qual = true ∧
    K.lookup cda = some ol ∧ ol.data = .fields vs ∧ vs[2]? = some (.str file tf) ∧ ((prog.main.file : Str) == file) = true ∧ K.lookup cc = some ⟨ccl, ccd, .cell (some (.ref D)), csl⟩
  cls : ∃ oD cd, K.lookup D = some oD ∧ oD.data = .cls cd
  kp : PySem.W.keepIn K (.ref f) = true
  fi : PySem.W.fnIn K f = true
  ty : PySem.W.typeIn K (.ref f) = some (.type "function")
section
variable {P : Program} {w : World} {K : PySem.W.Frag} {mg : Str → Option Value} {base : Heap}
theorem FunS.okX {x qual : Str} {st : Stmt} {f D : Addr} {fd : FuncData} {N ps : List Str} {k : Nat} {sp : Sp} {ar : Str} {a : Arg} (F : FunS P K x qual st f fd D) (S : ScS N ps (defScope st)) (hmg : mg "super" = none)
    (opq : PySem.W.nsIn K cStatics "thirdparty.any" = some none) (top : (P.main.scope.names.lookup ("super" : Str)).isSome = false) (har : ((defArgs st).posonlyargs ++ (defArgs st).args).head? = some a) (har2 : a.arg = ar)
    (len : ∀ vs H Q E, sp vs H Q E → vs.length = ps.length)
    (hbody : ∀ (cdv : Value) (cc : Addr) (A : Around) (outer : List Env) (s : Shared) (H : Hp) (vs : List V) (Q : VK) (E : XK), Room k (A.deeper (envS qual (defScope st) s.heap.objs.size f cdv cc)) → sp vs H Q E →
      SupAt (cxS (L2.CX P w) P w K mg base N qual (defScope st) f cdv cc A outer s H E) D ar →
      ∃ t, PSA (cxS (L2.CX P w) P w K mg base N qual (defScope st) f cdv cc A outer s H E) (defBody st) (defBody st) t ∧ t { nx := fun _ H' => Q .non H', rt := Q } (start N vs) H) : FnOk P w K mg base (L2.CX P w) (k + 1) f fd ps sp := by
  obtain ⟨oc, od, dV, kV, doc, pm, an, cda, ct, osl, cc, ol, vs, file, tf, ccl, ccd, csl, rfl, l1, l2, l3, l4, l5, l6, l7⟩ := F.ex
  refine ⟨len, fun A outer s H args us ws Q E hr e0 hb r hsp => ?_⟩
  have hl := len _ _ _ _ hsp
  have kb : ∀ b o, base.get? b = some o → s.heap.get? b = some o := fun b o e => (e0.bs b o e).1
  have KX : K.In s.heap := e0.mod.kin.keeps kb
  have lim : s.heap.NoLimit := e0.mod.nolimit.keeps kb
  refine codeAny_call_function hr.depth (KX _ _ l1) rfl S.co S.gen rfl (PySem.W.codeRec_of KX l2) (hb _ _ _ _ ?_)
  refine new_envS S.kind (fun y hy => ?_) fun s1 x1 => ⟨lim.keeps x1.toInCall.keep, ks_codeAny_funcAt ?_⟩
  · obtain ⟨n, v⟩ := y
    rcases S.par n (List.of_mem_zip hy).1 with q | q
    · exact .inl q
    · exact .inr ⟨q, PySem.W.cellsFrom_some _ _ _ (.inl q)⟩
  · have I := inv_startS (CX := L2.CX P w) (E := E) (N := N) (qual := qual) (f := f) (cd := .ref cda) S hr.hd e0 hl r l7 x1
    have SA : SupAt (cxS (L2.CX P w) P w K mg base N qual (defScope st) f (.ref cda) cc A outer s H E) D ar :=
      ⟨S.cls, S.sup, ⟨f, _, _, a, rfl, l1, rfl, har, har2⟩, ⟨cda, ol, vs, file, tf, rfl, l3, l4, l5, l6⟩, top, ⟨cc, _, look_clsS S, l7, rfl⟩, F.cls, hmg, opq⟩
    obtain ⟨t, ht, hq⟩ := hbody (.ref cda) cc A outer s H ws Q E (hr.deeper _) hsp SA
    refine ks_wpAt_mono (ht.run [] s1 (start N ws) H _ I hq) (fun fl s' hs => ?_) fun _ _ z => z
    have fin : ∀ {σ' : L2.St} {H' : Hp} {v : V} {u : Value}, Inv (cxS (L2.CX P w) P w K mg base N qual (defScope st) f (.ref cda) cc A outer s H E) [] σ' H' s' → RelV v u → Q v H' → CE outer P w H s Q u s' :=
      fun {σ' H' v u} J rv q => ⟨v, H', J.os, J.bare, J.base, J.hok, rv, q⟩
    cases fl with
    | ret u =>
      obtain ⟨v, σ', H', J, rv, q⟩ := hs
      exact fin J rv q
    | next =>
      obtain ⟨σ', H', J, q⟩ := hs
      exact fin (v := V.non) (u := Value.none) J rfl q
    | brk =>
      obtain ⟨_, _, _, q⟩ := hs
      exact q.elim
    | cont =>
      obtain ⟨_, _, _, q⟩ := hs
      exact q.elim
end
end L2.DS
/-! What a reading evaluates to: G what stands still, H the heap, S n what is known of both (n: how often numbers were drawn). -/
namespace L2.DS
open PySem PySem.Spec PyProof.Rows
/-- what is known of what stands still and of the heap; what may change under it -/
structure SR where
  s : Nat → Hp → Hp → Prop
  m : Addr → Prop
instance : CoeFun SR (fun _ => Nat → Hp → Hp → Prop) := ⟨SR.s⟩
/-- all stays but what may change -/
structure Kp (S : SR) (H H' : Hp) : Prop where
  k : ∀ b o, ¬ S.m b → H b = some o → H' b = some o
  v : ∀ b, H' b = none → H b = none
theorem Kp.refl {S : SR} (H : Hp) : Kp S H H := ⟨fun _ _ _ h => h, fun _ h => h⟩
theorem Kp.trans {S : SR} {H H1 H2 : Hp} (a : Kp S H H1) (b : Kp S H1 H2) : Kp S H H2 := ⟨fun c o h e => b.k c o h (a.k c o h e), fun c h => a.v c (b.v c h)⟩
theorem Kp.of {S : SR} {H H' : Hp} (s : Same H H') : Kp S H H' := ⟨fun b o _ e => s b o e, fun b h => s.free h⟩
structure Stp (S : SR) (n : Nat) (G H G' H' : Hp) : Prop where
  g : Same G G'
  k : Kp S H H'
  s : S n G' H'
  n : ∀ b o, G' b = some o → G b = some o ∨ H b = none
theorem Stp.refl {S : SR} {n : Nat} {G H : Hp} (s : S n G H) : Stp S n G H G H := ⟨Same.refl _, Kp.refl _, s, fun _ _ h => .inl h⟩
theorem Stp.trans {S : SR} {n m : Nat} {G H G1 H1 G2 H2 : Hp} (a : Stp S n G H G1 H1) (b : Stp S m G1 H1 G2 H2) : Stp S m G H G2 H2 := ⟨a.g.trans b.g, a.k.trans b.k, b.s, fun c o e => by
  rcases b.n c o e with q | q
  · exact a.n c o q
  · exact .inr (a.k.v c q)⟩
theorem Stp.up {S : SR} {n a b : Nat} {G H G1 H1 : Hp} (h : Stp S (n + a + b) G H G1 H1) : Stp S (n + (a + b)) G H G1 H1 := by
  rw [← Nat.add_assoc]
  exact h
abbrev HR := V → Hp → Prop
/-- H' grows out of H, G' out of G: what is new in G' is new in H' -/
structure Grow (G H G' H' : Hp) : Prop where
  g : Same G G'
  h : Same H H'
  s : Same G' H'
  n : ∀ b o, G' b = some o → G b = some o ∨ H b = none
theorem Grow.refl {G H : Hp} (s : Same G H) : Grow G H G H := ⟨Same.refl _, Same.refl _, s, fun _ _ h => .inl h⟩
theorem Grow.trans {G H G1 H1 G2 H2 : Hp} (a : Grow G H G1 H1) (b : Grow G1 H1 G2 H2) : Grow G H G2 H2 :=
  ⟨a.g.trans b.g, a.h.trans b.h, b.s, fun c o e => by
    rcases b.n c o e with q | q
    · exact a.n c o q
    · exact .inr (a.h.free q)⟩
theorem Grow.new {G H : Hp} {p : Addr} (s : Same G H) (hp : H p = none) (o : HO) : Grow G H (upd G p o) (upd H p o) :=
  ⟨fun b u e => by rw [upd_ne (ne_of_none e (s.free hp))]; exact e, fun b u e => by rw [upd_ne (ne_of_none e hp)]; exact e, fun b u e => by
    by_cases hb : b = p
    · subst hb
      rw [upd_same] at e ⊢
      exact e
    · rw [upd_ne hb] at e ⊢
      exact s b u e, fun b u e => by
    by_cases hb : b = p
    · rw [hb]
      exact .inr hp
    · rw [upd_ne hb] at e
      exact .inl e⟩
/-- a new thing that nobody tells of -/
theorem Grow.hid {G H : Hp} {p : Addr} (s : Same G H) (hp : H p = none) (o : HO) : Grow G H G (upd H p o) :=
  ⟨Same.refl _, fun b u e => by rw [upd_ne (ne_of_none e hp)]; exact e, fun b u e => by rw [upd_ne (ne_of_none e (s.free hp))]; exact s b u e, fun b u e => .inl e⟩
structure Stab (S : SR) : Prop where
  sub : ∀ {n G H}, S n G H → Same G H
  wk : ∀ {n m G H}, S n G H → n ≤ m → S m G H
  grow : ∀ {n G H G' H'}, S n G H → Grow G H G' H' → S n G' H'
  anti : ∀ {n m G H G' H'}, S n G H → S m G' H' → Same G G' → S m G H'
  /-- what is new may change while nobody tells of it -/
  chg : ∀ {n m G H G' H' D o}, S n G H → H D = none → S m G' H' → G' D = none → S m G' (upd H' D o)
  pub : ∀ {n m G H G' H' D o}, S n G H → H D = none → S m G' H' → G' D = none → H' D = some o → S m (upd G' D o) H'
  fre : ∀ {n G H D}, S n G H → H D = none → ¬ S.m D
/-- nothing but growth -/
def SP0 (G0 H0 : Hp) : SR := ⟨fun _ G H => Grow G0 H0 G H, fun _ => False⟩
theorem Stp.same {G0 H0 : Hp} {n : Nat} {G H G' H' : Hp} (s : Stp (SP0 G0 H0) n G H G' H') : Same H H' := fun b o e => s.k.k b o (fun z => z) e
theorem Stab.new {S : SR} (st : Stab S) {n : Nat} {G H : Hp} {p : Addr} {o : HO} (s : S n G H) (hp : H p = none) : Stp S n G H (upd G p o) (upd H p o) :=
  have g := Grow.new (st.sub s) hp o
  ⟨g.g, Kp.of g.h, st.grow s g, g.n⟩
theorem Stab.gro {S : SR} (st : Stab S) {n : Nat} {G H G' H' : Hp} (s : S n G H) (g : Grow G H G' H') : Stp S n G H G' H' := ⟨g.g, Kp.of g.h, st.grow s g, g.n⟩
theorem stab0 (G0 H0 : Hp) : Stab (SP0 G0 H0) where
  sub := fun h => h.s
  wk := fun h _ => h
  grow := fun h g => Grow.trans h g
  anti := fun {n m G H G' H'} h h' s => ⟨h.g, h'.h, s.trans h'.s, fun b o e => h'.n b o (s b o e)⟩
  chg := fun {n m G H G' H' D o} h d h' g => ⟨h'.g, fun b u e => by
      rw [upd_ne (ne_of_none e (h.h.free d))]
      exact h'.h b u e, fun b u e => by
      rw [upd_ne (ne_of_none e g)]
      exact h'.s b u e, h'.n⟩
  pub := fun {n m G H G' H' D o} h d h' g e => ⟨fun b u z => by
      rw [upd_ne (ne_of_none z (h'.g.free g))]
      exact h'.g b u z, h'.h, fun b u z => by
      by_cases hb : b = D
      · rw [hb, upd_same] at z
        rw [hb, ← z]
        exact e
      · rw [upd_ne hb] at z
        exact h'.s b u z, fun b u z => by
      by_cases hb : b = D
      · rw [hb]
        exact .inr (h.h.free d)
      · rw [upd_ne hb] at z
        exact h'.n b u z⟩
  fre := fun _ _ z => z
/-! ### results -/
class Mon (R : HR) : Prop where
  mon : ∀ {v : V} {G G' : Hp}, Same G G' → R v G → R v G'
def IsV (x : V) : HR := fun v _ => v = x
def IsI (P : Int → Prop) : HR := fun v _ => ∃ i, P i ∧ v = .int i
def IsB (P : Bool → Prop) : HR := fun v _ => ∃ b, P b ∧ v = .bl b
def IsS (P : Str → Prop) : HR := fun v _ => ∃ b, P b ∧ v = .str b
def IsL (K : PySem.W.Frag) (xs : List V) : HR := fun v G => ∃ p, v = .ref p ∧ SqL K G p xs
def IsT (K : PySem.W.Frag) (xs : List V) : HR := fun v G => ∃ p, v = .ref p ∧ SqT K G p xs
def IsD (K : PySem.W.Frag) (d : PyData) : HR := fun v G => Dp K G v d
abbrev HRs := List V → Hp → Prop
class Mons (R : HRs) : Prop where
  mon : ∀ {v : List V} {G G' : Hp}, Same G G' → R v G → R v G'
def RNil : HRs := fun vs _ => vs = []
def RCons (R : HR) (RA : HRs) : HRs := fun vs G => ∃ v r, vs = v :: r ∧ R v G ∧ RA r G
def IsVs (ws : List V) : HRs := fun vs _ => vs = ws
/-- a list, a tuple of things of which RA tells -/
def IsLA (K : PySem.W.Frag) (RA : HRs) : HR := fun v G => ∃ p xs, v = .ref p ∧ SqL K G p xs ∧ RA xs G
def IsTA (K : PySem.W.Frag) (RA : HRs) : HR := fun v G => ∃ p xs, v = .ref p ∧ SqT K G p xs ∧ RA xs G
theorem same_t {K : PySem.W.Frag} {H H' : Hp} {a : Addr} {xs : List V} (e : Same H H') (h : SqT K H a xs) : SqT K H' a xs := by
  rcases h with (h | ⟨o, h⟩) | h
  · exact .inl (.inl (e _ _ h))
  · exact .inl (.inr ⟨o, e _ _ h⟩)
  · exact .inr h
mutual
theorem dp_mon {K : PySem.W.Frag} {G G' : Hp} (s : Same G G') : ∀ {v : V} {d : PyData}, Dp K G v d → Dp K G' v d
  | _, _, .non => .non
  | _, _, .bl b => .bl b
  | _, _, .int i => .int i
  | _, _, .str x => .str x
  | _, _, .lst h hs => .lst (s.seq h) (dps_mon s hs)
  | _, _, .tup h hs => .tup (same_t s h) (dps_mon s hs)
theorem dps_mon {K : PySem.W.Frag} {G G' : Hp} (s : Same G G') : ∀ {vs : List V} {ds : List PyData}, DpAll K G vs ds → DpAll K G' vs ds
  | _, _, .nil => .nil
  | _, _, .cons h hs => .cons (dp_mon s h) (dps_mon s hs)
end
instance (x : V) : Mon (IsV x) := ⟨fun _ h => h⟩
instance (P : Int → Prop) : Mon (IsI P) := ⟨fun _ h => h⟩
instance (P : Bool → Prop) : Mon (IsB P) := ⟨fun _ h => h⟩
instance (P : Str → Prop) : Mon (IsS P) := ⟨fun _ h => h⟩
instance (K xs) : Mon (IsL K xs) := ⟨fun s ⟨p, e, h⟩ => ⟨p, e, s.seq h⟩⟩
instance (K xs) : Mon (IsT K xs) := ⟨fun s ⟨p, e, h⟩ => ⟨p, e, same_t s h⟩⟩
instance (K d) : Mon (IsD K d) := ⟨fun s h => dp_mon s h⟩
instance : Mons RNil := ⟨fun _ h => h⟩
instance (ws) : Mons (IsVs ws) := ⟨fun _ h => h⟩
instance (R RA) [Mon R] [Mons RA] : Mons (RCons R RA) := ⟨fun s ⟨v, r, e, h, h'⟩ => ⟨v, r, e, Mon.mon s h, Mons.mon s h'⟩⟩
instance (K RA) [Mons RA] : Mon (IsLA K RA) := ⟨fun s ⟨p, xs, e, h, h'⟩ => ⟨p, xs, e, s.seq h, Mons.mon s h'⟩⟩
instance (K RA) [Mons RA] : Mon (IsTA K RA) := ⟨fun s ⟨p, xs, e, h, h'⟩ => ⟨p, xs, e, same_t s h, Mons.mon s h'⟩⟩
/-! ### what evaluates to what -/
variable (S : SR)
def Ev (n k : Nat) (te : TE) (σ : L2.St) (G : Hp) (R : HR) : Prop := ∀ G1 H1, Same G G1 → S n G1 H1 → ∀ Q : VK, (∀ v G2 H2, Stp S (n + k) G1 H1 G2 H2 → R v G2 → Q v H2) → te σ H1 Q
def EvT (n k : Nat) (tt : TT) (σ : L2.St) (G : Hp) (P : Bool → Prop) : Prop := ∀ G1 H1, Same G G1 → S n G1 H1 → ∀ Q : Bool → Hp → Prop, (∀ b G2 H2, Stp S (n + k) G1 H1 G2 H2 → P b → Q b H2) → tt σ H1 Q
def EvA (n k : Nat) (ta : TA) (σ : L2.St) (G : Hp) (RA : HRs) : Prop := ∀ G1 H1, Same G G1 → S n G1 H1 → ∀ Q : List V → Hp → Prop, (∀ v G2 H2, Stp S (n + k) G1 H1 G2 H2 → RA v G2 → Q v H2) → ta σ H1 Q
/-- operations by values -/
def RV (r : R2) (x y : V) (G : Hp) (R : HR) : Prop := ∀ n G1 H1, Same G G1 → S n G1 H1 → ∀ Q : VK, (∀ v G2 H2, Stp S n G1 H1 G2 H2 → R v G2 → Q v H2) → r x y H1 Q
def RU (r : V → Hp → VK → Prop) (x : V) (G : Hp) (R : HR) : Prop := ∀ n G1 H1, Same G G1 → S n G1 H1 → ∀ Q : VK, (∀ v G2 H2, Stp S n G1 H1 G2 H2 → R v G2 → Q v H2) → r x H1 Q
def RC (r : List V → Hp → VK → Prop) (xs : List V) (G : Hp) (R : HR) : Prop := ∀ n G1 H1, Same G G1 → S n G1 H1 → ∀ Q : VK, (∀ v G2 H2, Stp S n G1 H1 G2 H2 → R v G2 → Q v H2) → r xs H1 Q
variable {S}
section
variable {n k ka kb kc : Nat} {te ta tb : TE} {tt tu : TT} {t tr : TA} {σ : L2.St} {G G' : Hp} {R Ra Rb : HR} {RA : HRs} {P P' : Bool → Prop} {x y : V} {r : R2}
theorem Ev.mono (h : Ev S n k te σ G R) (s : Same G G') : Ev S n k te σ G' R := fun G1 H1 a b Q q => h G1 H1 (s.trans a) b Q q
theorem EvT.mono (h : EvT S n k tt σ G P) (s : Same G G') : EvT S n k tt σ G' P := fun G1 H1 a b Q q => h G1 H1 (s.trans a) b Q q
theorem EvA.mono (h : EvA S n k t σ G RA) (s : Same G G') : EvA S n k t σ G' RA := fun G1 H1 a b Q q => h G1 H1 (s.trans a) b Q q
theorem Ev.imp (h : Ev S n k te σ G R) (i : ∀ v G', Same G G' → R v G' → Rb v G') : Ev S n k te σ G Rb := fun G1 H1 a b Q q => h G1 H1 a b Q fun v G2 H2 s e => q v G2 H2 s (i v G2 (a.trans s.g) e)
theorem EvT.imp (h : EvT S n k tt σ G P) (i : ∀ b, P b → P' b) : EvT S n k tt σ G P' := fun G1 H1 a b Q q => h G1 H1 a b Q fun v G2 H2 s e => q v G2 H2 s (i v e)
theorem Stp.wk (st : Stab S) {m : Nat} {H G1 H1 : Hp} (s : Stp S n G H G1 H1) (h : n ≤ m) : Stp S m G H G1 H1 := ⟨s.g, s.k, st.wk s.s h, s.n⟩
theorem Ev.wk (st : Stab S) (h : Ev S n ka te σ G R) (hk : ka ≤ kb) : Ev S n kb te σ G R := fun G1 H1 a b Q q => h G1 H1 a b Q fun v G2 H2 s e => q v G2 H2 (s.wk st (by omega)) e
theorem ev_var {i : Nat} (h : σ[i]? = some (some x)) : Ev S n 0 (tVar i) σ G (IsV x) := fun G1 H1 _ s Q q => ⟨x, h, q x G1 H1 (Stp.refl s) rfl⟩
theorem ev_c : Ev S n 0 (tC x) σ G (IsV x) := fun G1 H1 _ s Q q => q x G1 H1 (Stp.refl s) rfl
theorem ev_op [Mon Ra] (ha : Ev S n ka ta σ G Ra) (hb : Ev S (n + ka) kb tb σ G Rb) (hr : ∀ x y G', Same G G' → Ra x G' → Rb y G' → RV S r x y G' R) : Ev S n (ka + kb) (tOp r ta tb) σ G R := fun G1 H1 a s Q q =>
  ha G1 H1 a s _ fun x G2 H2 s2 rx => hb G2 H2 (a.trans s2.g) s2.s _ fun y G3 H3 s3 ry =>
    hr x y G3 ((a.trans s2.g).trans s3.g) (Mon.mon s3.g rx) ry _ G3 H3 (Same.refl _) s3.s Q fun v G4 H4 s4 e => q v G4 H4 ((s2.trans s3).trans s4).up e
/-- both operands known -/
theorem ev_opV (ha : Ev S n ka ta σ G (IsV x)) (hb : Ev S (n + ka) kb tb σ G (IsV y)) (hr : RV S r x y G R) : Ev S n (ka + kb) (tOp r ta tb) σ G R :=
  ev_op ha hb fun u v G' s e1 e2 => by
    rw [show u = x from e1, show v = y from e2]
    exact fun n G1 H1 a s' Q q => hr n G1 H1 (s.trans a) s' Q q
theorem ev_un [Mon Ra] {r : V → Hp → VK → Prop} (ha : Ev S n ka ta σ G Ra) (hr : ∀ x G', Same G G' → Ra x G' → RU S r x G' R) : Ev S n ka (tUn r ta) σ G R := fun G1 H1 a s Q q =>
  ha G1 H1 a s _ fun x G2 H2 s2 rx => hr x G2 (a.trans s2.g) rx _ G2 H2 (Same.refl _) s2.s Q fun v G4 H4 s4 e => q v G4 H4 (s2.trans s4) e
theorem ev_unV {r : V → Hp → VK → Prop} (ha : Ev S n ka ta σ G (IsV x)) (hr : RU S r x G R) : Ev S n ka (tUn r ta) σ G R :=
  ev_un ha fun u G' s e => by
    rw [show u = x from e]
    exact fun n G1 H1 a s' Q q => hr n G1 H1 (s.trans a) s' Q q
/-! tests -/
theorem et_test (h : Ev S n k te σ G (IsB P)) : EvT S n k (tTest te) σ G P := fun G1 H1 a s Q q => h G1 H1 a s _ fun v G2 H2 s2 ⟨b, p, e⟩ => ⟨b, e, q b G2 H2 s2 p⟩
theorem et_testV {b : Bool} (h : Ev S n k te σ G (IsV (.bl b))) : EvT S n k (tTest te) σ G (fun c => c = b) := fun G1 H1 a s Q q => h G1 H1 a s _ fun v G2 H2 s2 e => ⟨b, e, q b G2 H2 s2 rfl⟩
theorem et_B {b : Bool} (h : Ev S n k te σ G (IsV (.bl b))) : EvT S n k (tB te) σ G (fun c => c = b) := fun G1 H1 a s Q q => h G1 H1 a s _ fun v G2 H2 s2 e => ⟨b, e, q b G2 H2 s2 rfl⟩
theorem et_and (st : Stab S) {a b : Bool} (h1 : EvT S n ka tt σ G (fun c => c = a)) (h2 : a = true → EvT S (n + ka) kb tu σ G (fun c => c = b)) : EvT S n (ka + kb) (tAnd tt tu) σ G (fun c => c = (a && b)) := fun G1 H1 s0 s Q q =>
  h1 G1 H1 s0 s _ fun c G2 H2 s2 e => by
    subst e
    cases c with
    | true => exact iteT (h2 rfl G2 H2 (s0.trans s2.g) s2.s Q fun d G3 H3 s3 e => q d G3 H3 (s2.trans s3).up e)
    | false => exact iteF (q false G2 H2 (s2.wk st (by omega)) rfl)
theorem et_or (st : Stab S) {a b : Bool} (h1 : EvT S n ka tt σ G (fun c => c = a)) (h2 : a = false → EvT S (n + ka) kb tu σ G (fun c => c = b)) : EvT S n (ka + kb) (tOr tt tu) σ G (fun c => c = (a || b)) := fun G1 H1 s0 s Q q =>
  h1 G1 H1 s0 s _ fun c G2 H2 s2 e => by
    subst e
    cases c with
    | false => exact iteF (h2 rfl G2 H2 (s0.trans s2.g) s2.s Q fun d G3 H3 s3 e => q d G3 H3 (s2.trans s3).up e)
    | true => exact iteT (q true G2 H2 (s2.wk st (by omega)) rfl)
theorem et_not {a : Bool} (h : EvT S n ka tt σ G (fun c => c = a)) : EvT S n ka (tNot tt) σ G (fun c => c = !a) := fun G1 H1 s0 s Q q => h G1 H1 s0 s _ fun c G2 H2 s2 e => q (!c) G2 H2 s2 (by rw [show c = a from e])
theorem ev_andV (st : Stab S) {a b : Bool} (h1 : Ev S n ka ta σ G (IsV (.bl a))) (h2 : a = true → Ev S (n + ka) kb tb σ G (IsV (.bl b))) : Ev S n (ka + kb) (tAndV ta tb) σ G (IsV (.bl (a && b))) := fun G1 H1 s0 s Q q =>
  h1 G1 H1 s0 s _ fun c G2 H2 s2 e => ⟨a, e, by
    cases a with
    | true => exact iteT (h2 rfl G2 H2 (s0.trans s2.g) s2.s Q fun d G3 H3 s3 e => q d G3 H3 (s2.trans s3).up e)
    | false => exact iteF (q _ G2 H2 (s2.wk st (by omega)) rfl)⟩
theorem ev_orV (st : Stab S) {a b : Bool} (h1 : Ev S n ka ta σ G (IsV (.bl a))) (h2 : a = false → Ev S (n + ka) kb tb σ G (IsV (.bl b))) : Ev S n (ka + kb) (tOrV ta tb) σ G (IsV (.bl (a || b))) := fun G1 H1 s0 s Q q =>
  h1 G1 H1 s0 s _ fun c G2 H2 s2 e => ⟨a, e, by
    cases a with
    | false => exact iteF (h2 rfl G2 H2 (s0.trans s2.g) s2.s Q fun d G3 H3 s3 e => q d G3 H3 (s2.trans s3).up e)
    | true => exact iteT (q _ G2 H2 (s2.wk st (by omega)) rfl)⟩
theorem ev_notV {a : Bool} (h : Ev S n ka ta σ G (IsV (.bl a))) : Ev S n ka (tNotV ta) σ G (IsV (.bl (!a))) := fun G1 H1 s0 s Q q => h G1 H1 s0 s _ fun c G2 H2 s2 e => ⟨a, e, q _ G2 H2 s2 rfl⟩
theorem ev_if (st : Stab S) {c : Bool} (h : EvT S n kc tt σ G (fun b => b = c)) (h1 : c = true → Ev S (n + kc) ka ta σ G R) (h2 : c = false → Ev S (n + kc) kb tb σ G R) : Ev S n (kc + (ka + kb)) (tIf tt ta tb) σ G R := fun G1 H1 s0 s Q q =>
  h G1 H1 s0 s _ fun b G2 H2 s2 e => by
    subst e
    cases b with
    | true => exact iteT (h1 rfl G2 H2 (s0.trans s2.g) s2.s Q fun v G3 H3 s3 e => q v G3 H3 ((s2.trans s3).wk st (by omega)) e)
    | false => exact iteF (h2 rfl G2 H2 (s0.trans s2.g) s2.s Q fun v G3 H3 s3 e => q v G3 H3 ((s2.trans s3).wk st (by omega)) e)
/-! arguments, displays -/
theorem ea_nil : EvA S n 0 tNil σ G RNil := fun G1 H1 _ s Q q => q [] G1 H1 (Stp.refl s) rfl
theorem ea_cons [Mon R] (h : Ev S n ka te σ G R) (hr : EvA S (n + ka) kb tr σ G RA) : EvA S n (ka + kb) (tCons te tr) σ G (RCons R RA) := fun G1 H1 s0 s Q q =>
  h G1 H1 s0 s _ fun v G2 H2 s2 e => hr G2 H2 (s0.trans s2.g) s2.s _ fun vs G3 H3 s3 e' => q (v :: vs) G3 H3 (s2.trans s3).up ⟨v, vs, rfl, Mon.mon s3.g e, e'⟩
theorem ea_nilV : EvA S n 0 tNil σ G (IsVs []) := ea_nil
theorem ea_consV {vs : List V} (h : Ev S n ka te σ G (IsV x)) (hr : EvA S (n + ka) kb tr σ G (IsVs vs)) : EvA S n (ka + kb) (tCons te tr) σ G (IsVs (x :: vs)) := fun G1 H1 s0 s Q q =>
  h G1 H1 s0 s _ fun v G2 H2 s2 e => hr G2 H2 (s0.trans s2.g) s2.s _ fun ws G3 H3 s3 e' => q (v :: ws) G3 H3 (s2.trans s3).up (by rw [show v = x from e, show ws = vs from e']; rfl)
theorem ev_cb {r : List V → Hp → VK → Prop} (h : EvA S n k t σ G RA) (hr : ∀ vs G', Same G G' → RA vs G' → RC S r vs G' R) : Ev S n k (tCB r t) σ G R := fun G1 H1 s0 s Q q =>
  h G1 H1 s0 s _ fun vs G2 H2 s2 e => hr vs G2 (s0.trans s2.g) e _ G2 H2 (Same.refl _) s2.s Q fun v G3 H3 s3 e' => q v G3 H3 (s2.trans s3) e'
theorem ev_cbV {r : List V → Hp → VK → Prop} {ws : List V} (h : EvA S n k t σ G (IsVs ws)) (hr : RC S r ws G R) : Ev S n k (tCB r t) σ G R :=
  ev_cb h fun vs G' s e => by
    rw [show vs = ws from e]
    exact fun n G1 H1 a s' Q q => hr n G1 H1 (s.trans a) s' Q q
/-! fields -/
theorem ev_fld (st : Stab S) {K : PySem.W.Frag} {a C dx : Addr} {fs : List (Str × V)} {f : Str} (h : Ev S n k te σ G (IsV (.ref a))) (ho : G a = some (.ins C dx fs)) (hc : Cls K C) (hn : NoAttr K C f) (hl : fs.lookup f = some x) : Ev S n k (tFld K te f) σ G (IsV x) := fun G1 H1 s0 s Q q =>
  h G1 H1 s0 s _ fun v G2 H2 s2 e => ⟨a, C, dx, fs, x, e, st.sub s2.s _ _ (s2.g _ _ (s0 _ _ ho)), hc, hn, hl, q x G2 H2 s2 rfl⟩
/-! promises -/
/-- a def that changes nothing that stood: P arguments, what stands still, the result -/
def spP (P : List V → Hp → HR → Prop) : Sp := fun vs H Q _ => ∃ G R, Same G H ∧ P vs G R ∧ ∀ v G' H', Grow G H G' H' → R v G' → Q v H'
theorem ev_call (st : Stab S) {P : List V → Hp → HR → Prop} {dvs : List V} {E : XK} (h : EvA S n k t σ G RA) (hp : ∀ vs G', Same G G' → RA vs G' → P (vs ++ dvs) G' R) : Ev S n k (tCall (spP P) dvs E t) σ G R := fun G1 H1 s0 s Q q =>
  h G1 H1 s0 s _ fun vs G2 H2 s2 e => ⟨G2, R, st.sub s2.s, hp vs G2 (s0.trans s2.g) e, fun v G' H' g r => q v G' H' (s2.trans (st.gro s2.s g)) r⟩
theorem ev_callV (st : Stab S) {P : List V → Hp → HR → Prop} {dvs ws : List V} {E : XK} (h : EvA S n k t σ G (IsVs ws)) (hp : ∀ G', Same G G' → P (ws ++ dvs) G' R) : Ev S n k (tCall (spP P) dvs E t) σ G R :=
  ev_call st h fun vs G' s e => by
    rw [show vs = ws from e]
    exact hp G' s
theorem ev_meth (st : Stab S) {P : List V → Hp → HR → Prop} {dvs : List V} {E : XK} {C a dx : Addr} {m : Str} {fs : List (Str × V)} (ho : Ev S n ka te σ G (IsV (.ref a))) (hi : G a = some (.ins C dx fs)) (hl : fs.lookup m = none) (h : EvA S (n + ka) kb t σ G RA)
    (hp : ∀ vs G', Same G G' → RA vs G' → P (.ref a :: (vs ++ dvs)) G' R) : Ev S n (ka + kb) (tMeth C m (spP P) dvs E te t) σ G R := fun G1 H1 s0 s Q q =>
  ho G1 H1 s0 s _ fun v G2 H2 s2 e => ⟨a, dx, fs, e, st.sub s2.s _ _ (s2.g _ _ (s0 _ _ hi)), hl, h G2 H2 (s0.trans s2.g) s2.s _ fun vs G3 H3 s3 e' =>
    ⟨G3, R, st.sub s3.s, by rw [show v = .ref a from e]; exact hp vs G3 ((s0.trans s2.g).trans s3.g) e', fun v G' H' g r => q v G' H' ((s2.trans s3).trans (st.gro s3.s g)).up r⟩⟩
end
/-! ### operations -/
section
variable {K : PySem.W.Frag} {G : Hp} {R : HR} {x y : V} {r r' : R2} {i j : Int} {s z : Str}
theorem rv_val {v : V} (h : ∀ H, Same G H → ∀ Q : VK, Q v H → r x y H Q) (st : Stab S) : RV S r x y G (IsV v) := fun n G1 H1 s0 s Q q => h H1 (s0.trans (st.sub s)) Q (q v G1 H1 (Stp.refl s) rfl)
theorem rv_l (h : RV S r x y G R) : RV S (fun x y H Q => r x y H Q ∨ r' x y H Q) x y G R := fun n G1 H1 s0 s Q q => .inl (h n G1 H1 s0 s Q q)
theorem rv_r (h : RV S r' x y G R) : RV S (fun x y H Q => r x y H Q ∨ r' x y H Q) x y G R := fun n G1 H1 s0 s Q q => .inr (h n G1 H1 s0 s Q q)
theorem rv_I0 (st : Stab S) {g : Int → Int → V} : RV S (rI0 g) (.int i) (.int j) G (IsV (g i j)) := rv_val (fun H _ Q q => ⟨i, j, rfl, rfl, q⟩) st
theorem rv_I (st : Stab S) {C : Int → Int → Prop} {g : Int → Int → V} (hc : C i j) : RV S (rI C g) (.int i) (.int j) G (IsV (g i j)) := rv_val (fun H _ Q q => ⟨i, j, rfl, rfl, hc, q⟩) st
theorem rv_eq (st : Stab S) (h : scal x y = true) : RV S rEq x y G (IsV (.bl (decide (x = y)))) := rv_val (fun H _ Q q => ⟨h, q⟩) st
theorem rv_ne (st : Stab S) (h : scal x y = true) : RV S rNe x y G (IsV (.bl (!decide (x = y)))) := rv_val (fun H _ Q q => ⟨h, q⟩) st
theorem ru_I (st : Stab S) {g : Int → V} : RU S (rU g) (.int i) G (IsV (g i)) := fun n G1 H1 s0 s Q q => ⟨i, rfl, q _ G1 H1 (Stp.refl s) rfl⟩
theorem rv_ixL (st : Stab S) {p : Addr} {xs : List V} {v : V} (h : SqL K G p xs) (ha : atI xs i = some v) : RV S (rIxL K) (.ref p) (.int i) G (IsV v) := rv_val (fun H s Q q => ⟨p, xs, i, v, rfl, rfl, s.seq h, ha, q⟩) st
theorem rv_ixT (st : Stab S) {p : Addr} {xs : List V} {v : V} (h : SqT K G p xs) (ha : atI xs i = some v) : RV S (rIxT K) (.ref p) (.int i) G (IsV v) := rv_val (fun H s Q q => ⟨p, xs, i, v, rfl, rfl, same_t s h, ha, q⟩) st
end
/-! ### statements -/
section
variable {k n : Nat} {te : TE} {tt : TT} {ts t1 t2 u : TS} {σ : L2.St} {G H : Hp} {R : HR} {P : Bool → Prop} {x : V} {nx bk ct : L2.St → Hp → Prop} {rt : VK} {i : Nat}
theorem q_end (h : nx σ H) : tNext (Ends.mk nx rt bk ct) σ H := h
theorem q_ret (s : S n G H) (e : Ev S n k te σ G R) (h : ∀ v G' H', Stp S (n + k) G H G' H' → R v G' → rt v H') : tSeq (tRet te) u (Ends.mk nx rt bk ct) σ H := e G H (Same.refl _) s _ h
theorem q_retV (st : Stab S) (s : S n G H) (e : Ev S n k te σ G (IsV x)) (h : ∀ H', Kp S H H' → S (n + k) G H' → rt x H') : tSeq (tRet te) u (Ends.mk nx rt bk ct) σ H := q_ret s e fun v G' H' s1 e => by
  rw [show v = x from e]
  exact h H' s1.k (st.anti s s1.s s1.g)
theorem q_set (s : S n G H) (e : Ev S n k te σ G R) (h : ∀ v G' H', Stp S (n + k) G H G' H' → R v G' → u (Ends.mk nx rt bk ct) (σ.set i (some v)) H') : tSeq (tAsg te (gName i)) u (Ends.mk nx rt bk ct) σ H := e G H (Same.refl _) s _ h
theorem q_setV (st : Stab S) (s : S n G H) (e : Ev S n k te σ G (IsV x)) (h : ∀ H', Kp S H H' → S (n + k) G H' → u (Ends.mk nx rt bk ct) (σ.set i (some x)) H') : tSeq (tAsg te (gName i)) u (Ends.mk nx rt bk ct) σ H := q_set s e fun v G' H' s1 e => by
  rw [show v = x from e]
  exact h H' s1.k (st.anti s s1.s s1.g)
theorem q_setI (st : Stab S) (s : S n G H) {P : Int → Prop} (e : Ev S n k te σ G (IsI P)) (h : ∀ j H', P j → Kp S H H' → S (n + k) G H' → u (Ends.mk nx rt bk ct) (σ.set i (some (.int j))) H') : tSeq (tAsg te (gName i)) u (Ends.mk nx rt bk ct) σ H := q_set s e fun v G' H' s1 ⟨j, p, e⟩ => by
  rw [e]
  exact h j H' p s1.k (st.anti s s1.s s1.g)
theorem q_if (st : Stab S) (s : S n G H) (e : EvT S n k tt σ G P) (h1 : ∀ H', P true → Kp S H H' → S (n + k) G H' → t1 (Ends.mk (u (Ends.mk nx rt bk ct)) rt bk ct) σ H') (h2 : ∀ H', P false → Kp S H H' → S (n + k) G H' → t2 (Ends.mk (u (Ends.mk nx rt bk ct)) rt bk ct) σ H') :
    tSeq (tIfS tt t1 t2) u (Ends.mk nx rt bk ct) σ H := e G H (Same.refl _) s _ fun b G' H' s1 p => by
  cases b with
  | true => exact iteT (h1 H' p s1.k (st.anti s s1.s s1.g))
  | false => exact iteF (h2 H' p s1.k (st.anti s s1.s s1.g))
end
end L2.DS
/-! Callees by one fact each; operators of several kinds by one rule each. -/
namespace L2.DS
open PySem PySem.Spec PyProof.Rows
/-- a def of the top, by its name -/
def Callee (P : Program) (w : World) (K : PySem.W.Frag) (mg : Str → Option Value) (base : Heap) (x : Str) (CX : CXT) (k : Nat) (ps : List Str) (dvs : List V) (sp : Sp) : Prop :=
  ∃ (f : Addr) (fd : FuncData) (ds : List Value), mg x = some (.ref f) ∧ PySem.W.keepIn K (.ref f) = true ∧ FnOk P w K mg base CX k f fd ps sp ∧ Binds K fd ps ds ∧ Vals dvs ds
/-- a method m of the class at C -/
def Method (P : Program) (w : World) (K : PySem.W.Frag) (mg : Str → Option Value) (base : Heap) (C : Addr) (m : Str) (CX : CXT) (k : Nat) (ps : List Str) (dvs : List V) (sp : Sp) : Prop :=
  ∃ (f : Addr) (fd : FuncData) (ds : List Value), Cls K C ∧ Meth K C m f ∧ FnOk P w K mg base CX k f fd ps sp ∧ Binds K fd ps ds ∧ Vals dvs ds
/-- a class of the top with an own __init__, made by its name -/
def Maker (P : Program) (w : World) (K : PySem.W.Frag) (mg : Str → Option Value) (base : Heap) (x : Str) (C : Addr) (CX : CXT) (k : Nat) (ps : List Str) (dvs : List V) (sp : Sp) : Prop :=
  ∃ (f : Addr) (fd : FuncData) (ds : List Value), mg x = some (.ref C) ∧ Mk K C f ∧ FnOk P w K mg base CX k f fd ps sp ∧ Binds K fd ps ds ∧ Vals dvs ds
section
variable {X : Cx} {CX : CXT} {k : Nat} {ps : List Str} {dvs : List V} {sp : Sp} {E : XK} {x m : Str} {C : Addr} {e o : Expr} {es : List Expr} {t : TA} {ta : TE} {p pos apos : Pos}
theorem pe_callC (c : Callee X.prog X.w X.K X.mg X.base x CX k ps dvs sp) (hr : Room k X.A) (hx : Passes CX X E) (ha : PA X (e :: es) t) (hg : Gl X x := by rfl) (hdb : (x == ("__debug__" : Str)) = false := by decide)
    (he : starEach (e :: es) X.env = (false, eval e X.env) :: starEach es X.env := by rfl) (hpl : (backTo pos (starEach es X.env)).any (·.1) = false := by rfl) : PE X (.Call (.Name x p) (e :: es) [] pos) (tCall sp dvs E t) := by
  obtain ⟨f, fd, ds, h1, h2, h3, h4, h5⟩ := c
  exact pe_call h3 hr hg h1 h2 h4 h5 hx ha hdb he hpl
theorem pe_methC {pl : Sem Bool} (c : Method X.prog X.w X.K X.mg X.base C m CX k ps dvs sp) (hr : Room k X.A) (hx : Passes CX X E) (ho : PE X o ta) (ha : PA X (e :: es) t)
    (hst : starEach (e :: es) X.env = (false, eval e X.env) :: starEach es X.env := by rfl) (hpl : (backTo pos (starEach es X.env)).any (·.1) = false := by rfl)
    (ht : eval (.Call (.Attribute o m apos) (e :: es) [] pos) X.env = (do
      let ov ← eval o X.env
      standAt apos.atName
      let (f, first) ← holding [ov] (getMethod ov m pl)
      callWith pos f first (backTo pos (starEach (e :: es) X.env)) (backToKw pos (keywordEach [] X.env))) := by rfl) :
    PE X (.Call (.Attribute o m apos) (e :: es) [] pos) (tMeth C m sp dvs E ta t) := by
  obtain ⟨f, fd, ds, h1, h2, h3, h4, h5⟩ := c
  exact pe_meth ho h1 h2 h3 hr h4 h5 hx ha hst hpl ht
theorem pe_makeC (c : Maker X.prog X.w X.K X.mg X.base x C CX k ps dvs sp) (hr : Room (k + 1) X.A) (hx : Passes CX X E) (ha : PA X (e :: es) t) (hg : Gl X x := by rfl) (hdb : (x == ("__debug__" : Str)) = false := by decide)
    (he : starEach (e :: es) X.env = (false, eval e X.env) :: starEach es X.env := by rfl) (hpl : (backTo pos (starEach es X.env)).any (·.1) = false := by rfl) : PE X (.Call (.Name x p) (e :: es) [] pos) (tMake C sp dvs E t) := by
  obtain ⟨f, fd, ds, h1, h2, h3, h4, h5⟩ := c
  exact pe_make h2 h3 hr hg h1 h4 h5 hx ha hdb he hpl
end
/-! ### operators of several kinds -/
def rAddS : R2 := fun x y H Q => ∃ i j, x = .str i ∧ y = .str j ∧ i.length + j.length ≤ sizeLine ∧ Q (.str (i ++ j)) H
def rMul : R2 := fun x y H Q => rI CMul (fun i j => .int (i * j)) x y H Q ∨ rI CMulW (fun i j => .int (i * j)) x y H Q
def rDiv : R2 := fun x y H Q => rI CDiv (fun i j => .int (i / j)) x y H Q ∨ rI CDivW (fun i j => .int (i / j)) x y H Q
def rMod : R2 := rI (fun _ j => 0 < j) fun i j => .int (i % j)
def rAdd2 : R2 := fun x y H Q => rI0 (fun i j => .int (i + j)) x y H Q ∨ rAddS x y H Q
def rAddA : R2 := fun x y H Q => rAdd2 x y H Q ∨ rCat x y H Q
def rSubI : R2 := rI0 fun i j => .int (i - j)
def rLtI : R2 := rI0 fun i j => .bl (decide (i < j))
def rLeI : R2 := rI0 fun i j => .bl (decide (i ≤ j))
def rGtI : R2 := rI0 fun i j => .bl (decide (j < i))
def rGeI : R2 := rI0 fun i j => .bl (decide (j ≤ i))
def rEqA (K : PySem.W.Frag) : R2 := fun x y H Q => rEq x y H Q ∨ rEqD K x y H Q
def rNeA (K : PySem.W.Frag) : R2 := fun x y H Q => rNe x y H Q ∨ rNeD K x y H Q
def rDGet : R2 := fun x y H Q => ∃ a v, x = .ref a ∧ DGet H a y (some v) ∧ Q v H
def rDIn (neg : Bool) : R2 := fun y x H Q => ∃ a o, x = .ref a ∧ DGet H a y o ∧ Q (.bl (if neg then !o.isSome else o.isSome)) H
def rInA (K : PySem.W.Frag) (neg : Bool) : R2 := fun x y H Q => rIn K neg x y H Q ∨ rDIn neg x y H Q
def rIxA (K : PySem.W.Frag) : R2 := fun x y H Q => rIx K x y H Q ∨ rDGet x y H Q
def rSetD : TSet := fun o i v H Q => ∃ a H', o = .ref a ∧ DPut H a i v H' ∧ Q H'
def rSetA : TSet := fun o i v H Q => rSetL o i v H Q ∨ rSetD o i v H Q
section
variable {X : Cx}
theorem op_addA : OpR X (binaryOp .Add) rAddA := OpR.or (OpR.or op_add op_add_str) op_cat
theorem op_mulA : OpR X (binaryOp .Mult) rMul := OpR.or op_mul op_mulW
theorem op_divA : OpR X (binaryOp .FloorDiv) rDiv := OpR.or op_fdiv op_fdivW
theorem op_modA : OpR X (binaryOp .Mod) rMod := op_mod
theorem op_subA : OpR X (binaryOp .Sub) rSubI := op_sub
theorem op_ltA : OpR X (compareOp .Lt) rLtI := op_lt
theorem op_leA : OpR X (compareOp .LtE) rLeI := op_le
theorem op_gtA : OpR X (compareOp .Gt) rGtI := op_gt
theorem op_geA : OpR X (compareOp .GtE) rGeI := op_ge
theorem op_eqA (K : PySem.W.Frag) (hu : X.A.units + 64 < cLine) (hK : X.K = K := by rfl) : OpR X (compareOp .Eq) (rEqA K) := by
  subst hK
  exact OpR.or op_eq (op_eqD hu)
theorem op_neA (K : PySem.W.Frag) (hu : X.A.units + 64 < cLine) (hK : X.K = K := by rfl) : OpR X (compareOp .NotEq) (rNeA K) := by
  subst hK
  exact OpR.or op_ne (op_neD hu)
theorem op_inDict (hu : X.A.units + 1 < cLine) : OpR X (compareOp .In) (rDIn false) := fun pins s σ H x y v u Q I rx ry q => by
  obtain ⟨a, o, rfl, g, q⟩ := q
  obtain rfl : u = Value.ref a := ry
  exact d_in hu I g rx fun s3 I3 => ⟨.bl o.isSome, H, I3, rfl, q⟩
theorem op_ninDict (hu : X.A.units + 1 < cLine) : OpR X (compareOp .NotIn) (rDIn true) := fun pins s σ H x y v u Q I rx ry q => by
  obtain ⟨a, o, rfl, g, q⟩ := q
  obtain rfl : u = Value.ref a := ry
  exact d_notIn hu I g rx fun s3 I3 => ⟨.bl (!o.isSome), H, I3, rfl, q⟩
theorem op_inA (K : PySem.W.Frag) (hu : X.A.units + 1 < cLine) (hK : X.K = K := by rfl) : OpR X (compareOp .In) (rInA K false) := by
  subst hK
  exact OpR.or op_in_seq (op_inDict hu)
theorem op_ninA (K : PySem.W.Frag) (hu : X.A.units + 1 < cLine) (hK : X.K = K := by rfl) : OpR X (compareOp .NotIn) (rInA K true) := by
  subst hK
  exact OpR.or op_notIn_seq (op_ninDict hu)
theorem set_dict (hu : X.A.units + 1 < cLine) : PSet X rSetD := fun pins s σ H o i v ov iv u Q I ro ri rv q => by
  obtain ⟨a, H', rfl, g, q⟩ := q
  obtain rfl : ov = Value.ref a := ro
  exact d_setItem hu I g ri rv fun s4 I4 => ⟨H', I4, q⟩
theorem set_any (hu : X.A.units + 1 < cLine) : PSet X rSetA := fun pins s σ H o i v ov iv u Q I ro ri rv q => by
  rcases q with q | q
  · exact set_list pins s σ H o i v ov iv u Q I ro ri rv q
  · exact set_dict hu pins s σ H o i v ov iv u Q I ro ri rv q
theorem ix_dict (hu : X.A.units + 1 < cLine) : IxR X rDGet := fun value slice pins s σ H x y v u Q I rx ry h hs => by
  obtain ⟨a, z, rfl, g, q⟩ := h
  obtain rfl : v = Value.ref a := rx
  exact tail_any (dict_typeIs I g) PySem.F.slot_dict_getitem.lookup (d_getItem hu I g ry fun w' s3 I3 rw' => ⟨z, H, I3, rw', q⟩) hs
theorem ix_any (K : PySem.W.Frag) (hu : X.A.units + 1 < cLine) (hK : X.K = K := by rfl) : IxR X (rIxA K) := by
  subst hK
  exact IxR.or ix_seq (ix_dict hu)
end
/-! ### calls of built-ins of several kinds -/
section
variable {X : Cx}
theorem CallR.or {f : Value} {r r' : List V → Hp → VK → Prop} (h : CallR X f r) (h' : CallR X f r') : CallR X f (fun xs H Q => r xs H Q ∨ r' xs H Q) := fun pins s σ H xs us Q I rv q => by
  rcases q with q | q
  · exact h pins s σ H xs us Q I rv q
  · exact h' pins s σ H xs us Q I rv q
def rLenQ (K : PySem.W.Frag) : List V → Hp → VK → Prop := fun xs H Q => ∃ p ys, xs = [.ref p] ∧ (SqL K H p ys ∨ SqT K H p ys) ∧ Q (.int ys.length) H
def rLenS : List V → Hp → VK → Prop := fun xs H Q => ∃ z : Str, xs = [.str z] ∧ z.length ≤ sizeLine ∧ Q (.int z.length) H
def rLenD : List V → Hp → VK → Prop := fun xs H Q => ∃ a kvs, xs = [V.ref a] ∧ H a = some (.dK kvs) ∧ Q (.int kvs.length) H
def rLen2 : List V → Hp → VK → Prop := fun xs H Q => rLenS xs H Q ∨ rLenD xs H Q
def rLenA (K : PySem.W.Frag) : List V → Hp → VK → Prop := fun xs H Q => rLenQ K xs H Q ∨ rLen2 xs H Q
theorem call_lenA (K : PySem.W.Frag) (hK : X.K = K := by rfl) : CallR X (.builtin "len") (rLenA K) := by
  subst hK
  exact CallR.or call_len_seq (CallR.or call_len_str call_lenD)
def rAbs : List V → Hp → VK → Prop := fun xs H Q => ∃ i, xs = [.int i] ∧ Q (.int (if i < 0 then -i else i)) H
theorem call_absA : CallR X (.builtin "abs") rAbs := call_abs
def rInt1 : List V → Hp → VK → Prop := fun xs H Q => ∃ i, xs = [.int i] ∧ Q (.int i) H
def rInt2 : List V → Hp → VK → Prop := fun xs H Q => ∃ k, xs = [.bl k] ∧ Q (.int (if k then 1 else 0)) H
def rIntA : List V → Hp → VK → Prop := fun xs H Q => rInt1 xs H Q ∨ rInt2 xs H Q
theorem call_intA : CallR X (.type "int") rIntA := call_int1
def rStrI : List V → Hp → VK → Prop := fun xs H Q => ∃ i : Int, xs = [.int i] ∧ i.natAbs.log2 < 1920 ∧ Q (.str (toString i)) H
theorem call_strA : CallR X (.type "str") rStrI := call_str_int
def rListQ (K : PySem.W.Frag) : List V → Hp → VK → Prop := fun xs H Q => ∃ p ys, xs = [.ref p] ∧ (SqL K H p ys ∨ SqT K H p ys) ∧ ∀ l, H l = none → Q (.ref l) (upd H l (.lst ys))
theorem call_listA (K : PySem.W.Frag) (hK : X.K = K := by rfl) : CallR X (.type "list") (rListQ K) := by
  subst hK
  exact call_list_of
def rTupQ (K : PySem.W.Frag) : List V → Hp → VK → Prop := fun xs H Q => ∃ p ys, xs = [.ref p] ∧ ((SqL K H p ys ∧ ∀ l, H l = none → Q (.ref l) (upd H l (.tup ys))) ∨ (SqT K H p ys ∧ Q (.ref p) H))
theorem call_tupleA (K : PySem.W.Frag) (hK : X.K = K := by rfl) : CallR X (.type "tuple") (rTupQ K) := by
  subst hK
  exact call_tuple_of
theorem call_isiA (K : PySem.W.Frag) (hK : X.K = K := by rfl) : CallR X (.builtin "isinstance") (rIsi K) := by
  subst hK
  exact call_isi
theorem call_sumA (K : PySem.W.Frag) (hc : X.calm = true := by rfl) (hK : X.K = K := by rfl) : CallR X (.builtin "sum") (rSum K) := by
  subst hK
  exact cr_sum hc
theorem call_anyA (K : PySem.W.Frag) (hc : X.calm = true := by rfl) (hK : X.K = K := by rfl) : CallR X (.builtin "any") (rAny K) := by
  subst hK
  exact cr_any hc
theorem call_allA (K : PySem.W.Frag) (hc : X.calm = true := by rfl) (hK : X.K = K := by rfl) : CallR X (.builtin "all") (rAll K) := by
  subst hK
  exact cr_all hc
end
/-! ### the written part told by its name -/
section
variable {X : Cx} {tg e o : Expr} {te ta : TE} {f : Str} {pos : Pos}
theorem pe_fldK (K : PySem.W.Frag) (he : PE X e te) (hb : attributeBase e f X.env (eval e X.env) = eval e X.env := by rfl) (hK : X.K = K := by rfl) : PE X (.Attribute e f pos) (tFld K te f) := by
  subst hK
  exact pe_fld he hb
theorem pi_listK (K : PySem.W.Frag) (hl : PE X e te) (hK : X.K = K := by rfl) : PI X tg e (iList K te) := by
  subst hK
  exact pi_list hl
theorem pi_tupK (K : PySem.W.Frag) (hl : PE X e te) (hK : X.K = K := by rfl) : PI X tg e (iTup K te) := by
  subst hK
  exact pi_tup hl
end
end L2.DS
/-! What the operators of several kinds give. -/
namespace L2.DS
open PySem PySem.Spec PyProof.Rows
section
variable {S : SR} {n k ka kb kc : Nat} {te ta tb : TE} {tt : TT} {t : TA} {σ : L2.St} {K : PySem.W.Frag} {G : Hp} {R : HR} {x y z : V} {i j : Int} {s u : Str} {b c : Bool} {p : Addr} {xs ys : List V}
theorem ev_ifV (st : Stab S) (h : EvT S n kc tt σ G (fun b => b = c)) (h1 : c = true → Ev S (n + kc) ka ta σ G (IsV x)) (h2 : c = false → Ev S (n + kc) kb tb σ G (IsV y)) : Ev S n (kc + (ka + kb)) (tIf tt ta tb) σ G (IsV (if c then x else y)) :=
  ev_if st h (fun e => by rw [e]; exact h1 e) (fun e => by rw [e]; exact h2 e)
theorem v_add (st : Stab S) : RV S rAddA (.int i) (.int j) G (IsV (.int (i + j))) := rv_l (rv_l (rv_I0 st))
theorem v_adds (st : Stab S) (h : s.length + u.length ≤ sizeLine) : RV S rAddA (.str s) (.str u) G (IsV (.str (s ++ u))) := rv_l (rv_r (rv_val (fun H _ Q q => ⟨s, u, rfl, rfl, h, q⟩) st))
theorem v_sub (st : Stab S) : RV S rSubI (.int i) (.int j) G (IsV (.int (i - j))) := rv_I0 st
theorem v_mul (st : Stab S) (h : CMul i j) : RV S rMul (.int i) (.int j) G (IsV (.int (i * j))) := rv_l (rv_I st h)
theorem v_mulW (st : Stab S) (h : CMulW i j) : RV S rMul (.int i) (.int j) G (IsV (.int (i * j))) := rv_r (rv_I st h)
theorem v_div (st : Stab S) (h : CDiv i j) : RV S rDiv (.int i) (.int j) G (IsV (.int (i / j))) := rv_l (rv_I st h)
theorem v_divW (st : Stab S) (h : CDivW i j) : RV S rDiv (.int i) (.int j) G (IsV (.int (i / j))) := rv_r (rv_I st h)
theorem v_mod (st : Stab S) (h : 0 < j) : RV S rMod (.int i) (.int j) G (IsV (.int (i % j))) := rv_I st h
theorem v_pow (st : Stab S) (h : CPow i j) : RV S (rI CPow fun i j => .int (i ^ j.toNat)) (.int i) (.int j) G (IsV (.int (i ^ j.toNat))) := rv_I st h
theorem v_lt (st : Stab S) : RV S rLtI (.int i) (.int j) G (IsV (.bl (decide (i < j)))) := rv_I0 st
theorem v_le (st : Stab S) : RV S rLeI (.int i) (.int j) G (IsV (.bl (decide (i ≤ j)))) := rv_I0 st
theorem v_gt (st : Stab S) : RV S rGtI (.int i) (.int j) G (IsV (.bl (decide (j < i)))) := rv_I0 st
theorem v_ge (st : Stab S) : RV S rGeI (.int i) (.int j) G (IsV (.bl (decide (j ≤ i)))) := rv_I0 st
theorem v_eq (st : Stab S) (h : scal x y = true) : RV S (rEqA K) x y G (IsV (.bl (decide (x = y)))) := rv_l (rv_eq st h)
theorem v_ne (st : Stab S) (h : scal x y = true) : RV S (rNeA K) x y G (IsV (.bl (!decide (x = y)))) := rv_l (rv_ne st h)
theorem v_eqI (st : Stab S) : RV S (rEqA K) (.int i) (.int j) G (IsV (.bl (decide (i = j)))) := by
  have e : decide (V.int i = V.int j) = decide (i = j) := by simp
  rw [← e]
  exact v_eq st rfl
theorem v_neI (st : Stab S) : RV S (rNeA K) (.int i) (.int j) G (IsV (.bl (!decide (i = j)))) := by
  have e : decide (V.int i = V.int j) = decide (i = j) := by simp
  rw [← e]
  exact v_ne st rfl
theorem v_eqB (st : Stab S) : RV S (rEqA K) (.bl b) (.bl c) G (IsV (.bl (decide (b = c)))) := by
  have e : decide (V.bl b = V.bl c) = decide (b = c) := by simp
  rw [← e]
  exact v_eq st rfl
theorem v_eqS (st : Stab S) : RV S (rEqA K) (.str s) (.str u) G (IsV (.bl (decide (s = u)))) := by
  have e : decide (V.str s = V.str u) = decide (s = u) := by simp
  rw [← e]
  exact v_eq st rfl
theorem v_neS (st : Stab S) : RV S (rNeA K) (.str s) (.str u) G (IsV (.bl (!decide (s = u)))) := by
  have e : decide (V.str s = V.str u) = decide (s = u) := by simp
  rw [← e]
  exact v_ne st rfl
theorem v_isN (st : Stab S) : RV S (fun x y H Q => y = .non ∧ Q (.bl (decide (x = .non))) H) x .non G (IsV (.bl (decide (x = .non)))) := rv_val (fun H _ Q q => ⟨rfl, q⟩) st
theorem v_notN (st : Stab S) : RV S (fun x y H Q => y = .non ∧ Q (.bl (!decide (x = .non))) H) x .non G (IsV (.bl (!decide (x = .non)))) := rv_val (fun H _ Q q => ⟨rfl, q⟩) st
theorem v_ixL (st : Stab S) (h : SqL K G p xs) (ha : atI xs i = some x) : RV S (rIxA K) (.ref p) (.int i) G (IsV x) := rv_l (rv_l (rv_ixL st h ha))
theorem v_ixT (st : Stab S) (h : SqT K G p xs) (ha : atI xs i = some x) : RV S (rIxA K) (.ref p) (.int i) G (IsV x) := rv_l (rv_r (rv_l (rv_ixT st h ha)))
theorem v_inL (st : Stab S) {neg : Bool} (h : SqL K G p xs) (hx : flatV x = true) (ha : xs.all flatV = true) : RV S (rInA K neg) x (.ref p) G (IsV (.bl (if neg then !inV x xs else inV x xs))) := rv_l (rv_val (fun H s Q q => ⟨p, xs, rfl, .inl (s.seq h), hx, ha, q⟩) st)
theorem v_inT (st : Stab S) {neg : Bool} (h : SqT K G p xs) (hx : flatV x = true) (ha : xs.all flatV = true) : RV S (rInA K neg) x (.ref p) G (IsV (.bl (if neg then !inV x xs else inV x xs))) := rv_l (rv_val (fun H s Q q => ⟨p, xs, rfl, .inr (same_t s h), hx, ha, q⟩) st)
theorem u_neg (st : Stab S) : RU S (rU fun i => .int (-i)) (.int i) G (IsV (.int (-i))) := ru_I st
theorem rc_val {r : List V → Hp → VK → Prop} {vs : List V} (h : ∀ H, Same G H → ∀ Q : VK, Q x H → r vs H Q) (st : Stab S) : RC S r vs G (IsV x) := fun n G1 H1 s0 s Q q => h H1 (s0.trans (st.sub s)) Q (q x G1 H1 (Stp.refl s) rfl)
theorem c_lenL (st : Stab S) (h : SqL K G p xs) : RC S (rLenA K) [.ref p] G (IsV (.int xs.length)) := rc_val (fun H s Q q => .inl ⟨p, xs, rfl, .inl (s.seq h), q⟩) st
theorem c_lenT (st : Stab S) (h : SqT K G p xs) : RC S (rLenA K) [.ref p] G (IsV (.int xs.length)) := rc_val (fun H s Q q => .inl ⟨p, xs, rfl, .inr (same_t s h), q⟩) st
theorem c_lenS (st : Stab S) (h : s.length ≤ sizeLine) : RC S (rLenA K) [.str s] G (IsV (.int s.length)) := rc_val (fun H _ Q q => .inr (.inl ⟨s, rfl, h, q⟩)) st
theorem c_abs (st : Stab S) : RC S rAbs [.int i] G (IsV (.int (if i < 0 then -i else i))) := rc_val (fun H _ Q q => ⟨i, rfl, q⟩) st
theorem c_int (st : Stab S) : RC S rIntA [.int i] G (IsV (.int i)) := rc_val (fun H _ Q q => .inl ⟨i, rfl, q⟩) st
theorem c_intB (st : Stab S) : RC S rIntA [.bl b] G (IsV (.int (if b then 1 else 0))) := rc_val (fun H _ Q q => .inr ⟨b, rfl, q⟩) st
theorem c_str (st : Stab S) (h : i.natAbs.log2 < 1920) : RC S rStrI [.int i] G (IsV (.str (toString i))) := rc_val (fun H _ Q q => ⟨i, rfl, h, q⟩) st
end
end L2.DS
/-! Loops and comprehensions. -/
namespace L2.DS
open PySem PySem.Spec PyProof.Rows
/-- a list of m things, the i-th as R i tells -/
def IsLR (K : PySem.W.Frag) (m : Nat) (R : Nat → HR) : HR := fun v G => ∃ p ys, v = .ref p ∧ SqL K G p ys ∧ ys.length = m ∧ ∀ i y, ys[i]? = some y → R i y G
instance (K m) (R : Nat → HR) [∀ i, Mon (R i)] : Mon (IsLR K m R) := ⟨fun s ⟨p, ys, e, h, l, r⟩ => ⟨p, ys, e, s.seq h, l, fun i y z => Mon.mon s (r i y z)⟩⟩
/-- .. newly made: it stood not in F -/
def IsLN (F : Hp) (m : Nat) (R : Nat → HR) : HR := fun v G => ∃ p ys, v = .ref p ∧ F p = none ∧ G p = some (.lst ys) ∧ ys.length = m ∧ ∀ i y, ys[i]? = some y → R i y G
instance (F m) (R : Nat → HR) [∀ i, Mon (R i)] : Mon (IsLN F m R) := ⟨fun s ⟨p, ys, e, f, h, l, r⟩ => ⟨p, ys, e, f, s _ _ h, l, fun i y z => Mon.mon s (r i y z)⟩⟩
theorem IsLN.lr {F : Hp} {K : PySem.W.Frag} {m : Nat} {R : Nat → HR} {v : V} {G : Hp} (h : IsLN F m R v G) : IsLR K m R v G := by
  obtain ⟨p, ys, e, _, h, l, r⟩ := h
  exact ⟨p, ys, e, SqL.of h, l, r⟩
theorem IsLN.wk {F F' : Hp} {m : Nat} {R : Nat → HR} {v : V} {G : Hp} (h : IsLN F m R v G) (s : Same F' F) : IsLN F' m R v G := by
  obtain ⟨p, ys, e, f, r⟩ := h
  exact ⟨p, ys, e, s.free f, r⟩
theorem isLR_V {K : PySem.W.Frag} {m : Nat} {f : Nat → V} {v : V} {G : Hp} (h : IsLR K m (fun i => IsV (f i)) v G) : IsL K ((List.range m).map f) v G := by
  obtain ⟨p, ys, e, h, l, r⟩ := h
  refine ⟨p, e, ?_⟩
  have z : ys = (List.range m).map f := by
    refine List.ext_getElem? fun i => ?_
    rw [List.getElem?_map]
    by_cases hi : i < m
    · rw [List.getElem?_range hi]
      have q : ys[i]? = some ys[i] := List.getElem?_eq_getElem (by omega)
      rw [q, show ys[i] = f i from r i _ q]
      rfl
    · rw [List.getElem?_eq_none (by omega), List.getElem?_eq_none (by rw [List.length_range]; omega)]
      rfl
  rw [← z]
  exact h
section
variable {S : SR} {n k c1 : Nat} {te el : TE} {tb u : TS} {σ : L2.St} {G H : Hp} {nx bk ct : L2.St → Hp → Prop} {rt : VK} {i : Nat} {K : PySem.W.Frag} {p : Addr} {xs : List V} {vs : List Nat}
/-- for x in xs -/
theorem q_forL (st : Stab S) (s : S n G H) (e : Ev S n k te σ G (IsV (.ref p))) (hq : SqL K G p xs) (c : Nat → Nat) (P : Nat → L2.St → Hp → Hp → Prop) (hc : c 0 = 0) (h0 : ∀ H', Kp S H H' → S (n + k) G H' → P 0 σ G H')
    (hs : ∀ j x σ' G' H', xs[j]? = some x → Same G G' → S (n + k + c j) G' H' → P j σ' G' H' →
      tb (Ends.mk (fun τ J => ∃ G2, Same G G2 ∧ S (n + k + c (j + 1)) G2 J ∧ P (j + 1) τ G2 J) rt (u (Ends.mk nx rt bk ct)) (fun τ J => ∃ G2, Same G G2 ∧ S (n + k + c (j + 1)) G2 J ∧ P (j + 1) τ G2 J)) (σ'.set i (some x)) H')
    (hd : ∀ σ' G' H', Same G G' → S (n + k + c xs.length) G' H' → P xs.length σ' G' H' → u (Ends.mk nx rt bk ct) σ' H') : tSeq (tFor (iList K te) (gName i) tb) u (Ends.mk nx rt bk ct) σ H := by
  refine e G H (Same.refl _) s _ fun v G1 H1 s1 ev => ?_
  have hs2 := st.anti s s1.s s1.g
  refine ⟨p, ev, ⟨xs, Same.seq (st.sub hs2) hq⟩, for_list (K := K) (a := p) (xs := xs) (fun j τ J => ∃ G2, Same G G2 ∧ S (n + k + c j) G2 J ∧ P j τ G2 J) ⟨G, Same.refl _, by rw [hc]; exact hs2, h0 H1 s1.k hs2⟩ (fun j τ J _ ⟨G2, a, b, _⟩ => (a.trans (st.sub b)).seq hq) (fun j x τ J hx ⟨G2, a, b, d⟩ => ?_) fun τ J ⟨G2, a, b, d⟩ => hd τ G2 J a b d⟩
  exact hs j x τ G2 J hx a b d
/-- for x in range(m) -/
theorem q_forR {m : Int} {ta : TA} (st : Stab S) (s : S n G H) (e : EvA S n k ta σ G (IsVs [.int m])) (c : Nat → Nat) (P : Nat → L2.St → Hp → Hp → Prop) (hc : c 0 = 0) (h1 : -(2 ^ 62) ≤ m) (h2 : m < 2 ^ 62) (h0 : ∀ H', Kp S H H' → S (n + k) G H' → P 0 σ G H')
    (hs : ∀ (j : Nat) σ' G' H', (j : Int) < m → Same G G' → S (n + k + c j) G' H' → P j σ' G' H' →
      tb (Ends.mk (fun τ J => ∃ G2, Same G G2 ∧ S (n + k + c (j + 1)) G2 J ∧ P (j + 1) τ G2 J) rt (u (Ends.mk nx rt bk ct)) (fun τ J => ∃ G2, Same G G2 ∧ S (n + k + c (j + 1)) G2 J ∧ P (j + 1) τ G2 J)) (σ'.set i (some (.int j))) H')
    (hd : ∀ σ' G' H', Same G G' → S (n + k + c m.toNat) G' H' → P m.toNat σ' G' H' → u (Ends.mk nx rt bk ct) σ' H') : tSeq (tFor (iRng1 ta) (gName i) tb) u (Ends.mk nx rt bk ct) σ H := by
  refine e G H (Same.refl _) s _ fun v G1 H1 s1 ev => ?_
  have hs2 := st.anti s s1.s s1.g
  refine ⟨m, ev, h1, h2, for_range (lo := 0) (n := m.toNat) (fun j τ J => ∃ G2, Same G G2 ∧ S (n + k + c j) G2 J ∧ P j τ G2 J) ⟨G, Same.refl _, by rw [hc]; exact hs2, h0 H1 s1.k hs2⟩ (fun j τ J hx ⟨G2, a, b, d⟩ => ?_) fun τ J ⟨G2, a, b, d⟩ => hd τ G2 J a b d⟩
  show tb _ (τ.set i (some (.int (0 + j)))) J
  rw [Int.zero_add]
  exact hs j τ G2 J (by omega) a b d
/-! ### comprehensions -/
/-- what holds while the list at D grows -/
def LcP (S : SR) (G2 H2 : Hp) (n c1 : Nat) (R : Nat → HR) (D : Addr) (j : Nat) (J : Hp) : Prop := ∃ G3 acc, Stp S (n + c1 * j) G2 H2 G3 J ∧ G3 D = none ∧ J D = some (.lst acc) ∧ acc.length = j ∧ ∀ j y, acc[j]? = some y → R j y G3
theorem lc_start (st : Stab S) {R : Nat → HR} {G2 H2 : Hp} {D : Addr} (a : S n G2 H2) (hD : H2 D = none) : LcP S G2 H2 n c1 R D 0 (upd H2 D (.lst [])) := by
  have gD : G2 D = none := (st.sub a).free hD
  have s1 : Same H2 (upd H2 D (.lst [])) := fun b o e => by
    rw [upd_ne (ne_of_none e hD)]
    exact e
  exact ⟨G2, [], ⟨Same.refl _, Kp.of s1, st.chg a hD a gD, fun _ _ h => .inl h⟩, gD, upd_same, rfl, fun j y z => by simp at z⟩
theorem lc_end (st : Stab S) {R : Nat → HR} [∀ i, Mon (R i)] {G1 H1 G2 H2 H : Hp} {D : Addr} {m : Nat} {Q : VK} (a : Stp S n G1 H1 G2 H2) (hD : H2 D = none) (h : LcP S G2 H2 n c1 R D m H)
    (q : ∀ v G' H', Stp S (n + c1 * m) G1 H1 G' H' → IsLN G1 m R v G' → Q v H') : Q (.ref D) H := by
  obtain ⟨G3, acc, s3, c, d, l, r⟩ := h
  have t := a.trans s3
  have g4 : Same G3 (upd G3 D (.lst acc)) := fun y o z => by
    rw [upd_ne (ne_of_none z c)]
    exact z
  refine q (.ref D) _ H ⟨t.g.trans g4, t.k, st.pub a.s hD s3.s c d, fun b o e => ?_⟩ ⟨D, acc, rfl, t.g.free c, upd_same, l, fun j y z => Mon.mon g4 (r j y z)⟩
  by_cases hb : b = D
  · rw [hb]
    exact .inr (a.k.v D hD)
  · rw [upd_ne hb] at e
    exact t.n b o e
theorem lc_turn (st : Stab S) {R : Nat → HR} [∀ i, Mon (R i)] {G2 H2 J : Hp} {D : Addr} {j : Nat} {el : TE} {τ : L2.St} {Nx : Hp → Prop} (a : S n G2 H2) (hD : H2 D = none) (h : LcP S G2 H2 n c1 R D j J) (hj : j < 100000)
    (hs : ∀ G', Same G2 G' → Ev S (n + c1 * j) c1 el τ G' (R j)) (hN : ∀ J', LcP S G2 H2 n c1 R D (j + 1) J' → Nx J') :
    tYes τ J fun b H3 => if b = true then el τ H3 fun y H4 => ∃ acc, H4 D = some (.lst acc) ∧ acc.length < sizeLine ∧ Nx (upd H4 D (.lst (acc ++ [y]))) else Nx H3 := by
  obtain ⟨G3, acc, s3, c, d, l, r⟩ := h
  show if true = true then el τ J (fun y H4 => ∃ acc, H4 D = some (.lst acc) ∧ acc.length < sizeLine ∧ Nx (upd H4 D (.lst (acc ++ [y])))) else Nx J
  rw [if_pos rfl]
  refine hs G3 s3.g G3 J (Same.refl _) s3.s _ fun y G4 J4 s4 ry => ?_
  have d4 : J4 D = some (.lst acc) := s4.k.k D _ (st.fre a hD) d
  have c4 : G4 D = none := by
    cases e : G4 D with
    | none => rfl
    | some o =>
      rcases s4.n D o e with q | q
      · rw [c] at q
        cases q
      · rw [d] at q
        cases q
  have t := s3.trans s4
  refine ⟨acc, d4, Nat.lt_of_lt_of_le (show acc.length < 100000 by omega) (by decide), hN _ ⟨G4, acc ++ [y], ⟨t.g, ⟨fun b o hm e => ?_, fun b e => ?_⟩, ?_, t.n⟩, c4, upd_same, by rw [List.length_append, l]; rfl, fun i z hz => ?_⟩⟩
  · rw [upd_ne (ne_of_none e hD)]
    exact t.k.k b o hm e
  · by_cases hb : b = D
    · rw [hb]
      exact hD
    · rw [upd_ne hb] at e
      exact t.k.v b e
  · have z := st.chg (o := .lst (acc ++ [y])) a hD t.s c4
    rw [Nat.mul_succ, ← Nat.add_assoc]
    exact z
  · by_cases hi : i < acc.length
    · rw [List.getElem?_append_left hi] at hz
      exact Mon.mon s4.g (r i z hz)
    · rw [List.getElem?_append_right (by omega)] at hz
      by_cases h0 : i - acc.length = 0
      · rw [h0] at hz
        have e : y = z := Option.some.inj hz
        rw [← e, show i = j by omega]
        exact ry
      · rw [List.getElem?_eq_none (by show 1 ≤ i - acc.length; omega)] at hz
        cases hz
/-- [el for x in xs] -/
theorem ev_lcL (st : Stab S) (R : Nat → HR) [∀ i, Mon (R i)] (e : Ev S n k te σ G (IsV (.ref p))) (hq : SqL K G p xs) (hl : xs.length ≤ 100000)
    (hs : ∀ j x G', xs[j]? = some x → Same G G' → Ev S (n + k + c1 * j) c1 el ((wipe σ vs).set i (some x)) G' (R j)) (hw : ∀ x : V, wipe ((wipe σ vs).set i (some x)) vs = wipe σ vs) :
    Ev S n (k + c1 * xs.length) (tLc (iList K te) (gName i) tYes el vs) σ G (IsLN G xs.length R) := fun G1 H1 s0 s Q q =>
  e G1 H1 s0 s _ fun v G2 H2 s2 ev => ⟨p, ev, ⟨xs, Same.seq (s0.trans (s2.g.trans (st.sub s2.s))) hq⟩, fun D hD =>
    lc_list (K := K) (a := p) (xs := xs) (LcP S G2 H2 (n + k) c1 R D) (lc_start st s2.s hD) (fun j J _ ⟨G3, acc, a, _⟩ => ((s0.trans s2.g).trans (a.g.trans (st.sub a.s))).seq hq)
      (fun j x J hx h => ⟨hw x, lc_turn st s2.s hD h (by have := (List.getElem?_eq_some_iff.mp hx).1; omega) (fun G' g => hs j x G' hx ((s0.trans s2.g).trans g)) fun _ h => h⟩)
      fun J h => lc_end st s2 hD h fun v G' H' a b => q v G' H' (by rw [← Nat.add_assoc]; exact a) (b.wk s0)⟩
/-- [el for x in range(m)] -/
theorem ev_lcR {m : Int} {ta : TA} (st : Stab S) (R : Nat → HR) [∀ i, Mon (R i)] (e : EvA S n k ta σ G (IsVs [.int m])) (h1 : -(2 ^ 62) ≤ m) (hl : m ≤ 100000)
    (hs : ∀ (j : Nat) G', (j : Int) < m → Same G G' → Ev S (n + k + c1 * j) c1 el ((wipe σ vs).set i (some (.int j))) G' (R j)) (hw : ∀ x : V, wipe ((wipe σ vs).set i (some x)) vs = wipe σ vs) :
    Ev S n (k + c1 * m.toNat) (tLc (iRng1 ta) (gName i) tYes el vs) σ G (IsLN G m.toNat R) := fun G1 H1 s0 s Q q =>
  e G1 H1 s0 s _ fun v G2 H2 s2 ev => ⟨m, ev, h1, by omega, fun D hD =>
    lc_range (lo := 0) (n := m.toNat) (LcP S G2 H2 (n + k) c1 R D) (lc_start st s2.s hD)
      (fun j J hx h => by
        show wipe ((wipe σ vs).set i (some (.int (0 + j)))) vs = _ ∧ tYes ((wipe σ vs).set i (some (.int (0 + j)))) J _
        rw [Int.zero_add]
        exact ⟨hw _, lc_turn st s2.s hD h (by omega) (fun G' g => hs j G' (by omega) ((s0.trans s2.g).trans g)) fun _ h => h⟩)
      fun J h => lc_end st s2 hD h fun v G' H' a b => q v G' H' (by rw [← Nat.add_assoc]; exact a) (b.wk s0)⟩
end
end L2.DS
/-! The script's source: a dict with its list of cells; what a pick leaves. -/
namespace L2.DS
open PySem PySem.Spec PyProof.Rows
theorem tC_run {x : V} {σ : L2.St} {H : Hp} {Q : VK} (h : Q x H) : tC x σ H Q := h
theorem tVar_run {i : Nat} {x : V} {σ : L2.St} {H : Hp} {Q : VK} (e : σ[i]? = some (some x)) (h : Q x H) : tVar i σ H Q := ⟨x, e, h⟩
def srcK (cl : Addr) (l m t : Int) : List (Key × V) := [(.inr ("cells" : Str), .ref cl), (.inr ("left" : Str), .int l), (.inr ("mixed" : Str), .int m), (.inr ("turn" : Str), .int t)]
def srcD (cl : Addr) (l m t : Int) : HO := .dK (srcK cl l m t)
theorem ne_lc : ¬ (Sum.inr ("cells" : Str) : Key) = .inr ("left" : Str) := by decide +kernel
theorem ne_mc : ¬ (Sum.inr ("cells" : Str) : Key) = .inr ("mixed" : Str) := by decide +kernel
theorem ne_tc : ¬ (Sum.inr ("cells" : Str) : Key) = .inr ("turn" : Str) := by decide +kernel
theorem ne_ml : ¬ (Sum.inr ("left" : Str) : Key) = .inr ("mixed" : Str) := by decide +kernel
theorem ne_tl : ¬ (Sum.inr ("left" : Str) : Key) = .inr ("turn" : Str) := by decide +kernel
theorem ne_tm : ¬ (Sum.inr ("mixed" : Str) : Key) = .inr ("turn" : Str) := by decide +kernel
theorem src_c {cl : Addr} {l m t : Int} : valV (srcK cl l m t) (.inr ("cells" : Str)) = some (.ref cl) := valV_pos rfl
theorem src_l {cl : Addr} {l m t : Int} : valV (srcK cl l m t) (.inr ("left" : Str)) = some (.int l) := (valV_neg ne_lc).trans (valV_pos rfl)
theorem src_m {cl : Addr} {l m t : Int} : valV (srcK cl l m t) (.inr ("mixed" : Str)) = some (.int m) := (valV_neg ne_mc).trans ((valV_neg ne_ml).trans (valV_pos rfl))
theorem src_t {cl : Addr} {l m t : Int} : valV (srcK cl l m t) (.inr ("turn" : Str)) = some (.int t) := (valV_neg ne_tc).trans ((valV_neg ne_tl).trans ((valV_neg ne_tm).trans (valV_pos rfl)))
theorem put_l {cl : Addr} {l m t l' : Int} : putK (srcK cl l m t) (.inr ("left" : Str)) (.int l') = srcK cl l' m t := by
  unfold putK
  rw [if_pos (by rw [valV_any, src_l]; rfl)]
  unfold srcK
  simp only [List.map_cons, List.map_nil, if_neg ne_lc, if_neg (fun z => ne_ml (Eq.symm z)), if_neg (fun z => ne_tl (Eq.symm z)), if_true]
theorem put_t {cl : Addr} {l m t t' : Int} : putK (srcK cl l m t) (.inr ("turn" : Str)) (.int t') = srcK cl l m t' := by
  unfold putK
  rw [if_pos (by rw [valV_any, src_t]; rfl)]
  unfold srcK
  simp only [List.map_cons, List.map_nil, if_neg ne_tc, if_neg ne_tl, if_neg ne_tm, if_true]
theorem src_len {cl : Addr} {l m t : Int} : (srcK cl l m t).length < sizeLine := by rw [sizeLine_eq]; show 4 < _; decide
/-- the source stands in the heap, n picks behind it -/
def SrcAt (st cl : Addr) (n : Nat) (H : Hp) : Prop := ∃ (cs : List Int) (l m t : Int), H st = some (srcD cl l m t) ∧ H cl = some (.lst (cs.map V.int)) ∧ (∀ c ∈ cs, 0 ≤ c) ∧ 0 ≤ l ∧ 0 ≤ m ∧ m < 2147483629 ∧ 0 ≤ t ∧ t ≤ n
theorem SrcAt.same {st cl : Addr} {n m : Nat} {H H' : Hp} (h : SrcAt st cl n H) (s : Same H H') (hn : n ≤ m) : SrcAt st cl m H' := by
  obtain ⟨cs, l, x, t, a, b, c, d, e, f, g, i⟩ := h
  exact ⟨cs, l, x, t, s _ _ a, s _ _ b, c, d, e, f, g, by omega⟩
/-- what stands is G; the source may change -/
def Src (st cl : Addr) : SR := ⟨fun n G H => Same G H ∧ G st = none ∧ G cl = none ∧ SrcAt st cl n H, fun a => a = st ∨ a = cl⟩
theorem SrcAt.ne {st cl : Addr} {n : Nat} {H : Hp} {D : Addr} (h : SrcAt st cl n H) (d : H D = none) : st ≠ D ∧ cl ≠ D := by
  obtain ⟨cs, l, x, t, a, b, _⟩ := h
  exact ⟨ne_of_none a d, ne_of_none b d⟩
theorem none_upd {G : Hp} {a D : Addr} {o : HO} (h : G a = none) (n : a ≠ D) : upd G D o a = none := by rw [upd_ne n]; exact h
theorem srcAt_upd {st cl : Addr} {n : Nat} {H : Hp} {D : Addr} {o : HO} (h : SrcAt st cl n H) (n1 : st ≠ D) (n2 : cl ≠ D) : SrcAt st cl n (upd H D o) := by
  obtain ⟨cs, l, x, t, a, b, r⟩ := h
  exact ⟨cs, l, x, t, by rw [upd_ne n1]; exact a, by rw [upd_ne n2]; exact b, r⟩
theorem grow_none {G H G' H' : Hp} {a : Addr} (g : Grow G H G' H') (h : G a = none) {o : HO} (e : H a = some o) : G' a = none := by
  cases q : G' a with
  | none => rfl
  | some u =>
    rcases g.n a u q with z | z
    · rw [h] at z
      cases z
    · rw [e] at z
      cases z
theorem stabS (st cl : Addr) : Stab (Src st cl) where
  sub := fun h => h.1
  wk := fun h hn => ⟨h.1, h.2.1, h.2.2.1, h.2.2.2.same (Same.refl _) hn⟩
  grow := fun {n G H G' H'} h g => by
    obtain ⟨h1, h2, h3, h4⟩ := h
    obtain ⟨cs, l, x, t, a, b, r⟩ := id h4
    exact ⟨g.s, grow_none g h2 a, grow_none g h3 b, h4.same g.h (Nat.le_refl _)⟩
  anti := fun h h' s => ⟨s.trans h'.1, h.2.1, h.2.2.1, h'.2.2.2⟩
  chg := fun {n m G H G' H' D o} h d h' g => by
    obtain ⟨n1, n2⟩ := h.2.2.2.ne d
    exact ⟨fun b u e => by rw [upd_ne (ne_of_none e g)]; exact h'.1 b u e, h'.2.1, h'.2.2.1, srcAt_upd h'.2.2.2 n1 n2⟩
  pub := fun {n m G H G' H' D o} h d h' g e => by
    obtain ⟨n1, n2⟩ := h.2.2.2.ne d
    exact ⟨fun b u z => by
      by_cases hb : b = D
      · rw [hb, upd_same] at z
        rw [hb, ← z]
        exact e
      · rw [upd_ne hb] at z
        exact h'.1 b u z, none_upd h'.2.1 n1, none_upd h'.2.2.1 n2, h'.2.2.2⟩
  fre := fun h d z => by
    obtain ⟨n1, n2⟩ := h.2.2.2.ne d
    rcases z with rfl | rfl
    · exact n1 rfl
    · exact n2 rfl
/-- a def that draws of the source: P source arguments so-far picks what-stands result -/
def spS (P : Addr → List V → Nat → Nat → Hp → HR → Prop) : Sp := fun vs H Q _ => ∃ st cl n k G R, Src st cl n G H ∧ P st vs n k G R ∧ ∀ v G' H', Stp (Src st cl) (n + k) G H G' H' → R v G' → Q v H'
section
variable {st cl : Addr} {n k ka kb : Nat} {t : TA} {te : TE} {σ : L2.St} {G : Hp} {R : HR} {RA : HRs}
theorem ev_callS {P : Addr → List V → Nat → Nat → Hp → HR → Prop} {dvs : List V} {E : XK} (h : EvA (Src st cl) n ka t σ G RA) (hp : ∀ vs G', Same G G' → RA vs G' → P st (vs ++ dvs) (n + ka) kb G' R) : Ev (Src st cl) n (ka + kb) (tCall (spS P) dvs E t) σ G R := fun G1 H1 s0 s Q q =>
  h G1 H1 s0 s _ fun vs G2 H2 s2 e => ⟨st, cl, n + ka, kb, G2, R, s2.s, hp vs G2 (s0.trans s2.g) e, fun v G' H' g r => q v G' H' (s2.trans g).up r⟩
theorem ev_callSV {P : Addr → List V → Nat → Nat → Hp → HR → Prop} {dvs ws : List V} {E : XK} (h : EvA (Src st cl) n ka t σ G (IsVs ws)) (hp : ∀ G', Same G G' → P st (ws ++ dvs) (n + ka) kb G' R) : Ev (Src st cl) n (ka + kb) (tCall (spS P) dvs E t) σ G R :=
  ev_callS h fun vs G' s e => by
    rw [show vs = ws from e]
    exact hp G' s
end
/-- the n-th pick of many -/
def PPick : Addr → List V → Nat → Nat → Hp → HR → Prop := fun st vs n k _ R => ∃ many : Int, vs = [.ref st, .int many] ∧ many < 2 ^ 2000 ∧ (many > 10 ^ 7 → n < 2 ^ 60) ∧ k = 1 ∧ R = IsI fun r => 0 ≤ r ∧ (r < many ∨ (many < 2 ∧ r = 0))
def sp_pick : Sp := spS PPick
theorem ev_pick {st cl : Addr} {n ka : Nat} {t : TA} {σ : L2.St} {G : Hp} {many : Int} {E : XK} (h : EvA (Src st cl) n ka t σ G (IsVs [.ref st, .int many])) (h1 : 1 ≤ many) (h2 : many ≤ 10 ^ 7) : Ev (Src st cl) n (ka + 1) (tCall sp_pick [] E t) σ G (IsI fun r => 0 ≤ r ∧ r < many) :=
  ev_callSV h fun G' s => ⟨many, rfl, Int.lt_of_le_of_lt h2 (by decide +kernel), fun z => by omega, rfl, by
    have e : (fun r : Int => 0 ≤ r ∧ (r < many ∨ (many < 2 ∧ r = 0))) = fun r => 0 ≤ r ∧ r < many := by
      funext r
      exact propext ⟨fun ⟨a, b⟩ => ⟨a, by omega⟩, fun ⟨a, b⟩ => ⟨a, .inl b⟩⟩
    rw [e]⟩
/-- the source made of a list of whole numbers: what is new stands at st and cl -/
def sp_source (K : PySem.W.Frag) : Sp := fun vs H Q _ => ∃ (p : Addr) (ns : List Int), vs = [.ref p] ∧ SqL K H p (ns.map V.int) ∧ ns.length ≤ 100000 ∧ ∀ st cl H', Same H H' → H st = none → H cl = none → SrcAt st cl 0 H' → Q (.ref st) H'
/-! ### dicts by keys of text -/
section
variable {S : SR} {K : PySem.W.Frag} {G : Hp} {a : Addr} {kvs : List (Key × V)} {k : Key} {v : V}
theorem v_ixD (st : Stab S) (h : G a = some (.dK kvs)) (hv : valV kvs k = some v) : RV S (rIxA K) (.ref a) (kV k) G (IsV v) := rv_r (rv_val (fun H s Q q => ⟨a, v, rfl, by rw [← hv]; exact DGet.k (s _ _ h), q⟩) st)
theorem v_ixDs (st : Stab S) {x : Str} (h : G a = some (.dK kvs)) (hv : valV kvs (.inr x) = some v) : RV S (rIxA K) (.ref a) (.str x) G (IsV v) := v_ixD (k := .inr x) st h hv
end
/-- names that are built in -/
structure Bi (mg : Str → Option Value) : Prop where
  z_int : mg "int" = none
  z_abs : mg "abs" = none
  z_range : mg "range" = none
  z_len : mg "len" = none
  z_isinstance : mg "isinstance" = none
  z_bool : mg "bool" = none
  z_str : mg "str" = none
  z_list : mg "list" = none
  z_tuple : mg "tuple" = none
  z_dict : mg "dict" = none
  z_enumerate : mg "enumerate" = none
  z_zip : mg "zip" = none
  z_reversed : mg "reversed" = none
  z_ValueError : mg "ValueError" = none
  z_LookupError : mg "LookupError" = none
  z_KeyError : mg "KeyError" = none
  z_Exception : mg "Exception" = none
  z_super : mg "super" = none
  z_sum : mg "sum" = none
  z_any : mg "any" = none
  z_all : mg "all" = none
  z_sorted : mg "sorted" = none
  z_max : mg "max" = none
  z_min : mg "min" = none
  z_NotImplementedError : mg "NotImplementedError" = none
  z_set : mg "set" = none
  z_repr : mg "repr" = none
end L2.DS
/-! New lists that grow; isinstance of data; data that is alike. -/
namespace L2.DS
open PySem PySem.Spec PyProof.Rows
theorem kp_new {S : SR} {H0 H : Hp} {p : Addr} {o : HO} (k : Kp S H0 H) (h : H0 p = none) : Kp S H0 (upd H p o) := ⟨fun b u m e => by
  rw [upd_ne (ne_of_none e h)]
  exact k.k b u m e, fun b e => by
  by_cases hb : b = p
  · rw [hb]
    exact h
  · rw [upd_ne hb] at e
    exact k.v b e⟩
section
variable {S : SR} {n n0 k : Nat} {t : TA} {u : TS} {σ : L2.St} {G H G0 H0 : Hp} {nx bk ct : L2.St → Hp → Prop} {rt : VK} {i j : Nat} {K : PySem.W.Frag} {p : Addr} {vs xs : List V} {x : V}
/-- x = [..], a list that shall grow -/
theorem q_newL (st : Stab S) (s : S n G H) (e : EvA S n k t σ G (IsVs vs)) (hl : vs.length ≤ 100000) (h : ∀ p H', H p = none → G p = none → Kp S H H' → S (n + k) G H' → H' p = some (.lst vs) → u (Ends.mk nx rt bk ct) (σ.set i (some (.ref p))) H') :
    tSeq (tAsg (tLst t) (gName i)) u (Ends.mk nx rt bk ct) σ H := e G H (Same.refl _) s _ fun ws G1 H1 s1 ev => by
  obtain rfl : ws = vs := ev
  refine ⟨Nat.le_trans hl (by decide), fun p hp => ?_⟩
  have s2 := st.anti s s1.s s1.g
  have gp := (st.sub s2).free hp
  exact h p _ (s1.k.v p hp) gp (kp_new s1.k (s1.k.v p hp)) (st.chg s2 hp s2 gp) upd_same
/-- p.append(x), p new since H0 -/
theorem q_app (st : Stab S) (s0 : S n0 G0 H0) (hp0 : H0 p = none) (k0 : Kp S H0 H) (s : S n G H) (hG : G p = none) (hp : H p = some (.lst xs)) (hl : xs.length < 100000) (hv : σ[j]? = some (some (.ref p))) (e : EvA S n k t σ G (IsVs [x]))
    (h : ∀ H', Kp S H0 H' → S (n + k) G H' → H' p = some (.lst (xs ++ [x])) → u (Ends.mk nx rt bk ct) σ H') : tSeq (tDrop (tBM K "list" rAppend (tVar j) t)) u (Ends.mk nx rt bk ct) σ H := by
  refine ⟨_, hv, .inl ⟨rfl, _, SqL.of hp⟩, e G H (Same.refl _) s _ fun ws G1 H1 s1 ev => ?_⟩
  obtain rfl : ws = [x] := ev
  have hp1 := s1.k.k p _ (st.fre s0 hp0) hp
  exact ⟨p, xs, x, rfl, rfl, hp1, Nat.lt_of_lt_of_le hl (by decide), h _ (kp_new (k0.trans s1.k) hp0) (st.chg s0 hp0 (st.anti s s1.s s1.g) hG) upd_same⟩
theorem st_pub (st : Stab S) (s0 : S n0 G0 H0) (hp0 : H0 p = none) (s : S n G H) (hG : G p = none) {o : HO} (hp : H p = some o) : S n (upd G p o) H ∧ Same G (upd G p o) := ⟨st.pub s0 hp0 s hG hp, fun b u e => by
  rw [upd_ne (ne_of_none e hG)]
  exact e⟩
/-- a tuple, a list newly made -/
def IsNew (F : Hp) (o : HO) : HR := fun v G => ∃ p, v = .ref p ∧ F p = none ∧ G p = some o
instance (F o) : Mon (IsNew F o) := ⟨fun s ⟨p, e, f, h⟩ => ⟨p, e, f, s _ _ h⟩⟩
theorem ev_tupN (st : Stab S) (h : EvA S n k t σ G (IsVs vs)) (hl : vs.length ≤ 100000) : Ev S n k (tTup t) σ G (IsNew G (.tup vs)) := fun G1 H1 s0 s Q q =>
  h G1 H1 s0 s _ fun ws G2 H2 s2 e => by
    obtain rfl : ws = vs := e
    exact ⟨Nat.le_trans hl (by decide), fun p hp => q (.ref p) _ _ (s2.trans (st.new s2.s hp)) ⟨p, rfl, (s0.trans s2.g).free ((st.sub s2.s).free hp), upd_same⟩⟩
theorem ev_lstN (st : Stab S) (h : EvA S n k t σ G (IsVs vs)) (hl : vs.length ≤ 100000) : Ev S n k (tLst t) σ G (IsNew G (.lst vs)) := fun G1 H1 s0 s Q q =>
  h G1 H1 s0 s _ fun ws G2 H2 s2 e => by
    obtain rfl : ws = vs := e
    exact ⟨Nat.le_trans hl (by decide), fun p hp => q (.ref p) _ _ (s2.trans (st.new s2.s hp)) ⟨p, rfl, (s0.trans s2.g).free ((st.sub s2.s).free hp), upd_same⟩⟩
end
/-! ### isinstance of data -/
def tyS : PyData → String
  | .none => "NoneType" | .bool _ => "bool" | .int _ => "int" | .str _ => "str" | .list _ => "list" | .tuple _ => "tuple" | .dict _ => "dict"
theorem tyx_L {K : PySem.W.Frag} {G : Hp} {p : Addr} {xs : List V} (h : SqL K G p xs) : TyX K G (.ref p) (.type "list") := by
  rcases h with (h | ⟨o, h⟩) | ⟨o, its, n, h, c, _⟩
  · exact .base (.lst h)
  · exact .base (.frz h)
  · exact .kList h c
theorem tyx_T {K : PySem.W.Frag} {G : Hp} {p : Addr} {xs : List V} (h : SqT K G p xs) : TyX K G (.ref p) (.type "tuple") := by
  rcases h with (h | ⟨o, h⟩) | ⟨o, its, n, h, c, _⟩
  · exact .base (.tup h)
  · exact .fTuple h
  · exact .kTuple h c
theorem tyx_of {K : PySem.W.Frag} {G : Hp} : ∀ {v : V} {d : PyData}, Dp K G v d → TyX K G v (.type (tyS d))
  | _, _, .non => .base .non
  | _, _, .bl b => .base (.bl b)
  | _, _, .int i => .base (.int i)
  | _, _, .str s => .base (.str s)
  | _, _, .lst h _ => tyx_L h
  | _, _, .tup h _ => tyx_T h
theorem dp_nodict {K : PySem.W.Frag} {G : Hp} {v : V} {d : PyData} (h : Dp K G v d) : tyS d ∈ ["NoneType", "bool", "int", "str", "list", "tuple"] := by
  cases h <;> simp [tyS]
def isiB (T c : String) : Bool := (kitB T c).getD false
theorem kitB_all : ∀ T ∈ ["NoneType", "bool", "int", "str", "list", "tuple"], ∀ c ∈ ["bool", "str", "list", "tuple", "dict", "int"], kitB T c = some (isiB T c) := by decide +kernel
theorem kitB_d {K : PySem.W.Frag} {G : Hp} {v : V} {d : PyData} {c : String} (h : Dp K G v d) (hc : c ∈ ["bool", "str", "list", "tuple", "dict", "int"]) : kitB (tyS d) c = some (isiB (tyS d) c) := kitB_all _ (dp_nodict h) _ hc
theorem isi_dict {K : PySem.W.Frag} {G : Hp} {v : V} {d : PyData} (h : Dp K G v d) : isiB (tyS d) "dict" = false := by
  have e : ∀ T ∈ ["NoneType", "bool", "int", "str", "list", "tuple"], isiB T "dict" = false := by decide +kernel
  exact e _ (dp_nodict h)
theorem call_isiTA {X : Cx} (K : PySem.W.Frag) (hK : X.K = K := by rfl) : CallR X (.builtin "isinstance") (rIsiT K) := by
  subst hK
  exact call_isiT
section
variable {S : SR} {K : PySem.W.Frag} {G : Hp} {x : V} {d : PyData} {c : String}
theorem c_isiD (st : Stab S) (h : Dp K G x d) (hc : c ∈ ["bool", "str", "list", "tuple", "dict", "int"]) : RC S (rIsi K) [x, .ty c] G (IsV (.bl (isiB (tyS d) c))) :=
  rc_val (fun H s Q q => ⟨x, .ty c, .type (tyS d), .type c, _, rfl, .ty c, tyx_of (dp_mon s h), kit_ty (kitB_d h hc), q⟩) st
theorem c_isiLT (st : Stab S) {p : Addr} (h : Dp K G x d) (hp : G p = some (.tup [.ty "list", .ty "tuple"])) : RC S (rIsiT K) [x, .ref p] G (IsV (.bl (isiB (tyS d) "list" || isiB (tyS d) "tuple"))) :=
  rc_val (fun H s Q q => ⟨x, p, _, .type (tyS d), [.type "list", .type "tuple"], _, rfl, s _ _ hp, .cons (.ty _) (.cons (.ty _) .nil), tyx_of (dp_mon s h),
    kitAny_cons (b := isiB (tyS d) "list") (kit_ty (kitB_d h (by decide))) (fun z => by rw [z]; exact kitAny_cons (b := isiB (tyS d) "tuple") (kit_ty (kitB_d h (by decide))) (fun y => by rw [y]; rfl) (fun y => by rw [y]; rfl)) (fun z => by rw [z]; rfl), q⟩) st
/-- two values of the same scalar data are one value -/
theorem dp_scal (h : Dp K G x d) (hl : isiB (tyS d) "list" = false) (ht : isiB (tyS d) "tuple" = false) : (d = .none ∧ x = .non) ∨ (∃ b, d = .bool b ∧ x = .bl b) ∨ (∃ i, d = .int i ∧ x = .int i) ∨ ∃ s, d = .str s ∧ x = .str s := by
  cases h with
  | non => exact .inl ⟨rfl, rfl⟩
  | bl b => exact .inr (.inl ⟨b, rfl, rfl⟩)
  | int i => exact .inr (.inr (.inl ⟨i, rfl, rfl⟩))
  | str s => exact .inr (.inr (.inr ⟨s, rfl, rfl⟩))
  | lst h hs => exact absurd hl (show ¬ isiB "list" "list" = false by decide +kernel)
  | tup h hs => exact absurd ht (show ¬ isiB "tuple" "tuple" = false by decide +kernel)
theorem dpAll_len : ∀ {vs : List V} {ds : List PyData}, DpAll K G vs ds → vs.length = ds.length
  | _, _, .nil => rfl
  | _, _, .cons _ h => by rw [List.length_cons, List.length_cons, dpAll_len h]
theorem dpAll_get : ∀ {vs : List V} {ds : List PyData} {j : Nat} {d : PyData}, DpAll K G vs ds → ds[j]? = some d → ∃ v, vs[j]? = some v ∧ Dp K G v d
  | _, _, j, d, .nil, e => by simp at e
  | _, _, 0, d, .cons h _, e => by
    have e2 := Option.some.inj e
    subst e2
    exact ⟨_, rfl, h⟩
  | _, _, j + 1, d, .cons _ h, e => dpAll_get (j := j) h e
theorem depth_get : ∀ {ds : List PyData} {j : Nat} {d : PyData}, ds[j]? = some d → PyData.depth d ≤ PyData.depthAll ds
  | [], j, d, e => by simp at e
  | y :: ds, 0, d, e => by
    have e2 := Option.some.inj e
    subst e2
    unfold PyData.depthAll
    omega
  | y :: ds, j + 1, d, e => by
    have := depth_get (ds := ds) (j := j) e
    unfold PyData.depthAll
    omega
theorem atI_nat {xs : List V} {j : Nat} {v : V} (h : xs[j]? = some v) : atI xs (j : Int) = some v := by
  have hj := (List.getElem?_eq_some_iff.mp h).1
  have h1 : ixN xs.length ((j : Nat) : Int) = some j := by
    unfold ixN
    rw [if_pos (by omega), if_pos (by omega)]
    all_goals rfl
  unfold atI
  rw [h1]
  exact h
end
/-- a list or a tuple -/
def Sq (K : PySem.W.Frag) (G : Hp) (p : Addr) (xs : List V) : Prop := SqL K G p xs ∨ SqT K G p xs
theorem sq_mon {K : PySem.W.Frag} {G G' : Hp} {p : Addr} {xs : List V} (s : Same G G') (h : Sq K G p xs) : Sq K G' p xs := h.imp (fun h => s.seq h) (fun h => same_t s h)
section
variable {S : SR} {K : PySem.W.Frag} {G : Hp} {p : Addr} {xs : List V} {i : Int} {x : V} {d : PyData}
theorem c_lenQ (st : Stab S) (h : Sq K G p xs) : RC S (rLenA K) [.ref p] G (IsV (.int xs.length)) := h.elim (c_lenL st) (c_lenT st)
theorem v_ixQ (st : Stab S) (h : Sq K G p xs) (ha : atI xs i = some x) : RV S (rIxA K) (.ref p) (.int i) G (IsV x) := h.elim (fun h => v_ixL st h ha) (fun h => v_ixT st h ha)
theorem dp_seq (h : Dp K G x d) (hl : (isiB (tyS d) "list" || isiB (tyS d) "tuple") = true) : ∃ ds p xs, (d = .list ds ∨ d = .tuple ds) ∧ x = .ref p ∧ Sq K G p xs ∧ DpAll K G xs ds := by
  cases h with
  | non => exact absurd hl (by decide +kernel)
  | bl b => exact absurd hl (show ¬ (isiB "bool" "list" || isiB "bool" "tuple") = true by decide +kernel)
  | int i => exact absurd hl (show ¬ (isiB "int" "list" || isiB "int" "tuple") = true by decide +kernel)
  | str s => exact absurd hl (show ¬ (isiB "str" "list" || isiB "str" "tuple") = true by decide +kernel)
  | lst h hs => exact ⟨_, _, _, .inl rfl, rfl, .inl h, hs⟩
  | tup h hs => exact ⟨_, _, _, .inr rfl, rfl, .inr h, hs⟩
end
/-- no list or tuple in it is long -/
inductive Sml : PyData → Prop where
  | non : Sml .none
  | bl (b : Bool) : Sml (.bool b)
  | int (i : Int) : Sml (.int i)
  | str (s : Str) : Sml (.str s)
  | lst {ds : List PyData} (h : ds.length ≤ 100000) (a : ∀ d ∈ ds, Sml d) : Sml (.list ds)
  | tup {ds : List PyData} (h : ds.length ≤ 100000) (a : ∀ d ∈ ds, Sml d) : Sml (.tuple ds)
theorem Sml.len {d : PyData} {ds : List PyData} (h : Sml d) (e : d = .list ds ∨ d = .tuple ds) : ds.length ≤ 100000 ∧ ∀ x ∈ ds, Sml x := by
  rcases e with rfl | rfl
  · cases h with
    | lst h a => exact ⟨h, a⟩
  · cases h with
    | tup h a => exact ⟨h, a⟩
theorem depth_seq {d : PyData} {ds : List PyData} (e : d = .list ds ∨ d = .tuple ds) : PyData.depth d = PyData.depthAll ds + 1 := by
  rcases e with rfl | rfl <;> rfl
theorem inV_all {b : Bool} {ys : List V} (h : ∀ y ∈ ys, y = V.bl b) : inV (.bl (!b)) ys = false ∧ ys.all flatV = true := by
  refine ⟨?_, List.all_eq_true.mpr fun y hy => by rw [h y hy]; rfl⟩
  unfold inV
  rw [List.any_eq_false]
  intro y hy
  rw [h y hy]
  cases b <;> decide
/-- alike: both tell the same data of depth below n -/
def PLike (K : PySem.W.Frag) (n : Nat) : List V → Hp → HR → Prop := fun vs G R => ∃ x y d, vs = [x, y] ∧ PyData.depth d < n ∧ Sml d ∧ Dp K G x d ∧ Dp K G y d ∧ R = IsV (.bl true)
end L2.DS
/-! One object that is being made: all else stands. -/
namespace L2.DS
open PySem PySem.Spec PyProof.Rows
/-- all but x stays -/
def MX (x : Addr) : SR := ⟨fun _ _ _ => True, fun a => a = x⟩
/-- G stands, at x stands o; since the heap was H0, with G0 standing, all but x stayed -/
def Own (G0 H0 : Hp) (x : Addr) (o : HO) : SR := ⟨fun _ G H => Same G H ∧ G x = none ∧ H x = some o ∧ Kp (MX x) H0 H ∧ Same G0 G ∧ ∀ b u, G b = some u → G0 b = some u ∨ H0 b = none, fun _ => False⟩
theorem stabO (G0 H0 : Hp) (x : Addr) (o : HO) : Stab (Own G0 H0 x o) where
  sub := fun h => h.1
  wk := fun h _ => h
  grow := fun {n G H G' H'} h g => ⟨g.s, grow_none g h.2.1 h.2.2.1, g.h _ _ h.2.2.1, h.2.2.2.1.trans (Kp.of g.h), h.2.2.2.2.1.trans g.g, fun b u e => by
    rcases g.n b u e with z | z
    · exact h.2.2.2.2.2 b u z
    · exact .inr (h.2.2.2.1.v b z)⟩
  anti := fun h h' s => ⟨s.trans h'.1, h.2.1, h'.2.2.1, h'.2.2.2.1, h.2.2.2.2.1, h.2.2.2.2.2⟩
  chg := fun {n m G H G' H' D u} h d h' g => by
    have hx : x ≠ D := ne_of_none h.2.2.1 d
    refine ⟨fun b v e => by rw [upd_ne (ne_of_none e g)]; exact h'.1 b v e, h'.2.1, by rw [upd_ne hx]; exact h'.2.2.1, ⟨fun b v nb e => ?_, fun b e => ?_⟩, h'.2.2.2.2.1, h'.2.2.2.2.2⟩
    · rw [upd_ne (ne_of_none e (h.2.2.2.1.v D d))]
      exact h'.2.2.2.1.k b v nb e
    · by_cases hb : b = D
      · rw [hb]
        exact h.2.2.2.1.v D d
      · rw [upd_ne hb] at e
        exact h'.2.2.2.1.v b e
  pub := fun {n m G H G' H' D u} h d h' g e => by
    have hx : x ≠ D := ne_of_none h.2.2.1 d
    have hD0 := h.2.2.2.1.v D d
    refine ⟨fun b v z => ?_, none_upd h'.2.1 hx, h'.2.2.1, h'.2.2.2.1, fun b v z => ?_, fun b v z => ?_⟩
    · by_cases hb : b = D
      · rw [hb, upd_same] at z
        rw [hb, ← z]
        exact e
      · rw [upd_ne hb] at z
        exact h'.1 b v z
    · have := h'.2.2.2.2.1 b v z
      rw [upd_ne (ne_of_none this g)]
      exact this
    · by_cases hb : b = D
      · rw [hb]
        exact .inr hD0
      · rw [upd_ne hb] at z
        exact h'.2.2.2.2.2 b v z
  fre := fun _ _ z => z
theorem own_start {G H : Hp} {x : Addr} {o : HO} (s : Same G H) (g : G x = none) (h : H x = some o) (n : Nat) : Own G H x o n G H := ⟨s, g, h, Kp.refl H, Same.refl G, fun _ _ e => .inl e⟩
/-- the object changes -/
theorem own_upd {G0 H0 G H : Hp} {x : Addr} {o u : HO} {n m : Nat} (h : Own G0 H0 x o n G H) : Own G0 H0 x u m G (upd H x u) := ⟨fun b v e => by
  have hb : b ≠ x := fun z => by
    rw [z, h.2.1] at e
    cases e
  rw [upd_ne hb]
  exact h.1 b v e, h.2.1, upd_same, kp_upd' h.2.2.2.1, h.2.2.2.2.1, h.2.2.2.2.2⟩
where
  kp_upd' {H0 H : Hp} {x : Addr} {u : HO} (k : Kp (MX x) H0 H) : Kp (MX x) H0 (upd H x u) := ⟨fun b v nb e => by
    rw [upd_ne nb]
    exact k.k b v nb e, fun b e => by
    by_cases hb : b = x
    · rw [hb, upd_same] at e
      cases e
    · rw [upd_ne hb] at e
      exact k.v b e⟩
/-- what stands, without x -/
def del (G : Hp) (x : Addr) : Hp := fun b => if b = x then none else G b
theorem del_ne {G : Hp} {x b : Addr} (h : b ≠ x) : del G x b = G b := if_neg h
theorem del_x {G : Hp} {x : Addr} : del G x x = none := if_pos rfl
/-- nothing is known but what stands -/
def All : SR := ⟨fun _ G H => Same G H, fun _ => False⟩
theorem stabA : Stab All where
  sub := fun h => h
  wk := fun h _ => h
  grow := fun h g => g.s
  anti := fun h h' s => Same.trans s h'
  chg := fun {n m G H G' H' D o} h d h' g b u e => by
    rw [upd_ne (ne_of_none e g)]
    exact h' b u e
  pub := fun {n m G H G' H' D o} h d h' g e b u z => by
    by_cases hb : b = D
    · rw [hb, upd_same] at z
      rw [hb, ← z]
      exact e
    · rw [upd_ne hb] at z
      exact h' b u z
  fre := fun _ _ z => z
/-- the object as it stands now is looked at -/
theorem ev_look {G0 H0 : Hp} {x : Addr} {o : HO} {n k : Nat} {te : TE} {σ : L2.St} {G : Hp} {R R' : HR} (h : ∀ G1, Same G G1 → G1 x = none → Ev All n k te σ (upd G1 x o) R) (hR : ∀ v G2, R v G2 → G2 x = some o → R' v (del G2 x)) : Ev (Own G0 H0 x o) n k te σ G R' := by
  intro G1 H1 s0 s Q q
  obtain ⟨s1, s2, s3, s4, s5, s6⟩ := s
  have a : Same (upd G1 x o) H1 := fun b u e => by
    by_cases hb : b = x
    · rw [hb, upd_same] at e
      rw [hb, ← e]
      exact s3
    · rw [upd_ne hb] at e
      exact s1 b u e
  refine h G1 s0 s2 (upd G1 x o) H1 (Same.refl _) a Q fun v G2 H2 t r => ?_
  have g2 : G2 x = some o := t.g _ _ upd_same
  have gg : Same G1 (del G2 x) := fun b u e => by
    have hb : b ≠ x := fun z => by
      rw [z, s2] at e
      cases e
    rw [del_ne hb]
    exact t.g b u (by rw [upd_ne hb]; exact e)
  have gh : Same (del G2 x) H2 := fun b u e => by
    by_cases hb : b = x
    · rw [hb, del_x] at e
      cases e
    · rw [del_ne hb] at e
      exact t.s b u e
  have hh : Same H1 H2 := fun b u e => t.k.k b u (fun z => z) e
  have nn : ∀ b u, del G2 x b = some u → G1 b = some u ∨ H1 b = none := fun b u e => by
    by_cases hb : b = x
    · rw [hb, del_x] at e
      cases e
    · rw [del_ne hb] at e
      rcases t.n b u e with z | z
      · rw [upd_ne hb] at z
        exact .inl z
      · exact .inr z
  exact q v (del G2 x) H2 ⟨gg, Kp.of hh, ⟨gh, del_x, hh _ _ s3, s4.trans (Kp.of hh), s5.trans gg, fun b u e => by
    rcases nn b u e with z | z
    · exact s6 b u z
    · exact .inr (s4.v b z)⟩, nn⟩ (hR v G2 r g2)
/-- what a promise of a def that fills an object in tells: P class fields arguments what-stands result; the result: object class fields what-stands -/
abbrev OR := Addr → Addr → List (Str × V) → Hp → Prop
def spI (P : Addr → List (Str × V) → List V → Hp → OR → Prop) : Sp := fun vs H Q _ => ∃ x C dx fs rest G R, vs = .ref x :: rest ∧ H x = some (.ins C dx fs) ∧ Same G H ∧ G x = none ∧ P C fs rest G R ∧
  ∀ fs' G' H', Own G H x (.ins C dx fs') 0 G' H' → R x C fs' G' → Q .non H'
/-- an object as R tells -/
def IsO (C : Addr) (R : OR) : HR := fun v G => ∃ x dx fs G', v = .ref x ∧ G' x = none ∧ Same (upd G' x (.ins C dx fs)) G ∧ R x C fs G'
instance (C R) : Mon (IsO C R) := ⟨fun s ⟨x, dx, fs, G', e, h, t, r⟩ => ⟨x, dx, fs, G', e, h, t.trans s, r⟩⟩
section
variable {S : SR} {n k : Nat} {t tk : TA} {σ : L2.St} {G H : Hp} {R : OR} {RA : HRs} {C : Addr} {E : XK} {dvs : List V}
theorem made_stp (st : Stab S) {x dx : Addr} (s : S n G H) (hx : H x = none) (hd : H dx = none) (nd : dx ≠ x) {fs : List (Str × V)} {G' H' : Hp} (w : Own G (upd (upd H dx (.own x)) x (.ins C dx [])) x (.ins C dx fs) 0 G' H') : Stp S n G H (upd G' x (.ins C dx fs)) H' := by
  obtain ⟨w1, w2, w3, w4, w5, w6⟩ := w
  have hH : Same H H' := fun b o e => w4.k b o (ne_of_none e hx) (by rw [upd_ne (ne_of_none e hx), upd_ne (ne_of_none e hd)]; exact e)
  have hG : Same G (upd G' x (.ins C dx fs)) := fun b o e => by
    have e' := w5 b o e
    rw [upd_ne (ne_of_none e' w2)]
    exact e'
  have nn : ∀ b o, upd G' x (.ins C dx fs) b = some o → G b = some o ∨ H b = none := fun b o e => by
    by_cases hb : b = x
    · rw [hb]
      exact .inr hx
    · rw [upd_ne hb] at e
      rcases w6 b o e with z | z
      · exact .inl z
      · refine .inr ?_
        rw [upd_ne hb] at z
        by_cases hb2 : b = dx
        · rw [hb2]
          exact hd
        · rw [upd_ne hb2] at z
          exact z
  have hS : Same (upd G' x (.ins C dx fs)) H' := fun b o e => by
    by_cases hb : b = x
    · rw [hb, upd_same] at e
      rw [hb, ← e]
      exact w3
    · rw [upd_ne hb] at e
      exact w1 b o e
  exact ⟨hG, Kp.of hH, st.grow s ⟨hG, hH, hS, nn⟩, nn⟩
theorem made_start (st : Stab S) {x dx : Addr} (s : S n G H) (hx : H x = none) (hd : H dx = none) : Same G (upd (upd H dx (.own x)) x (.ins C dx [])) ∧ G x = none := by
  have sG := st.sub s
  exact ⟨fun b o e => by rw [upd_ne (ne_of_none (sG b o e) hx), upd_ne (ne_of_none (sG b o e) hd)]; exact sG b o e, sG.free hx⟩
end
end L2.DS
/-! Defs with defaults; defs that say super().__init__, with defaults; how their arguments are bound. -/
namespace L2.DS
open PySem PySem.Spec PyProof.Rows
section
variable {P : Program} {w : World} {K : PySem.W.Frag} {mg : Str → Option Value} {base : Heap} {x qual : Str} {params : Arguments} {body : List Stmt} {scope : Scope} {dvs : List V} {kws : List (Str × V)} {f : Addr} {fd : FuncData}
/-- a def with defaults that lets nothing out -/
theorem okD {N ps : List Str} {k : Nat} {sp : Sp} (F : FunD K x qual params body scope dvs kws f fd) (S : FnScope N ps scope) (len : ∀ vs H Q E, sp vs H Q E → vs.length = ps.length)
    (hbody : ∀ (cdv : Value) (A : Around) (outer : List Env) (s : Shared) (H : Hp) (vs : List V) (Q : VK) (E : XK), Room k (A.deeper (envOfC qual scope s.heap.objs.size f cdv)) → sp vs H Q E →
      ∃ t, PSs (cxOf CX0 P w K mg base N qual scope f cdv A outer s H E).nox body t ∧ t { nx := fun _ H' => Q .non H', rt := Q } (start N vs) H) : FnOk P w K mg base CX0 (k + 1) f fd ps sp :=
  F.ok S len fun cdv A outer s H vs Q E hr hsp => by
    obtain ⟨t, h, q⟩ := hbody cdv A outer s H vs Q E hr hsp
    exact ⟨t, h.nox, q⟩
end
/-- a def that says super().__init__, its defaults dvs and kws -/
structure FunSD (prog : Program) (K : PySem.W.Frag) (x qual : Str) (st : Stmt) (dvs : List V) (kws : List (Str × V)) (f : Addr) (fd : FuncData) (D : Addr) : Prop where
  ex : ∃ (oc : Value) (od : Option Addr) (dV kV doc pm : Value) (an : Option Addr) (cda : Addr) (ct : Value) (osl : Array (Option Value)) (cc : Addr) (ol : Obj) (vs : Array Value) (file : Str) (tf : Tok) (ccl : Value) (ccd : Option Addr) (csl : Array (Option Value)),
    fd = PySem.W.fnX x qual (defArgs st) (defBody st) (defScope st) [("__class__", cc)] dV kV doc pm an (.ref cda) ct ∧ K.lookup f = some ⟨oc, od, .func fd, osl⟩ ∧ PySem.W.codeIn K (.ref cda) qual = true ∧
    K.lookup cda = some ol ∧ ol.data = .fields vs ∧ vs[2]? = some (.str file tf) ∧ ((prog.main.file : Str) == file) = true ∧ K.lookup cc = some ⟨ccl, ccd, .cell (some (.ref D)), csl⟩ ∧ DflV K dV dvs ∧ KwdV K kV kws
  cls : ∃ oD cd, K.lookup D = some oD ∧ oD.data = .cls cd
  kp : PySem.W.keepIn K (.ref f) = true
  fi : PySem.W.fnIn K f = true
  ty : PySem.W.typeIn K (.ref f) = some (.type "function")
section
variable {prog : Program} {K : PySem.W.Frag} {x qual : Str} {st : Stmt} {dvs : List V} {kws : List (Str × V)} {f D : Addr} {fd : FuncData} {ps : List Str}
theorem FunSD.toS (F : FunSD prog K x qual st dvs kws f fd D) : FunS prog K x qual st f fd D := by
  obtain ⟨oc, od, dV, kV, doc, pm, an, cda, ct, osl, cc, ol, vs, file, tf, ccl, ccd, csl, h1, h2, h3, h4, h5, h6, h7, h8, _⟩ := F.ex
  exact ⟨⟨oc, od, dV, kV, doc, pm, an, cda, ct, osl, cc, ol, vs, file, tf, ccl, ccd, csl, h1, h2, h3, h4, h5, h6, h7, h8⟩, F.cls, F.kp, F.fi, F.ty⟩
/-- every parameter is written -/
theorem FunSD.bindsN (F : FunSD prog K x qual st [] kws f fd D)
    (h : ∀ (cc : Addr) (kV doc pm : Value) (an : Option Addr) (cdv ct : Value) (us : List Value), us.length = ps.length → bindArgs (PySem.W.fnX x qual (defArgs st) (defBody st) (defScope st) [("__class__", cc)] .none kV doc pm an cdv ct) ⟨us, []⟩ = pure (ps.zip us)) : Binds K fd ps [] := by
  obtain ⟨oc, od, dV, kV, doc, pm, an, cda, ct, osl, cc, ol, vs, file, tf, ccl, ccd, csl, rfl, h2, h3, h4, h5, h6, h7, h8, hD, hK⟩ := F.ex
  rcases hD with ⟨_, rfl⟩ | ⟨e, _⟩
  · exact .all (h cc kV doc pm an (.ref cda) ct)
  · exact absurd rfl e
/-- C(e, .., k = v, ..), no positional defaults: ms the keyword-only parameters that lack -/
theorem FunSD.kbinds0 (F : FunSD prog K x qual st [] kws f fd D) (n : Nat) (ks : List Str) (ms : List (Str × V)) (g : {α : Type} → List α → List α → List α → List α) (hk : kws ≠ []) (hms : ∀ q ∈ ms, q ∈ kws)
    (hrel : ∀ {vs mz zs : List V} {us mv ws : List Value}, Vals vs us → Vals mz mv → Vals zs ws → Vals (g vs mz zs) (g us mv ws))
    (h : ∀ (cc D : Addr) (doc pm : Value) (an : Option Addr) (cdv ct : Value) (us mv ws : List Value), us.length = n → mv.length = ms.length → ws.length = ks.length →
      KwChain D ((ms.map (·.1)).zip mv) (bindArgs (PySem.W.fnX x qual (defArgs st) (defBody st) (defScope st) [("__class__", cc)] .none (.ref D) doc pm an cdv ct) ⟨us, ks.zip ws⟩) (ps.zip (g us mv ws))) :
    ∃ mv : List Value, KBn K fd ps n ks (fun us ws => g us mv ws) (fun vs zs => g vs (ms.map (·.2)) zs) := by
  obtain ⟨oc, od, dV, kV, doc, pm, an, cda, ct, osl, cc, ol, vs, file, tf, ccl, ccd, csl, rfl, h2, h3, h4, h5, h6, h7, h8, hD, hK⟩ := F.ex
  rcases hD with ⟨_, rfl⟩ | ⟨e, _⟩
  · rcases hK with e | ⟨D, rfl, hq⟩
    · exact absurd e hk
    · obtain ⟨mv, hl, rk, hks⟩ := kwd_vals (ms := ms) fun q hm => hq q (hms q hm)
      exact ⟨mv, ⟨fun s us ws X l1 l2 => BindsTo.of_looks fun M => KwChain.looks X hks (h cc D doc pm an (.ref cda) ct us mv ws l1 hl l2), fun r1 r2 => hrel r1 rk r2⟩⟩
  · exact absurd rfl e
/-- C(e, ..) with all keyword-only parameters lacking -/
theorem FunSD.binds0 (F : FunSD prog K x qual st [] kws f fd D) (n : Nat) (hk : kws ≠ []) (hn : n + kws.length = ps.length)
    (h : ∀ (cc D : Addr) (doc pm : Value) (an : Option Addr) (cdv ct : Value) (us ks : List Value), us.length = n → ks.length = kws.length →
      KwChain D ((kws.map (·.1)).zip ks) (bindArgs (PySem.W.fnX x qual (defArgs st) (defBody st) (defScope st) [("__class__", cc)] .none (.ref D) doc pm an cdv ct) ⟨us, []⟩) (ps.zip (us ++ ks))) : ∃ ds, Vals (kws.map (·.2)) ds ∧ Binds K fd ps ds := by
  obtain ⟨oc, od, dV, kV, doc, pm, an, cda, ct, osl, cc, ol, vs, file, tf, ccl, ccd, csl, rfl, h2, h3, h4, h5, h6, h7, h8, hD, hK⟩ := F.ex
  rcases hD with ⟨_, rfl⟩ | ⟨e, _⟩
  · rcases hK with e | ⟨D, rfl, hq⟩
    · exact absurd e hk
    · obtain ⟨ks, hl, rk, hks⟩ := kwd_vals hq
      refine ⟨ks, rk, fun s us X hlen => ?_⟩
      have l2 : us.length = n := by
        rw [List.length_append, hl] at hlen
        omega
      exact BindsTo.of_looks fun M => KwChain.looks X hks (h cc D doc pm an (.ref cda) ct us ks l2 hl)
  · exact absurd rfl e
end
/-- the def that super().__init__ finds -/
def SupC (P : Program) (w : World) (K : PySem.W.Frag) (mg : Str → Option Value) (base : Heap) (f2 : Addr) (CX : CXT) (k : Nat) (ps : List Str) (dvs : List V) (sp : Sp) : Prop :=
  ∃ (fd : FuncData) (ds : List Value), FnOk P w K mg base CX k f2 fd ps sp ∧ Binds K fd ps ds ∧ Vals dvs ds ∧ PySem.W.fnIn K f2 = true ∧ PySem.W.typeIn K (.ref f2) = some (.type "function")
section
variable {X : Cx} {body sts : List Stmt} {u : TS} {D : Addr} {ar : Str} {CX : CXT} {k : Nat} {f2 : Addr} {ps : List Str} {sp : Sp} {dvs : List V} {E : XK} {e : Expr} {es : List Expr} {ta : TA} {p0 p1 ap pos pos' : Pos} {pl : Sem Bool}
theorem psa_supC (S : SupAt X D ar) (hN : X.N[0]? = some ar) (hv : Own1 X.env.scope ar) (c : SupC X.prog X.w X.K X.mg X.base f2 CX k ps dvs sp) (hr : Room k X.A) (hx : Passes CX X E) (ha : PA X (e :: es) ta) (hr2 : PSA X body sts u)
    (he : eval (.Call (.Attribute (.Call (.Name "super" p0) [] [] p1) "__init__" ap) (e :: es) [] pos) X.env = (do
      let ov ← attributeBase (.Call (.Name "super" p0) [] [] p1) "__init__" X.env (eval (.Call (.Name "super" p0) [] [] p1) X.env)
      standAt ap.atName
      let (f, first) ← holding [ov] (getMethod ov "__init__" pl)
      callWith pos f first (backTo pos (starEach (e :: es) X.env)) []) := by rfl)
    (hst : starEach (e :: es) X.env = (false, eval e X.env) :: starEach es X.env := by rfl) (hpl : (backTo pos (starEach es X.env)).any (·.1) = false := by rfl)
    (hs : swapsWith (.Call (.Attribute (.Call (.Name "super" p0) [] [] p1) "__init__" ap) (e :: es) [] pos) none pos'.line X.env = pure false := by rfl) :
    PSA X body (.Expr (.Call (.Attribute (.Call (.Name "super" p0) [] [] p1) "__init__" ap) (e :: es) [] pos) pos' :: sts) (tSeq (tSup X.K D f2 sp dvs E ta) u) := by
  obtain ⟨fd, ds, F, hb, hd, hf, ht⟩ := c
  exact psa_sup S hN hv F hr hb hd hx hf ht ha hr2 he hst hpl hs
end
/-- a class made by its name with keywords -/
def MakerK (P : Program) (w : World) (K : PySem.W.Frag) (mg : Str → Option Value) (base : Heap) (x : Str) (C : Addr) (CX : CXT) (k : Nat) (ps : List Str) (n : Nat) (ks : List Str) (gV : List V → List V → List V) (sp : Sp) : Prop :=
  ∃ (f : Addr) (fd : FuncData) (g : List Value → List Value → List Value), mg x = some (.ref C) ∧ Mk K C f ∧ FnOk P w K mg base CX k f fd ps sp ∧ KBn K fd ps (n + 1) ks g gV
section
variable {X : Cx} {CX : CXT} {k n : Nat} {C : Addr} {ps ks : List Str} {gV : List V → List V → List V} {sp : Sp} {E : XK} {x : Str} {p pos : Pos} {e : Expr} {es : List Expr} {kws : List Keyword} {t tk : TA}
theorem pe_makeKC (c : MakerK X.prog X.w X.K X.mg X.base x C CX k ps n ks gV sp) (hr : Room (k + 1) X.A) (hx : Passes CX X E) (ha : PA X (e :: es) t) (hkw : PK X kws tk) (hg : Gl X x := by rfl)
    (hall : (backToKw pos (keywordEach kws X.env)).all (·.1.isSome) = true := by rfl) (hks : (backToKw pos (keywordEach kws X.env)).filterMap (·.1) = ks := by rfl) (hdb : (x == ("__debug__" : Str)) = false := by decide)
    (he : starEach (e :: es) X.env = (false, eval e X.env) :: starEach es X.env := by rfl) (hpl : ((backTo pos (starEach (e :: es) X.env)).any (·.1) || (backToKw pos (keywordEach kws X.env)).any (·.1.isNone)) = false := by rfl) :
    PE X (.Call (.Name x p) (e :: es) kws pos) (tMakeK C n ks.length sp gV E t tk) := by
  obtain ⟨f, fd, g, h1, h2, h3, h4⟩ := c
  exact pe_makeK h2 h3 hr hg h1 h4 hx ha hkw hall hks hdb he hpl
end
/-! ### statements on the object that is being made -/
section
variable {G0 H0 G H : Hp} {x C dx : Addr} {fs : List (Str × V)} {n k i : Nat} {te : TE} {u : TS} {σ : L2.St} {nx bk ct : L2.St → Hp → Prop} {rt : VK} {K : PySem.W.Frag} {f : Str} {R : HR} {v : V}
theorem q_fldO (s : Own G0 H0 x (.ins C dx fs) n G H) (e : Ev (Own G0 H0 x (.ins C dx fs)) n k te σ G R) (hx : σ[i]? = some (some (.ref x))) (hc : Cls K C) (hn : NoAttr K C f) (hl : fs.length < 1000)
    (h : ∀ v G' H', Same G G' → Own G0 H0 x (.ins C dx (putF f v fs)) (n + k) G' H' → R v G' → u (Ends.mk nx rt bk ct) σ H') : tSeq (sFld K (tVar i) te f) u (Ends.mk nx rt bk ct) σ H :=
  e G H (Same.refl _) s _ fun v G' H' s1 r => ⟨_, hx, x, C, dx, fs, rfl, s1.s.2.2.1, hc, hn, hl, h v G' _ s1.g (own_upd s1.s) r⟩
theorem q_fldV (s : Own G0 H0 x (.ins C dx fs) n G H) (e : Ev (Own G0 H0 x (.ins C dx fs)) n k te σ G (IsV v)) (hx : σ[i]? = some (some (.ref x))) (hc : Cls K C) (hn : NoAttr K C f) (hl : fs.length < 1000)
    (h : ∀ H', Own G0 H0 x (.ins C dx (putF f v fs)) (n + k) G H' → u (Ends.mk nx rt bk ct) σ H') : tSeq (sFld K (tVar i) te f) u (Ends.mk nx rt bk ct) σ H :=
  e G H (Same.refl _) s _ fun w G' H' s1 r => ⟨_, hx, x, C, dx, fs, rfl, s1.s.2.2.1, hc, hn, hl, by
    rw [show w = v from r]
    exact h _ (own_upd ((stabO _ _ _ _).anti s s1.s s1.g))⟩
theorem own_trans {G' H' : Hp} {o u : HO} {m m' : Nat} (a : Own G0 H0 x o m G H) (b : Own G H x u m' G' H') (l : Nat) : Own G0 H0 x u l G' H' := ⟨b.1, b.2.1, b.2.2.1, a.2.2.2.1.trans b.2.2.2.1, a.2.2.2.2.1.trans b.2.2.2.2.1, fun c w e => by
  rcases b.2.2.2.2.2 c w e with z | z
  · exact a.2.2.2.2.2 c w z
  · exact .inr (a.2.2.2.1.v c z)⟩
theorem own_n {o : HO} {m l : Nat} (a : Own G0 H0 x o m G H) : Own G0 H0 x o l G H := a
/-- super().__init__(..) -/
theorem q_supO {P : Addr → List (Str × V) → List V → Hp → OR → Prop} {D f2 : Addr} {dvs : List V} {E : XK} {ta : TA} {RA : HRs} {RO : OR} (s : Own G0 H0 x (.ins C dx fs) n G H) (h0 : σ[0]? = some (some (.ref x))) (hm : PySem.W.mroIn K C (.ref D) = some true) (hf : PySem.W.ks_superIn K C D "__init__" = some (some (.ref f2)))
    (h : EvA (Own G0 H0 x (.ins C dx fs)) n k ta σ G RA) (hp : ∀ vs G', Same G G' → RA vs G' → P C fs (vs ++ dvs) G' RO) (hq : ∀ fs' G' H', Same G G' → Own G0 H0 x (.ins C dx fs') 0 G' H' → RO x C fs' G' → u (Ends.mk nx rt bk ct) σ H') :
    tSeq (tSup K D f2 (spI P) dvs E ta) u (Ends.mk nx rt bk ct) σ H :=
  ⟨x, C, dx, fs, h0, s.2.2.1, hm, hf, h G H (Same.refl _) s _ fun vs G' H' s1 r => ⟨x, C, dx, fs, vs ++ dvs, G', RO, rfl, s1.s.2.2.1, s1.s.1, s1.s.2.1, hp vs G' s1.g r, fun fs' G2 H2 w ro => hq fs' G2 H2 (s1.g.trans w.2.2.2.2.1) (own_trans s1.s w 0) ro⟩⟩
end
end L2.DS
/-! Tuples with methods, starred displays, dicts by enumerate, texts in parts. -/
namespace L2.DS
open PySem PySem.Spec PyProof.Rows
/-- a new tuple whose object is known to be plain -/
def tTupF (t : TA) : TE := fun σ H Q => t σ H fun xs H1 => xs.length ≤ sizeLine ∧ ∀ (p : Addr) (o : Obj), H1 p = none → o.cls = .type "tuple" → o.dict = none → Q (.ref p) (upd H1 p (.frz o (.tup xs)))
theorem pe_tupF {X : Cx} {es : List Expr} {t : TA} {x1 : Nat} {pos : Pos} (h : PA X es t) : PE X (.Tuple es x1 pos) (tTupF t) := by
  refine ⟨fun pins s σ H Q I hq => ?_⟩
  refine wpAny_Tuple_spliced (thn (h.run pos pins s σ H _ I hq) fun us s1 ⟨xs, H1, I1, r, z, q⟩ => ⟨by rw [← r.length]; exact z, ?_⟩)
  have hf : H1 s1.heap.objs.size = none := I1.hok.fresh (Nat.le_refl _)
  have q2 := q _ { cls := .type "tuple", data := .seq us.toArray } hf rfl rfl
  refine ⟨.ref s1.heap.objs.size, _, I1.laid (t' := s1.toks) (fun b u e => Heap.get?_push_of_some _ e) (Nat.le_refl _) ?_, rfl, q2⟩
  exact (⟨Heap.get?_push_size _ rfl, z, us, r, IsTup.new _ _⟩ : ObjOk _ _ _ _ _ (.frz _ (.tup xs)))
/-- t.m(e, ..), t such a tuple -/
def tBMT (r : V → List V → Hp → VK → Prop) (to : TE) (t : TA) : TE := fun σ H Q => to σ H fun x H1 => (∃ p o xs, x = .ref p ∧ H1 p = some (.frz o (.tup xs)) ∧ o.dict = none) ∧ t σ H1 fun vs H2 => r x vs H2 Q
theorem pe_bmT {X : Cx} {o e : Expr} {es : List Expr} {to : TE} {t : TA} {name : Str} {apos cpos : Pos} {id : String} {r : V → List V → Hp → VK → Prop} (slot : Slot "tuple" name id) (hty : typeOf (.builtin id) = pure (.type "method_descriptor")) (hm : MtR X id r) (ho : PE X o to) (ha : PA X (e :: es) t)
    (hbase : attributeBase o name X.env (eval o X.env) = eval o X.env := by rfl)
    (hfew : ((backTo cpos (starEach (e :: es) X.env)).all (fun x => !x.1) && (backToKw cpos (keywordEach [] X.env)).all (fun x => x.1.isSome)
      && decide ((e :: es).length + ([] : List Keyword).length + (if ([] : List Keyword).isEmpty then 0 else 1) < 30)) = true := by rfl)
    (hline : (apos.endLine == cpos.line) = true := by rfl) (hs : starEach (e :: es) X.env = (false, eval e X.env) :: starEach es X.env := by rfl) (hplain : (backTo cpos (starEach es X.env)).any (·.1) = false := by rfl) :
    PE X (.Call (.Attribute o name apos) (e :: es) [] cpos) (tBMT r to t) := by
  refine ⟨fun pins s σ H Q I h => ?_⟩
  refine wpAny_Call_method_late hbase hfew hline rfl (thn (ho.run pins s σ H _ I h) fun v s1 ⟨x, H1, I1, r1, ⟨p, ob, xs, ex, hp, hd⟩, q1⟩ => ?_)
  subst ex
  obtain rfl : v = Value.ref p := r1
  obtain ⟨hg, z, its, rv, ob2, e2, hc, n, hdat⟩ := (show ObjOk X.prog X.w H1 s1.heap p (.frz ob (.tup xs)) from I1.hok p _ hp)
  rw [hg] at e2
  cases e2
  refine ⟨"tuple", id, PySem.F.plainAttrs_tuple, slot, hty, ⟨_, hg, hc⟩, fun a e => ?_, ?_⟩
  · cases e
    exact ⟨_, hg, hd⟩
  have hA := ha.run cpos pins s1 σ H1 _ I1 q1
  rw [hs] at hA ⊢
  refine Calls.callWith_builtin (by show (false || (backTo cpos (starEach es X.env)).any (·.1)) = false; rw [hplain] <;> rfl) (Calls.evalArgs_plain ?_)
  exact thn hA fun us s2 ⟨vs, H2, I2, r2, q2⟩ => hm pins s2 σ H2 (.ref p) vs (.ref p) us Q I2 rfl r2 q2
/-- t.index(x), items and x data of small depth -/
def rIndexTD (K : PySem.W.Frag) : V → List V → Hp → VK → Prop := fun x xs H Q => ∃ (a : Addr) (y : V) (d : PyData) (ds : List PyData) (j : Nat) (z : PyData), x = V.ref a ∧ xs = [y] ∧ Dp K H (V.ref a) (.tuple ds) ∧ Dp K H y d ∧
  PyData.canLayAll0 ds = true ∧ SeqAt.shaped d = true ∧ ds[j]? = some z ∧ PyData.eqv z d = true ∧ (∀ (m : Nat) (z' : PyData), m < j → ds[m]? = some z' → PyData.eqv z' d = false) ∧ Q (.int (j : Nat)) H
theorem idx_true : ∀ {ks : List Bool} {j : Nat}, ks[j]? = some true → (∀ m, m < j → ks[m]? = some false) → ks.idxOf true = j
  | [], j, h, _ => by simp at h
  | b :: r, 0, h, _ => by
    cases h
    simp
  | b :: r, j + 1, h, hn => by
    have e : b = false := Option.some.inj (hn 0 (by omega))
    subst e
    have := idx_true (ks := r) (j := j) h fun m hm => hn (m + 1) (by omega)
    simp [List.idxOf_cons, this]
theorem mt_indexTD {X : Cx} (K : PySem.W.Frag) (hu : X.A.units + 66 < cLine) (hK : X.K = K := by rfl) : MtR X "tuple.index" (rIndexTD K) := by
  subst hK
  intro pins s σ H x xs v us Q I rx rxs h
  obtain ⟨a, y, d, ds, j, z, rfl, rfl, hl, hy, sl, sd, hz, hzj, hno, q⟩ := h
  cases rx
  cases rxs with
  | cons ry rt =>
    rename_i uy ut
    cases rt
    obtain ⟨bs, r1⟩ := Dp.reads I d y uy hy ry
    have hd := SeqAt.depth_of_shaped sd
    have hroom : X.A.in1.units + min (PyData.depthAll ds) d.depth < cLine := by
      have := Nat.min_le_right (PyData.depthAll ds) d.depth
      show X.A.units + 1 + min (PyData.depthAll ds) d.depth < cLine
      omega
    cases hl with
    | tup hs ha =>
      obtain ⟨its, rv, ⟨o, ho, hc, n, hdt⟩, hlen⟩ := I.tuple hs
      obtain ⟨as, h4⟩ := Dp.readsAll I ds _ its ha rv
      have hn : its.length = ds.length := SeqAt.ReadsAll.length ds its as h4
      have hmap : its.map (SeqAt.readOf s.heap) = ds := SeqAt.readsAll_map ds its as sl h4
      have hat := SeqAt.items_eqAt (A := X.A) (vs := its.toArray) (show ReadsAll s.heap its.toArray.toList ds as from h4) r1 sl (SeqAt.canLay_of_shaped sd) hroom
      have hj : (ds.map fun z => PyData.eqv z d).idxOf true = j := idx_true (by rw [List.getElem?_map, hz]; exact congrArg some hzj) fun m hm => by
        have hm2 : m < ds.length := by
          have := (List.getElem?_eq_some_iff.mp hz).1
          omega
        rw [List.getElem?_map, List.getElem?_eq_getElem hm2]
        exact congrArg some (hno m _ hm (List.getElem?_eq_getElem hm2))
      refine SeqAt.call_tuple_index (vs := its) (ks := ds.map fun z => PyData.eqv z d) (k := true) ⟨o, ho, hc, n, hdt⟩ ⟨by rw [List.length_map]; exact hn, fun i h1 h2 => ?_⟩ (List.mem_iff_getElem?.mpr ⟨j, by rw [List.getElem?_map, hz]; exact congrArg some hzj⟩) ⟨V.int (j : Nat), H, I.tok _, ⟨_, by rw [hj]⟩, q⟩
      have e := hat its[i] (by simp)
      have e2 : SeqAt.readOf s.heap its[i] = ds[i]'(by rw [List.length_map] at h2; exact h2) := by
        have := List.getElem_map (f := SeqAt.readOf s.heap) (l := its) (i := i) (h := by rw [List.length_map]; exact h1)
        rw [← this]
        exact List.getElem_of_eq hmap _
      rw [e2] at e
      have e3 : decide ((ds.map fun z => PyData.eqv z d)[i] = true) = PyData.eqv (ds[i]'(by rw [List.length_map] at h2; exact h2)) d := by
        rw [List.getElem_map]
        cases PyData.eqv _ d <;> rfl
      rw [e3]
      exact e
theorem hu2 {A : Around} {k : Nat} (hr : Room k A) : A.units + 66 < cLine := by
  have := hr.un
  omega
/-! ### what evaluates to what -/
/-- a tuple newly made, its object plain -/
def IsTF (F : Hp) (xs : List V) : HR := fun v G => ∃ p o, v = .ref p ∧ F p = none ∧ o.dict = none ∧ G p = some (.frz o (.tup xs))
instance (F xs) : Mon (IsTF F xs) := ⟨fun s ⟨p, o, e, f, d, h⟩ => ⟨p, o, e, f, d, s _ _ h⟩⟩
section
variable {S : SR} {n k ka kb : Nat} {t ta : TA} {te to : TE} {σ : L2.St} {G H : Hp} {K : PySem.W.Frag} {p : Addr} {vs xs ys : List V} {x : V} {i j : Nat}
theorem ev_tupF (st : Stab S) (h : EvA S n k t σ G (IsVs vs)) (hl : vs.length ≤ 100000) : Ev S n k (tTupF t) σ G (IsTF G vs) := fun G1 H1 s0 s Q q =>
  h G1 H1 s0 s _ fun ws G2 H2 s2 e => by
    obtain rfl : ws = vs := e
    exact ⟨Nat.le_trans hl (by decide), fun p o hp _ hd => q (.ref p) _ _ (s2.trans (st.new s2.s hp)) ⟨p, o, rfl, (s0.trans s2.g).free ((st.sub s2.s).free hp), hd, upd_same⟩⟩
theorem ea_star (st : Stab S) (h : Ev S n ka te σ G (IsV (.ref p))) (hq : Sq K G p xs) (hr : EvA S (n + ka) kb t σ G (IsVs ys)) : EvA S n (ka + kb) (StX.tStar K te t) σ G (IsVs (xs ++ ys)) := fun G1 H1 s0 s Q q =>
  h G1 H1 s0 s _ fun v G2 H2 s2 e => ⟨p, xs, e, (sq_mon (s0.trans (s2.g.trans (st.sub s2.s))) hq).symm, hr G2 H2 (s0.trans s2.g) s2.s _ fun ws G3 H3 s3 e' => by
    obtain rfl : ws = ys := e'
    exact q _ G3 H3 (s2.trans s3).up rfl⟩
theorem ev_bmTA {r : V → List V → Hp → VK → Prop} {o : Obj} {R : HR} {RA : HRs} (st : Stab S) (h : Ev S n ka to σ G (IsV (.ref p))) (hp : G p = some (.frz o (.tup xs))) (hd : o.dict = none) (ha : EvA S (n + ka) kb t σ G RA) (hr : ∀ vs G', Same G G' → RA vs G' → RC S (r (.ref p)) vs G' R) : Ev S n (ka + kb) (tBMT r to t) σ G R := fun G1 H1 s0 s Q q =>
  h G1 H1 s0 s _ fun v G2 H2 s2 e => ⟨⟨p, o, xs, e, st.sub s2.s _ _ (s2.g _ _ (s0 _ _ hp)), hd⟩, ha G2 H2 (s0.trans s2.g) s2.s _ fun ws G3 H3 s3 e' => by
    obtain rfl : v = .ref p := e
    exact hr ws G3 ((s0.trans s2.g).trans s3.g) e' _ G3 H3 (Same.refl _) s3.s Q fun v G4 H4 s4 e => q v G4 H4 ((s2.trans s3).trans s4).up e⟩
theorem c_indexTD (st : Stab S) {d z : PyData} {ds : List PyData} {j : Nat} (hs : Dp K G (.ref p) (.tuple ds)) (hx : Dp K G x d) (sl : PyData.canLayAll0 ds = true) (sd : SeqAt.shaped d = true) (hz : ds[j]? = some z) (he : PyData.eqv z d = true) (hno : ∀ (m : Nat) (z' : PyData), m < j → ds[m]? = some z' → PyData.eqv z' d = false) :
    RC S (rIndexTD K (.ref p)) [x] G (IsV (.int (j : Nat))) := rc_val (fun H s Q q => ⟨p, x, d, ds, j, z, rfl, rfl, dp_mon s hs, dp_mon s hx, sl, sd, hz, he, hno, q⟩) st
/-- list(range(m)) -/
theorem ev_listRg {m : Int} (st : Stab S) (h : Ev S n k te σ G (IsV (.int m))) (h0 : 0 ≤ m) (h1 : m ≤ 100000) : Ev S n k (tLstRg (tRg1 te)) σ G (IsNew G (.lst ((List.range m.toNat).map fun i => .int (i : Nat)))) := fun G1 H1 s0 s Q q =>
  h G1 H1 s0 s _ fun v G2 H2 s2 e => ⟨m, e, ⟨by omega, by omega, by omega, by omega, by show (m - 0).toNat ≤ 2 ^ 24; omega⟩, fun p hp => by
    have e : rgV 0 m = (List.range m.toNat).map fun i => V.int (i : Nat) := by
      unfold rgV
      rw [Int.sub_zero]
      exact List.map_congr_left fun i _ => by rw [Int.zero_add]
    rw [e]
    exact q (.ref p) _ _ (s2.trans (st.new s2.s hp)) ⟨p, rfl, (s0.trans s2.g).free ((st.sub s2.s).free hp), upd_same⟩⟩
/-- tuple(l) -/
theorem c_tupN (st : Stab S) (hq : SqL K G p xs) : RC S (rTupQ K) [.ref p] G (IsNew G (.tup xs)) := fun n G1 H1 s0 s Q q =>
  ⟨p, xs, rfl, .inl ⟨(s0.trans (st.sub s)).seq hq, fun l hl => q (.ref l) _ _ (st.new s hl) ⟨l, rfl, (s0.trans (st.sub s)).free hl, upd_same⟩⟩⟩
end
theorem tYes_run {σ : L2.St} {H : Hp} {Q : Bool → Hp → Prop} (h : Q true H) : tYes σ H Q := h
/-! ### a dict of places by enumerate -/
def plc : List Str → Nat → List (Key × V)
  | [], _ => []
  | a :: r, i => (.inr a, .int (i : Nat)) :: plc r (i + 1)
theorem plc_snoc : ∀ (xs : List Str) (a : Str) (i : Nat), plc (xs ++ [a]) i = plc xs i ++ [(.inr a, .int ((i + xs.length : Nat) : Int))]
  | [], a, i => rfl
  | b :: r, a, i => by
    show (_, _) :: plc (r ++ [a]) (i + 1) = _
    rw [plc_snoc r a (i + 1), List.length_cons, show i + (r.length + 1) = i + 1 + r.length by omega]
    rfl
theorem plc_len : ∀ (xs : List Str) (i : Nat), (plc xs i).length = xs.length
  | [], _ => rfl
  | a :: r, i => by rw [List.length_cons, ← plc_len r (i + 1)]; rfl
theorem plc_none : ∀ {xs : List Str} {a : Str} {i : Nat}, a ∉ xs → valV (plc xs i) (.inr a) = none
  | [], _, _, _ => rfl
  | b :: r, a, i, h => by
    have n : ¬ (Sum.inr b : Key) = .inr a := fun z => h (by cases z; exact List.mem_cons_self)
    exact (valV_neg (p := ((.inr b : Key), V.int (i : Nat))) n).trans (plc_none fun z => h (List.mem_cons_of_mem _ z))
theorem plc_some : ∀ {xs : List Str} {a : Str} {i j : Nat}, xs.Nodup → xs[j]? = some a → valV (plc xs i) (.inr a) = some (.int ((i + j : Nat) : Int))
  | [], _, _, _, _, e => by simp at e
  | b :: r, a, i, 0, _, e => by
    cases e
    exact valV_pos rfl
  | b :: r, a, i, j + 1, d, e => by
    have e' : r[j]? = some a := e
    have n : ¬ (Sum.inr b : Key) = .inr a := fun z => by
      cases z
      exact (List.nodup_cons.mp d).1 (List.mem_of_getElem? e')
    refine (valV_neg (p := ((.inr b : Key), V.int (i : Nat))) n).trans ?_
    rw [plc_some (List.nodup_cons.mp d).2 e', show i + 1 + j = i + (j + 1) by omega]
section
variable {S : SR} {n k : Nat} {ta : TA} {σ : L2.St} {G : Hp} {K : PySem.W.Frag} {p : Addr} {vs : List Nat} {i j : Nat} {names : List Str}
/-- {name: place for place, name in enumerate(names)} -/
theorem ev_dcE (st : Stab S) (h : EvA S n k ta σ G (IsVs [.ref p])) (hq : SqL K G p (names.map V.str)) (hl : names.length ≤ 100000) (hd : names.Nodup) (hij : i ≠ j) (hli : i < (wipe σ vs).length) (hlj : j < (wipe σ vs).length)
    (hw : ∀ x y : V, wipe (((wipe σ vs).set i (some x)).set j (some y)) vs = wipe σ vs) : Ev S n k (tDc (iEnum K ta) (gTup K 2 (gCons (gName i) (gCons (gName j) gNil))) tYes (tVar j) (tVar i) vs) σ G (IsNew G (.dK (plc names 0))) := fun G1 H1 s0 s Q q =>
  h G1 H1 s0 s _ fun ws G2 H2 s2 e => by
    obtain rfl : ws = [.ref p] := e
    refine ⟨p, names.map V.str, rfl, (s0.trans (s2.g.trans (st.sub s2.s))).seq hq, fun D hD => ?_⟩
    have gD := (st.sub s2.s).free hD
    refine ⟨fun t m J => m = names.length - t ∧ t ≤ names.length ∧ Kp S H2 J ∧ S (n + k) G2 J ∧ J D = some (.dK (plc (names.take t) 0)), ⟨names.length, by omega, by omega, kp_new (Kp.refl H2) hD, st.chg s2.s hD s2.s gD, upd_same⟩, ?_⟩
    rintro t m J ⟨rfl, ht, kJ, sJ, dJ⟩
    have w := walk_enum (K := K) (a := p) (xs := names.map V.str)
    have hqJ := (s0.trans (s2.g.trans (st.sub sJ))).seq hq
    have lm : (names.map V.str).length = names.length := List.length_map _
    by_cases hlt : t < names.length
    · refine .inr ⟨w.goes t J (by omega) hqJ, fun J' => names.length - (t + 1) = names.length - (t + 1) ∧ t + 1 ≤ names.length ∧ Kp S H2 J' ∧ S (n + k) G2 J' ∧ J' D = some (.dK (plc (names.take (t + 1)) 0)), fun J' z => ⟨_, by omega, z⟩, fun v J' y => ?_⟩
      obtain ⟨T, x, z, rfl, hT, rfl, ex, ez⟩ := w.yields t J v J' (by omega) hqJ y
      cases ex
      have ez' : z = V.str names[t] := by
        have e2 : (names.map V.str)[t]? = some z := ez
        rw [List.getElem?_map, List.getElem?_eq_getElem hlt] at e2
        exact (Option.some.inj e2).symm
      subst ez'
      have gr := Grow.hid (o := .tup [.int (t : Nat), .str names[t]]) (st.sub sJ) hT
      have sJ' := st.grow sJ gr
      have dJ' := gr.h _ _ dJ
      refine ⟨T, [.int (t : Nat), .str names[t]], rfl, SqT.of upd_same, rfl, _, _, rfl, _, _, rfl, rfl, hw _ _, ?_⟩
      refine tYes_run (iteT ?_)
      refine tVar_run (x := .str names[t]) ?_ (tVar_run (x := .int (t : Nat)) ?_ ⟨_, .inr names[t], rfl, dJ', ?_, rfl, by omega, ?_, ?_, ?_⟩)
      · rw [List.getElem?_set_self (by rw [List.length_set]; exact hlj)]
      · rw [List.getElem?_set_ne (Ne.symm hij), List.getElem?_set_self hli]
      · rw [plc_len, List.length_take]
        exact Nat.lt_of_le_of_lt (Nat.min_le_right _ _) (Nat.lt_of_le_of_lt hl (by decide))
      · exact kp_new (kJ.trans (Kp.of gr.h)) hD
      · exact st.chg s2.s hD sJ' gD
      · rw [upd_same]
        have nm : names[t] ∉ names.take t := fun z => by
          obtain ⟨a, ha, e⟩ := List.getElem_of_mem z
          rw [List.length_take] at ha
          rw [List.getElem_take] at e
          have := (List.getElem_inj hd).mp e
          omega
        rw [putK_new _ (plc_none nm), List.take_succ_eq_append_getElem hlt, plc_snoc, List.length_take, Nat.zero_add, Nat.min_eq_left (by omega)]
    · have ht' : t = names.length := by omega
      subst ht'
      rw [List.take_length] at dJ
      refine .inl ⟨by rw [← lm]; exact w.stops J hqJ, ?_⟩
      have g4 : Same G2 (upd G2 D (.dK (plc names 0))) := fun b o e => by
        rw [upd_ne (ne_of_none e gD)]
        exact e
      refine q (.ref D) (upd G2 D (.dK (plc names 0))) J ⟨s2.g.trans g4, s2.k.trans kJ, st.pub s2.s hD sJ gD dJ, fun b o e => ?_⟩ ⟨D, rfl, (s0.trans s2.g).free gD, upd_same⟩
      by_cases hb : b = D
      · rw [hb]
        exact .inr (s2.k.v D hD)
      · rw [upd_ne hb] at e
        exact s2.n b o e
end
/-! ### texts in parts -/
def EvJ (S : SR) (n : Nat) (ts : List TE) (acc : Str) (σ : L2.St) (G : Hp) (out : Str) : Prop := ∀ G1 H1, Same G G1 → S n G1 H1 → ∀ Q : Str → Hp → Prop, (∀ G2 H2, Stp S n G1 H1 G2 H2 → Q out H2) → tJs ts acc σ H1 Q
section
variable {S : SR} {n : Nat} {ts : List TE} {te : TE} {acc y out : Str} {σ : L2.St} {G : Hp} {i : Int}
theorem ej_nil : EvJ S n [] acc σ G acc := fun G1 H1 s0 s Q q => q G1 H1 (Stp.refl s)
theorem ej_cons (h : Ev S n 0 te σ G (IsV (.str y))) (hl : (acc ++ y).length ≤ sizeLine) (hr : EvJ S n ts (acc ++ y) σ G out) : EvJ S n (te :: ts) acc σ G out := fun G1 H1 s0 s Q q => by
  unfold tJs
  exact h G1 H1 s0 s _ fun v G2 H2 s2 e => ⟨y, e, hl, hr G2 H2 (s0.trans s2.g) s2.s _ fun G3 H3 s3 => q G3 H3 (s2.trans s3)⟩
theorem ev_fmtS (h : Ev S n 0 te σ G (IsV (.str y))) (hl : y.length ≤ sizeLine) : Ev S n 0 (tFmt te) σ G (IsV (.str y)) := fun G1 H1 s0 s Q q => h G1 H1 s0 s _ fun v G2 H2 s2 e => .inl ⟨y, e, hl, q _ G2 H2 s2 rfl⟩
theorem ev_fmtI (h : Ev S n 0 te σ G (IsV (.int i))) (hl : i.natAbs.log2 < 1920) : Ev S n 0 (tFmt te) σ G (IsV (.str (toString i))) := fun G1 H1 s0 s Q q => h G1 H1 s0 s _ fun v G2 H2 s2 e => .inr ⟨i, e, hl, q _ G2 H2 s2 rfl⟩
theorem ev_joined (h : EvJ S n ts Str.empty σ G out) : Ev S n 0 (fun σ H Q => tJs ts Str.empty σ H fun out H1 => Q (.str out) H1) σ G (IsV (.str out)) := fun G1 H1 s0 s Q q => h G1 H1 s0 s _ fun G2 H2 s2 => q _ G2 H2 s2 rfl
end
end L2.DS
/-! What a scale holds. -/
namespace L2.DS
open PySem PySem.Spec PyProof.Rows
def scF : List Str := ["label", "size", "never_at", "still_at", "depth", "worth_names", "worth_places", "product_table", "join_table"]
theorem lk_eq {f : Str} {v : V} {fs : List (Str × V)} : (putF f v fs).lookup f = some v := by rw [lookup_putF, if_pos rfl]
theorem lk_ne {f g : Str} {v : V} {fs : List (Str × V)} (h : ¬ g = f) : (putF f v fs).lookup g = fs.lookup g := by rw [lookup_putF, if_neg h]
theorem lk_off {f g : Str} {v : V} {fs : List (Str × V)} (h : f ∉ scF) (hg : g ∈ scF) : (putF g v fs).lookup f = fs.lookup f := lk_ne fun e => h (by rw [e]; exact hg)
theorem putF_len (f : Str) (v : V) : ∀ fs : List (Str × V), (putF f v fs).length ≤ fs.length + 1
  | [] => Nat.le_refl 1
  | (g, x) :: r => by
    unfold putF
    split
    · show r.length + 1 ≤ r.length + 1 + 1
      omega
    · have := putF_len f v r
      show (putF f v r).length + 1 ≤ r.length + 1 + 1
      omega
/-- a tuple of n things as R tells -/
def IsTN (m : Nat) (R : Nat → HR) : HR := fun v G => ∃ p ys, v = .ref p ∧ G p = some (.tup ys) ∧ ys.length = m ∧ ∀ i y, ys[i]? = some y → R i y G
instance (m) (R : Nat → HR) [∀ i, Mon (R i)] : Mon (IsTN m R) := ⟨fun s ⟨p, ys, e, h, l, r⟩ => ⟨p, ys, e, s _ _ h, l, fun i y z => Mon.mon s (r i y z)⟩⟩
theorem ev_tupLc {S : SR} {n k m : Nat} {te : TE} {σ : L2.St} {G F : Hp} {K : PySem.W.Frag} {R : Nat → HR} [∀ i, Mon (R i)] (st : Stab S) (h : Ev S n k te σ G (IsLN F m R)) : Ev S n (k + 0) (tCB (rTupQ K) (tCons te tNil)) σ G (IsTN m R) :=
  ev_cb (ea_cons h ea_nil) fun vs G2 s2 e => by
    obtain ⟨_, _, rfl, ⟨p, ys, rfl, _, hp, l, r⟩, e⟩ := e
    obtain rfl := (show _ = _ from e)
    intro n G1 H1 s0 s Q q
    refine c_tupN (K := K) st (SqL.of hp) n G1 H1 s0 s Q fun v G3 H3 s3 ⟨t, e, _, ht⟩ => ?_
    exact q v G3 H3 s3 ⟨t, ys, e, ht, l, fun i y z => Mon.mon (s0.trans s3.g) (r i y z)⟩
/-- a table of n rows of n places -/
def Tab (G : Hp) (p : Addr) (n : Nat) (th : Nat → Nat → Int) : Prop := IsTN n (fun i => IsTN n fun j => IsV (.int (th i j))) (.ref p) G
theorem Tab.mono {G G' : Hp} {p : Addr} {n : Nat} {th : Nat → Nat → Int} (h : Tab G p n th) (s : Same G G') : Tab G' p n th := Mon.mon s h
theorem tab_del {G : Hp} {v : V} {n : Nat} {th : Nat → Nat → Int} {x C dx : Addr} {fs : List (Str × V)} (h : IsTN n (fun i => IsTN n fun j => IsV (.int (th i j))) v G) (hx : G x = some (.ins C dx fs)) : IsTN n (fun i => IsTN n fun j => IsV (.int (th i j))) v (del G x) := by
  have k : ∀ {b : Addr} {ys : List V}, G b = some (.tup ys) → del G x b = some (.tup ys) := fun {b ys} e => by
    rw [del_ne (ne_of e hx (fun z => by cases z))]
    exact e
  obtain ⟨p, ys, e, hp, l, r⟩ := h
  refine ⟨p, ys, e, k hp, l, fun i y z => ?_⟩
  obtain ⟨q, zs, e2, hq, l2, r2⟩ := r i y z
  exact ⟨q, zs, e2, k hq, l2, r2⟩
/-- the row a of a table -/
theorem Tab.row {G : Hp} {p : Addr} {n : Nat} {th : Nat → Nat → Int} (h : Tab G p n th) : ∃ ys, G p = some (.tup ys) ∧ ys.length = n ∧ ∀ a < n, ∃ q zs, ys[a]? = some (.ref q) ∧ G q = some (.tup zs) ∧ zs.length = n ∧ ∀ b < n, zs[b]? = some (.int (th a b)) := by
  obtain ⟨p', ys, e, hp, l, r⟩ := h
  cases e
  refine ⟨ys, hp, l, fun a ha => ?_⟩
  have e1 : ys[a]? = some ys[a] := List.getElem?_eq_getElem (by omega)
  obtain ⟨q, zs, e2, hq, l2, r2⟩ := r a _ e1
  refine ⟨q, zs, by rw [e1, e2], hq, l2, fun b hb => ?_⟩
  have e3 : zs[b]? = some zs[b] := List.getElem?_eq_getElem (by omega)
  rw [e3, show zs[b] = V.int (th a b) from r2 b _ e3]
/-- the fields of a scale -/
structure ScIs (label : Str) (names : List Str) (nv sl dep : Int) (th jn : Nat → Nat → Int) (fs : List (Str × V)) (G : Hp) : Prop where
  lab : fs.lookup ("label" : Str) = some (.str label)
  siz : fs.lookup ("size" : Str) = some (.int (names.length : Nat))
  nev : fs.lookup ("never_at" : Str) = some (.int nv)
  sti : fs.lookup ("still_at" : Str) = some (.int sl)
  dep : fs.lookup ("depth" : Str) = some (.int dep)
  nam : ∃ p, fs.lookup ("worth_names" : Str) = some (.ref p) ∧ G p = some (.tup (names.map V.str))
  pla : ∃ p, fs.lookup ("worth_places" : Str) = some (.ref p) ∧ G p = some (.dK (plc names 0))
  pro : ∃ p, fs.lookup ("product_table" : Str) = some (.ref p) ∧ Tab G p names.length th
  joi : ∃ p, fs.lookup ("join_table" : Str) = some (.ref p) ∧ Tab G p names.length jn
theorem ScIs.mono {label : Str} {names : List Str} {nv sl dep : Int} {th jn : Nat → Nat → Int} {fs : List (Str × V)} {G G' : Hp} (h : ScIs label names nv sl dep th jn fs G) (s : Same G G') : ScIs label names nv sl dep th jn fs G' :=
  ⟨h.lab, h.siz, h.nev, h.sti, h.dep, let ⟨p, a, b⟩ := h.nam; ⟨p, a, s _ _ b⟩, let ⟨p, a, b⟩ := h.pla; ⟨p, a, s _ _ b⟩, let ⟨p, a, b⟩ := h.pro; ⟨p, a, b.mono s⟩, let ⟨p, a, b⟩ := h.joi; ⟨p, a, b.mono s⟩⟩
/-- what Scale.__init__ asks and leaves: PT, PJ tell of make_then, make_join -/
def PScI (K : PySem.W.Frag) (C0 : Addr) (PT PJ : List V → Hp → HR → Prop) : Addr → List (Str × V) → List V → Hp → OR → Prop := fun C fs rest G R => C = C0 ∧ ∃ (label : Str) (pn : Addr) (names : List Str) (nv sl dep : Int) (th jn : Nat → Nat → Int),
  rest = [.str label, .ref pn, .int nv, .int sl, .int dep] ∧ SqL K G pn (names.map V.str) ∧ names.length ≤ 100 ∧ names.Nodup ∧ fs.length ≤ 100 ∧ fs.lookup ("make_then" : Str) = none ∧ fs.lookup ("make_join" : Str) = none ∧
  (∀ x dx fs' G', Same G G' → G' x = some (.ins C dx fs') → (∀ f, f ∉ scF → fs'.lookup f = fs.lookup f) → ∀ a b : Nat, a < names.length → b < names.length → PT [.ref x, .int (a : Nat), .int (b : Nat)] G' (IsV (.int (th a b))) ∧ PJ [.ref x, .int (a : Nat), .int (b : Nat)] G' (IsV (.int (jn a b)))) ∧
  R = fun _ _ fs' G' => ScIs label names nv sl dep th jn fs' G' ∧ (∀ f, f ∉ scF → fs'.lookup f = fs.lookup f) ∧ fs'.length ≤ fs.length + 9
/-- tuple([tuple([self.m(a, b) for b in places]) for a in places]) -/
theorem ev_table {S : SR} (st : Stab S) {K : PySem.W.Frag} {x C dx pl : Addr} {fs : List (Str × V)} {nn n : Nat} {m : Str} {PX : List V → Hp → HR → Prop} {th : Nat → Nat → Int} {v1 v2 v3 v4 v5 u7 u8 u9 u10 : Option V} {G : Hp} {E : XK} (hx : G x = some (.ins C dx fs)) (hm : fs.lookup m = none)
    (hp : G pl = some (.lst ((List.range nn).map fun i => V.int (i : Nat)))) (hn : nn ≤ 100000) (hP : ∀ G', Same G G' → ∀ a b : Nat, a < nn → b < nn → PX [.ref x, .int (a : Nat), .int (b : Nat)] G' (IsV (.int (th a b)))) :
    Ev S n 0 (tCB (rTupQ K) (tCons (tLc (iList K (tVar 6)) (gName 9) tYes (tCB (rTupQ K) (tCons (tLc (iList K (tVar 6)) (gName 10) tYes (tMeth C m (spP PX) [] E (tVar 0) (tCons (tVar 9) (tCons (tVar 10) tNil))) [10]) tNil)) [9]) tNil))
      [some (.ref x), v1, v2, v3, v4, v5, some (.ref pl), u7, u8, u9, u10] G (IsTN nn fun i => IsTN nn fun j => IsV (.int (th i j))) := by
  have ll : ((List.range nn).map fun i => V.int (i : Nat)).length = nn := by rw [List.length_map, List.length_range]
  have at_ : ∀ {j : Nat} {v : V}, ((List.range nn).map fun i => V.int (i : Nat))[j]? = some v → j < nn ∧ v = .int (j : Nat) := fun {j v} e => by
    have hj : j < nn := by
      have := (List.getElem?_eq_some_iff.mp e).1
      omega
    rw [List.getElem?_map, List.getElem?_range hj] at e
    exact ⟨hj, (Option.some.inj e).symm⟩
  have h1 := ev_lcL (S := S) (n := n) (k := 0) (c1 := 0) (K := K) (i := 9) (vs := [9]) (el := tCB (rTupQ K) (tCons (tLc (iList K (tVar 6)) (gName 10) tYes (tMeth C m (spP PX) [] E (tVar 0) (tCons (tVar 9) (tCons (tVar 10) tNil))) [10]) tNil))
    (σ := [some (.ref x), v1, v2, v3, v4, v5, some (.ref pl), u7, u8, u9, u10]) (G := G) st (fun i => IsTN nn fun j => IsV (.int (th i j))) (ev_var (i := 6) rfl) (SqL.of hp) (by omega) (fun a y G2 ha s2 => ?_) (fun _ => rfl)
  · have h2 := ev_tupLc (K := K) st h1
    rw [ll] at h2
    exact Ev.wk st h2 (by simp)
  · obtain ⟨la, rfl⟩ := at_ ha
    have h3 := ev_lcL (S := S) (n := n + 0 + 0 * a) (k := 0) (c1 := 0) (K := K) (i := 10) (vs := [10]) (el := tMeth C m (spP PX) [] E (tVar 0) (tCons (tVar 9) (tCons (tVar 10) tNil)))
      (σ := (wipe [some (.ref x), v1, v2, v3, v4, v5, some (.ref pl), u7, u8, u9, u10] [9]).set 9 (some (.int (a : Nat)))) (G := G2) st (fun j => IsV (.int (th a j))) (ev_var (i := 6) rfl) (SqL.of (s2 _ _ hp)) (by omega) (fun b y G3 hb s3 => ?_) (fun _ => rfl)
    · have h4 := ev_tupLc (K := K) st h3
      rw [ll] at h4
      exact Ev.wk st h4 (by simp)
    · obtain ⟨lb, rfl⟩ := at_ hb
      exact ev_meth (RA := IsVs [.int (a : Nat), .int (b : Nat)]) st (ev_var rfl) ((s2.trans s3) _ _ hx) hm (ea_consV (ev_var rfl) (ea_consV (ev_var rfl) ea_nilV)) fun vs G4 s4 e => by
        obtain rfl : vs = _ := e
        exact hP G4 ((s2.trans s3).trans s4) a b la lb
/-- a scale stands at x -/
def ScAt (K : PySem.W.Frag) (label : Str) (names : List Str) (nv sl dep : Int) (th jn : Nat → Nat → Int) (x : Addr) (G : Hp) : Prop := ∃ C dx fs, G x = some (.ins C dx fs) ∧ Cls K C ∧ (∀ f ∈ scF, NoAttr K C f) ∧ ScIs label names nv sl dep th jn fs G
theorem ScAt.mono {K : PySem.W.Frag} {label : Str} {names : List Str} {nv sl dep : Int} {th jn : Nat → Nat → Int} {x : Addr} {G G' : Hp} (h : ScAt K label names nv sl dep th jn x G) (s : Same G G') : ScAt K label names nv sl dep th jn x G' :=
  let ⟨C, dx, fs, a, b, c, d⟩ := h
  ⟨C, dx, fs, s _ _ a, b, c, d.mono s⟩
/-- a product, a join of two places; whether a place lies within another; the name of a place -/
def PAt (K : PySem.W.Frag) (pick : (Nat → Nat → Int) → (Nat → Nat → Int) → Nat → Nat → V) : List V → Hp → HR → Prop := fun vs G R => ∃ (label : Str) (names : List Str) (nv sl dep : Int) (th jn : Nat → Nat → Int) (x : Addr) (a b : Nat), vs = [.ref x, .int (a : Nat), .int (b : Nat)] ∧ ScAt K label names nv sl dep th jn x G ∧ a < names.length ∧ b < names.length ∧ R = IsV (pick th jn a b)
def PName (K : PySem.W.Frag) : List V → Hp → HR → Prop := fun vs G R => ∃ (label : Str) (names : List Str) (nv sl dep : Int) (th jn : Nat → Nat → Int) (x : Addr) (a : Nat) (nm : Str), vs = [.ref x, .int (a : Nat)] ∧ ScAt K label names nv sl dep th jn x G ∧ names[a]? = some nm ∧ R = IsV (.str nm)
section
variable {S : SR} {K : PySem.W.Frag} {G : Hp} {σ : L2.St} {n k : Nat} {te : TE} {x C dx p : Addr} {fs : List (Str × V)} {nn : Nat} {th : Nat → Nat → Int} {a b i j : Nat}
theorem ev_tab (st : Stab S) (h : Ev S n k te σ G (IsV (.ref p))) (ht : Tab G p nn th) (ha : a < nn) (hb : b < nn) (e1 : σ[i]? = some (some (.int (a : Nat)))) (e2 : σ[j]? = some (some (.int (b : Nat)))) : Ev S n (k + 0 + 0) (tOp (rIxA K) (tOp (rIxA K) te (tVar i)) (tVar j)) σ G (IsV (.int (th a b))) := by
  obtain ⟨ys, hp, _, hr⟩ := ht.row
  obtain ⟨q, zs, e3, hq, _, hz⟩ := hr a ha
  exact ev_opV (ev_opV h (ev_var e1) (v_ixT st (SqT.of hp) (atI_nat e3))) (ev_var e2) (v_ixT st (SqT.of hq) (atI_nat (hz b hb)))
end
/-- a <= b <= c and the like -/
theorem ev_chain {S : SR} (st : Stab S) {n ka kb kc : Nat} {ta tb tc : TE} {r r' : R2} {σ : L2.St} {G : Hp} {x y z : V} {c d : Bool} (ha : Ev S n ka ta σ G (IsV x)) (hb : Ev S (n + ka) kb tb σ G (IsV y)) (hr : RV S r x y G (IsV (.bl c))) (hc : Ev S (n + ka + kb) kc tc σ G (IsV z)) (hr' : RV S r' y z G (IsV (.bl d))) :
    Ev S n (ka + kb + kc) (tChain r r' ta tb tc) σ G (IsV (.bl (c && d))) := fun G1 H1 s0 s Q q =>
  ha G1 H1 s0 s _ fun v G2 H2 s2 e => hb G2 H2 (s0.trans s2.g) s2.s _ fun w G3 H3 s3 e' => by
    obtain rfl : v = x := e
    obtain rfl : w = y := e'
    refine hr _ G3 H3 ((s0.trans s2.g).trans s3.g) s3.s _ fun u G4 H4 s4 e4 => ⟨c, e4, ?_⟩
    have t := (s2.trans s3).trans s4
    cases c with
    | false => exact iteF (q _ G4 H4 (t.wk st (by omega)) rfl)
    | true =>
      refine iteT (hc G4 H4 (s0.trans t.g) s4.s _ fun u2 G5 H5 s5 e5 => ?_)
      obtain rfl : u2 = z := e5
      exact hr' _ G5 H5 ((s0.trans t.g).trans s5.g) s5.s _ fun u3 G6 H6 s6 e6 => q u3 G6 H6 (((t.trans s5).trans s6).wk st (by omega)) e6
/-- d.get(k), the key there or not -/
theorem ev_dget {S : SR} (st : Stab S) {n ka kb : Nat} {td ty : TE} {σ : L2.St} {G : Hp} {a : Addr} {kvs : List (Key × V)} {k : Key} (h : Ev S n ka td σ G (IsV (.ref a))) (ha : G a = some (.dK kvs)) (hy : Ev S (n + ka) kb ty σ G (IsV (kV k))) : Ev S n (ka + kb) (tDGet1 td ty) σ G (IsV ((valV kvs k).getD .non)) := fun G1 H1 s0 s Q q =>
  h G1 H1 s0 s _ fun v G2 H2 s2 e => ⟨a, e, .inl ⟨kvs, .inl (st.sub s2.s _ _ (s2.g _ _ (s0 _ _ ha)))⟩, hy G2 H2 (s0.trans s2.g) s2.s _ fun w G3 H3 s3 e' => by
    obtain rfl : w = kV k := e'
    exact ⟨_, DGet.k (st.sub s3.s _ _ (s3.g _ _ (s2.g _ _ (s0 _ _ ha)))), q _ G3 H3 (s2.trans s3).up rfl⟩⟩
end L2.DS
/-! Scales of contents behind never. -/
namespace L2.DS
open PySem PySem.Spec PyProof.Rows
/-- the place that t.index(y) tells is k -/
def IdxOk (K : PySem.W.Frag) (G : Hp) (pt : Addr) (y : V) (k : Nat) : Prop := ∀ S, Stab S → RC S (rIndexTD K (.ref pt)) [y] G (IsV (.int (k : Nat)))
/-- make_then, make_join of such a scale: B tells what the two contents give, z what never gives -/
def PMk (K : PySem.W.Frag) (C0 : Addr) (m : Str) (B : List V → Hp → HR → Prop) (z : Nat → Nat → Int) : List V → Hp → HR → Prop := fun vs G R => ∃ (x dx pt : Addr) (fs : List (Str × V)) (o : Obj) (ws : List V) (a b : Nat), vs = [.ref x, .int (a : Nat), .int (b : Nat)] ∧
  G x = some (.ins C0 dx fs) ∧ fs.lookup ("contents" : Str) = some (.ref pt) ∧ fs.lookup m = none ∧ G pt = some (.frz o (.tup (.non :: ws))) ∧ o.dict = none ∧
  ((a = 0 ∨ b = 0) → R = IsV (.int (z a b))) ∧ (a ≠ 0 → b ≠ 0 → ∃ va vb Ry k, ws[a - 1]? = some va ∧ ws[b - 1]? = some vb ∧ Mon Ry ∧ (∀ G', Same G G' → B [.ref x, va, vb] G' Ry) ∧ (∀ y G', Same G G' → Ry y G' → IdxOk K G' pt y k) ∧ R = IsV (.int (k : Nat)))
def wnF : List Str := "contents" :: scF
/-- what WithNever.__init__ asks and leaves -/
def PWnI (K : PySem.W.Frag) (C0 : Addr) (PT PJ : List V → Hp → HR → Prop) : Addr → List (Str × V) → List V → Hp → OR → Prop := fun C fs rest G R => C = C0 ∧ ∃ (label : Str) (pc pw : Addr) (ws : List V) (words : List Str) (th jn : Nat → Nat → Int),
  rest = [.str label, .ref pc, .ref pw] ∧ Sq K G pc ws ∧ SqL K G pw (words.map V.str) ∧ words.length ≤ 99 ∧ ws.length ≤ 99 ∧ (("never" : Str) :: words).Nodup ∧ fs.length ≤ 90 ∧ fs.lookup ("make_then" : Str) = none ∧ fs.lookup ("make_join" : Str) = none ∧
  (∀ x dx pt o fs' G', Same G G' → G' x = some (.ins C dx fs') → (∀ f, f ∉ wnF → fs'.lookup f = fs.lookup f) → fs'.lookup ("contents" : Str) = some (.ref pt) → G' pt = some (.frz o (.tup (.non :: ws))) → o.dict = none → ∀ a b : Nat, a < words.length + 1 → b < words.length + 1 →
    PT [.ref x, .int (a : Nat), .int (b : Nat)] G' (IsV (.int (th a b))) ∧ PJ [.ref x, .int (a : Nat), .int (b : Nat)] G' (IsV (.int (jn a b)))) ∧
  R = fun _ _ fs' G' => ScIs label (("never" : Str) :: words) 0 1 1 th jn fs' G' ∧ (∀ f, f ∉ wnF → fs'.lookup f = fs.lookup f) ∧ fs'.length ≤ fs.length + 10
theorem wn_sc {f : Str} (h : f ∉ wnF) : f ∉ scF := fun z => h (List.mem_cons_of_mem _ z)
end L2.DS
/-! Scales of integers. -/
namespace L2.DS
open PySem PySem.Spec PyProof.Rows
def ordS (up : Bool) : Str := if up then "up" else "down"
def cthen (m i j : Int) : Int := if i + j > m then m else i + j
def ceit (up : Bool) (i j : Int) : Int := if decide (j < i) = up then i else j
def cth (m : Int) (a b : Nat) : Int := if a = 0 ∨ b = 0 then 0 else cthen m ((a : Int) - 1) ((b : Int) - 1) + 1
def cjn (up : Bool) (a b : Nat) : Int := if a = 0 ∨ b = 0 then (a : Int) + b else ceit up ((a : Int) - 1) ((b : Int) - 1) + 1
def cword (m i : Int) : Str := if i = m then "many" else toString i
def cwords (m : Nat) : List Str := (List.range (m + 1)).map fun i => cword (m : Nat) (i : Nat)
def clabel (m : Int) (up : Bool) : Str := ((((("(count " : Str) ++ (toString m : Str)) ++ (" " : Str)) ++ ordS up) ++ (")" : Str))
theorem cwords_nodup : ∀ m, m < 63 → (("never" : Str) :: cwords m).Nodup := by decide +kernel
theorem clabel_len : ∀ m : Nat, m < 63 → ∀ up, (clabel (m : Nat) up).length ≤ 100 ∧ (("(count " : Str) ++ (toString ((m : Nat) : Int) : Str)).length ≤ 100 ∧ ((("(count " : Str) ++ (toString ((m : Nat) : Int) : Str)) ++ (" " : Str)).length ≤ 100 ∧ (((("(count " : Str) ++ (toString ((m : Nat) : Int) : Str)) ++ (" " : Str)) ++ ordS up).length ≤ 100 := by decide +kernel
def PCut : List V → Hp → HR → Prop := fun vs _ R => ∃ n m : Int, vs = [.int n, .int m] ∧ R = IsV (.int (if n > m then m else n))
def PNum : List V → Hp → HR → Prop := fun vs _ R => ∃ n m : Int, vs = [.int n, .int m] ∧ n.natAbs.log2 < 1920 ∧ R = IsV (.str (cword m n))
def PBeh (C0 : Addr) : List V → Hp → HR → Prop := fun vs G R => ∃ (x dx : Addr) (fs : List (Str × V)) (m i j : Int), vs = [.ref x, .int i, .int j] ∧ G x = some (.ins C0 dx fs) ∧ fs.lookup ("most" : Str) = some (.int m) ∧ R = IsV (.int (cthen m i j))
def PEit (C0 : Addr) : List V → Hp → HR → Prop := fun vs G R => ∃ (x dx : Addr) (fs : List (Str × V)) (up : Bool) (i j : Int), vs = [.ref x, .int i, .int j] ∧ G x = some (.ins C0 dx fs) ∧ fs.lookup ("rising" : Str) = some (.bl up) ∧ R = IsV (.int (ceit up i j))
/-- what CountScale.__init__ asks and leaves -/
def PCsI (C0 : Addr) : Addr → List (Str × V) → List V → Hp → OR → Prop := fun C fs rest _ R => C = C0 ∧ fs = [] ∧ ∃ (m : Nat) (up : Bool), m < 63 ∧ rest = [.int (m : Nat), .str (ordS up)] ∧ R = fun _ _ fs' G' => ScIs (clabel (m : Nat) up) (("never" : Str) :: cwords m) 0 1 1 (cth (m : Nat)) (cjn up) fs' G' ∧ (∀ f, f ∉ wnF → f ≠ ("most" : Str) → f ≠ ("rising" : Str) → fs'.lookup f = none)
theorem dpAll_ints {K : PySem.W.Frag} {G : Hp} : ∀ l : List Int, DpAll K G (l.map V.int) (l.map PyData.int)
  | [] => .nil
  | i :: r => .cons (.int i) (dpAll_ints r)
theorem lay_ints : ∀ l : List Int, PyData.canLayAll0 (l.map PyData.int) = true
  | [] => by simp [PyData.canLayAll0]
  | i :: r => by simp [PyData.canLayAll0, PyData.canLay0, lay_ints r]
theorem lay_nones (l : List Int) : PyData.canLayAll0 (.none :: l.map PyData.int) = true := by simp [PyData.canLayAll0, PyData.canLay0, lay_ints l]
/-- the place of i in (None, 0, .., m) -/
theorem idx_count {K : PySem.W.Frag} {G : Hp} {pt : Addr} {o : Obj} {m i : Nat} (h : G pt = some (.frz o (.tup (.non :: ((List.range (m + 1)).map fun i => V.int (i : Nat)))))) (hi : i ≤ m) : IdxOk K G pt (.int (i : Nat)) (i + 1) := by
  intro S st
  have e : ((List.range (m + 1)).map fun i => V.int (i : Nat)) = ((List.range (m + 1)).map fun i => ((i : Nat) : Int)).map V.int := by rw [List.map_map]; rfl
  rw [e] at h
  refine c_indexTD (z := .int (i : Nat)) (d := .int (i : Nat)) (ds := .none :: ((List.range (m + 1)).map fun i => ((i : Nat) : Int)).map PyData.int) st (.tup (.inl (.inr ⟨o, h⟩)) (.cons .non (dpAll_ints _))) (.int _) (lay_nones _) (by simp [SeqAt.shaped, PyData.canLay0, PyData.depth]) ?_ (by simp [PyData.eqv]) (fun k z hk hz => ?_)
  · show (((List.range (m + 1)).map fun i => ((i : Nat) : Int)).map PyData.int)[i]? = _
    rw [List.getElem?_map, List.getElem?_map, List.getElem?_range (by omega)]
    rfl
  · cases k with
    | zero =>
      cases hz
      simp [PyData.eqv]
    | succ k =>
      have hz' : (((List.range (m + 1)).map fun i => ((i : Nat) : Int)).map PyData.int)[k]? = some z := hz
      rw [List.getElem?_map, List.getElem?_map, List.getElem?_range (by omega)] at hz'
      cases hz'
      simp [PyData.eqv]
      omega
end L2.DS
/-! isinstance of an own error that has fields; methods whose errors a try takes. -/
/-! Names of worths and odd words. -/
namespace L2.DS
open PySem PySem.Spec PyProof.Rows
/-- what a stretch of statements leaves as it was -/
structure Fr (S : SR) (G H G' H' : Hp) : Prop where
  g : Same G G'
  k : Kp S H H'
  n : ∀ b o, G' b = some o → G b = some o ∨ H b = none
theorem Fr.refl {S : SR} (G H : Hp) : Fr S G H G H := ⟨Same.refl _, Kp.refl _, fun _ _ e => .inl e⟩
theorem Fr.trans {S : SR} {G H G1 H1 G2 H2 : Hp} (a : Fr S G H G1 H1) (b : Fr S G1 H1 G2 H2) : Fr S G H G2 H2 := ⟨a.g.trans b.g, a.k.trans b.k, fun c o e => by
  rcases b.n c o e with z | z
  · exact a.n c o z
  · exact .inr (a.k.v c z)⟩
theorem Fr.kp {S : SR} {G H G1 H1 H2 : Hp} (a : Fr S G H G1 H1) (b : Kp S H1 H2) : Fr S G H G1 H2 := ⟨a.g, a.k.trans b, a.n⟩
theorem Stp.fr {S : SR} {n : Nat} {G H G1 H1 : Hp} (s : Stp S n G H G1 H1) : Fr S G H G1 H1 := ⟨s.g, s.k, s.n⟩
theorem Fr.stp {S : SR} {n : Nat} {G H G1 H1 : Hp} (f : Fr S G H G1 H1) (s : S n G1 H1) : Stp S n G H G1 H1 := ⟨f.g, f.k, s, f.n⟩
section
variable {S : SR} {n k ka kb kc : Nat} {te ta : TE} {t : TA} {tl th : TO} {σ : L2.St} {G : Hp} {K : PySem.W.Frag} {i : Int} {z : Str} {lo hi : Option Int} {p q : Addr} {xs ys : List V}
theorem rv_imp {r : R2} {x y : V} {R R' : HR} (h : RV S r x y G R) (i : ∀ v G', Same G G' → R v G' → R' v G') : RV S r x y G R' := fun n G1 H1 s0 s Q q => h n G1 H1 s0 s Q fun v G2 H2 s2 r => q v G2 H2 s2 (i v G2 (s0.trans s2.g) r)
end
end L2.DS
/-! What the laws' own defs need. -/
namespace L2.DS
open PySem PySem.Spec PyProof.Rows
section
variable {S : SR} {n k : Nat} {te : TE} {tt : TT} {ts t1 t2 u tb : TS} {σ : L2.St} {G H : Hp} {R : HR} {P : Bool → Prop} {x : V} {nx bk ct : L2.St → Hp → Prop} {rt : VK} {i : Nat} {K : PySem.W.Frag}
/-- state = _law_source(script) -/
theorem q_source {p : Addr} {ns : List Int} {t : TA} {E : XK} {H0 : Hp} (h : ∀ Q : List V → Hp → Prop, Q [.ref p] H0 → t σ H0 Q) (hq : SqL K H0 p (ns.map V.int)) (hl : ns.length ≤ 100000)
    (hr : ∀ sa cl H', Src sa cl 0 H0 H' → u (Ends.mk nx rt bk ct) (σ.set i (some (.ref sa))) H') : tSeq (tAsg (tCall (sp_source K) [] E t) (gName i)) u (Ends.mk nx rt bk ct) σ H0 :=
  h _ ⟨p, ns, rfl, hq, hl, fun sa cl H' s a b c => hr sa cl H' ⟨s, a, b, c⟩⟩
theorem et_andL {ka kb : Nat} {tu : TT} {a : Bool} {P2 : Bool → Prop} (st : Stab S) (h1 : EvT S n ka tt σ G (fun c => c = a)) (h2 : a = true → EvT S (n + ka) kb tu σ G P2) : EvT S n (ka + kb) (tAnd tt tu) σ G (fun c => c = true → a = true) := fun G1 H1 s0 s Q q =>
  h1 G1 H1 s0 s _ fun c G2 H2 s2 e => by
    subst e
    cases c with
    | true => exact iteT (h2 rfl G2 H2 (s0.trans s2.g) s2.s Q fun d G3 H3 s3 e => q d G3 H3 (s2.trans s3).up fun _ => rfl)
    | false => exact iteF (q false G2 H2 (s2.wk st (by omega)) fun z => by cases z)
theorem et_any {ka kb : Nat} {ta tb : TE} {r : R2} {Ra Rb : HR} [Mon Ra] (st : Stab S) (ha : Ev S n ka ta σ G Ra) (hb : Ev S (n + ka) kb tb σ G Rb) (hr : ∀ x y G', Same G G' → Ra x G' → Rb y G' → ∃ b, RV S r x y G' (IsV (.bl b))) : EvT S n (ka + kb) (tTest (tOp r ta tb)) σ G (fun _ => True) :=
  et_test (P := fun _ => True) (ev_op ha hb fun x y G' s rx ry => by
    obtain ⟨b, hb⟩ := hr x y G' s rx ry
    exact fun n G1 H1 s0 s Q q => hb n G1 H1 s0 s Q fun v G2 H2 s2 e => q v G2 H2 s2 ⟨b, trivial, e⟩)
theorem ev_impI {P1 P2 : Int → Prop} (h : Ev S n k te σ G (IsI P1)) (i : ∀ j, P1 j → P2 j) : Ev S n k te σ G (IsI P2) := h.imp fun v G' s ⟨j, p, e⟩ => ⟨j, i j p, e⟩
end
/-- flat values as data -/
def dOf : V → PyData
  | .bl b => .bool b | .int i => .int i | .str s => .str s | _ => .none
theorem dp_flat {K : PySem.W.Frag} {G : Hp} : ∀ {vs : List V}, vs.all flatV = true → DpAll K G vs (vs.map dOf)
  | [], _ => .nil
  | v :: r, h => by
    rw [List.all_cons, Bool.and_eq_true] at h
    refine .cons ?_ (dp_flat h.2)
    cases v with
    | non => exact .non
    | bl b => exact .bl b
    | int i => exact .int i
    | str x => exact .str x
    | _ => exact absurd h.1 (by simp [flatV])
theorem sml_flat (v : V) : Sml (dOf v) := by
  cases v <;> first | exact .non | exact .bl _ | exact .int _ | exact .str _
theorem depth_flat (v : V) : PyData.depth (dOf v) = 0 := by
  cases v <;> rfl
theorem depth_flats : ∀ vs : List V, PyData.depthAll (vs.map dOf) = 0
  | [] => rfl
  | v :: r => by
    show max (PyData.depth (dOf v)) (PyData.depthAll (r.map dOf)) = 0
    rw [depth_flat, depth_flats r]
    rfl
/-- two lists of the same flat values are alike -/
theorem like_flat {K : PySem.W.Frag} {G : Hp} {N : Nat} {p q : Addr} {vs : List V} (hp : SqL K G p vs) (hq : SqL K G q vs) (hf : vs.all flatV = true) (hl : vs.length ≤ 100000) (hN : 2 ≤ N) : PLike K N [.ref p, .ref q] G (IsV (.bl true)) := by
  refine ⟨.ref p, .ref q, .list (vs.map dOf), rfl, ?_, .lst (by rw [List.length_map]; exact hl) fun d hd => ?_, .lst hp (dp_flat hf), .lst hq (dp_flat hf), rfl⟩
  · show PyData.depthAll (vs.map dOf) + 1 < N
    rw [depth_flats]
    omega
  · obtain ⟨v, _, rfl⟩ := List.mem_map.mp hd
    exact sml_flat v
/-- a scale of integers stands at x, of the class at C -/
def CsAt (C x : Addr) (t : Nat) (up : Bool) (G : Hp) : Prop := ∃ dx fs, G x = some (.ins C dx fs) ∧ ScIs (clabel (t : Nat) up) (("never" : Str) :: cwords t) 0 1 1 (cth (t : Nat)) (cjn up) fs G ∧ ∀ f, f ∉ wnF → f ≠ ("most" : Str) → f ≠ ("rising" : Str) → fs.lookup f = none
theorem CsAt.mono {C x : Addr} {t : Nat} {up : Bool} {G G' : Hp} (h : CsAt C x t up G) (s : Same G G') : CsAt C x t up G' :=
  let ⟨dx, fs, a, b, c⟩ := h
  ⟨dx, fs, s _ _ a, b.mono s, c⟩
theorem CsAt.of {C : Addr} {t : Nat} {up : Bool} {v : V} {G : Hp} (h : IsO C (fun _ _ fs' G' => ScIs (clabel (t : Nat) up) (("never" : Str) :: cwords t) 0 1 1 (cth (t : Nat)) (cjn up) fs' G' ∧ (∀ f, f ∉ wnF → f ≠ ("most" : Str) → f ≠ ("rising" : Str) → fs'.lookup f = none)) v G) : ∃ x, v = .ref x ∧ CsAt C x t up G := by
  obtain ⟨x, dx, fs, G', rfl, gx, s, a, b⟩ := h
  have s' : Same G' G := fun c o e => s c o (by rw [upd_ne (ne_of_none e gx)]; exact e)
  exact ⟨x, rfl, dx, fs, s _ _ upd_same, a.mono s', b⟩
theorem CsAt.sc {K : PySem.W.Frag} {C x : Addr} {t : Nat} {up : Bool} {G : Hp} (h : CsAt C x t up G) (hC : Cls K C) (hN : ∀ f ∈ scF, NoAttr K C f) : ScAt K (clabel (t : Nat) up) (("never" : Str) :: cwords t) 0 1 1 (cth (t : Nat)) (cjn up) x G :=
  let ⟨dx, fs, a, b, _⟩ := h
  ⟨C, dx, fs, a, hC, hN, b⟩
theorem cwords_short : ∀ t, t < 63 → ∀ nm ∈ (("never" : Str) :: cwords t), nm.length ≤ 10 := by decide +kernel
/-- what each law's own def promises -/
def sp_law (K : PySem.W.Frag) : Sp := fun vs H Q _ => ∃ (p : Addr) (ns : List Int), vs = [.ref p] ∧ SqL K H p (ns.map V.int) ∧ ns.length ≤ 63 ∧ ∀ H', Q (.bl true) H'
end L2.DS
/-! From what the top has written to what the proofs ask. -/
namespace L2.DS
open PySem PySem.Spec PyProof.Rows
theorem mk_funD {K : PySem.W.Frag} {x qual : Str} {st : Stmt} {f T : Addr} {oc : Value} {od an dT : Option Addr} {osl slT : Array (Option Value)} {kV doc pm cdv ct cT : Value} {v : V} {u : Value} {n : Nat}
    (l : K.lookup f = some ⟨oc, od, .func (PySem.W.fnOf x qual (defArgs st) (defBody st) (defScope st) (.ref T) kV doc pm an cdv ct), osl⟩) (c : PySem.W.codeIn K cdv qual = true) (k : PySem.W.keepIn K (.ref f) = true) (lT : K.lookup T = some ⟨cT, dT, .seq [u].toArray n, slT⟩) (r : RelV v u) :
    FunD K x qual (defArgs st) (defBody st) (defScope st) [v] [] f (PySem.W.fnOf x qual (defArgs st) (defBody st) (defScope st) (.ref T) kV doc pm an cdv ct) :=
  ⟨⟨oc, od, .ref T, kV, doc, pm, an, cdv, ct, osl, rfl, l, c, .inr ⟨by simp, T, _, [u], n, rfl, lT, rfl, .cons r .nil⟩, .inl rfl⟩, k⟩
section
variable {P : Program} {K : PySem.W.Frag} {x qual : Str} {st : Stmt} {f cda cc D : Addr} {oc : Value} {od an oc1 oc2 oD : Option Addr} {osl sl1 sl2 slD : Array (Option Value)} {kV doc pm ct c1 c2 cD : Value} {vs : Array Value} {file : Str} {tf : Tok} {cd : ClassData}
theorem mk_funS (l : K.lookup f = some ⟨oc, od, .func (PySem.W.fnX x qual (defArgs st) (defBody st) (defScope st) [("__class__", cc)] .none kV doc pm an (.ref cda) ct), osl⟩) (c : PySem.W.codeIn K (.ref cda) qual = true) (lc : K.lookup cda = some ⟨c1, oc1, .fields vs, sl1⟩) (hv : vs[2]? = some (.str file tf)) (hf : ((P.main.file : Str) == file) = true)
    (lx : K.lookup cc = some ⟨c2, oc2, .cell (some (.ref D)), sl2⟩) (lD : K.lookup D = some ⟨cD, oD, .cls cd, slD⟩) (k : PySem.W.keepIn K (.ref f) = true) (fi : PySem.W.fnIn K f = true) (ty : PySem.W.typeIn K (.ref f) = some (.type "function")) {kws : List (Str × V)} (hk : KwdV K kV kws) :
    FunSD P K x qual st [] kws f (PySem.W.fnX x qual (defArgs st) (defBody st) (defScope st) [("__class__", cc)] .none kV doc pm an (.ref cda) ct) D :=
  ⟨⟨oc, od, .none, kV, doc, pm, an, cda, ct, osl, cc, _, vs, file, tf, c2, oc2, sl2, rfl, l, c, lc, rfl, hv, hf, lx, .inl ⟨rfl, rfl⟩, hk⟩, ⟨_, _, lD, rfl⟩, k, fi, ty⟩
end
theorem kwd_none {K : PySem.W.Frag} {kV : Value} : KwdV K kV [] := .inl rfl
theorem kwd_one {K : PySem.W.Frag} {D : Addr} {x : Str} {v : V} {u : Value} (h : PySem.W.nsIn K D x = some (some u)) (r : RelV v u) : KwdV K (.ref D) [(x, v)] := .inr ⟨D, rfl, fun q hq => by
  obtain rfl : q = (x, v) := by simpa using hq
  exact ⟨u, h, r⟩⟩
end L2.DS
/-! Own errors as values. -/
namespace L2.DS
open PySem PySem.Spec PyProof.Rows
/-- an error of the class at C stands at e, its dict at d (or none) -/
def ErO (C : Addr) (d : Option Addr) (e : Addr) : HO := .ext fun h => ∃ (oe : Obj) (vs : Array Value), h.get? e = some oe ∧ Zc (.ref C) d oe ∧ oe.data = .fields vs
/-! ### what evaluates to an error -/
def IsEr (C : Addr) (nm : Str) (v : V) : HR := fun u G => ∃ e dd, u = .ref e ∧ G e = some (ErO C (some dd) e) ∧ G dd = some (.xd [(nm, v)])
def IsEr0 (C : Addr) : HR := fun u G => ∃ e, u = .ref e ∧ G e = some (ErO C none e)
instance (C nm v) : Mon (IsEr C nm v) := ⟨fun s ⟨e, dd, a, b, c⟩ => ⟨e, dd, a, s _ _ b, s _ _ c⟩⟩
instance (C) : Mon (IsEr0 C) := ⟨fun s ⟨e, a, b⟩ => ⟨e, a, s _ _ b⟩⟩
/-- an error of the class at C, with a field or none -/
def IsErA (C : Addr) : HR := fun u G => ∃ e d, u = .ref e ∧ G e = some (ErO C d e) ∧ (d = none ∨ ∃ dd fs, d = some dd ∧ G dd = some (.xd fs))
theorem IsEr.any {C : Addr} {nm : Str} {v u : V} {G : Hp} (h : IsEr C nm v u G) : IsErA C u G := let ⟨e, dd, a, b, c⟩ := h; ⟨e, _, a, b, .inr ⟨dd, _, rfl, c⟩⟩
theorem IsEr0.any {C : Addr} {u : V} {G : Hp} (h : IsEr0 C u G) : IsErA C u G := let ⟨e, a, b⟩ := h; ⟨e, _, a, b, .inl rfl⟩
instance (C) : Mon (IsErA C) := ⟨fun s ⟨e, d, a, b, c⟩ => ⟨e, d, a, s _ _ b, c.imp id fun ⟨dd, fs, x, y⟩ => ⟨dd, fs, x, s _ _ y⟩⟩⟩
/-- a list of things as RA tells -/
def IsLX (RA : HRs) : HR := fun v G => ∃ p xs, v = .ref p ∧ G p = some (.lst xs) ∧ RA xs G
instance (RA) [Mons RA] : Mon (IsLX RA) := ⟨fun s ⟨p, xs, e, h, r⟩ => ⟨p, xs, e, s _ _ h, Mons.mon s r⟩⟩
/-- an error told by its class and its field -/
def IsErS (s : Addr × Option (Str × V)) : HR := fun u G => match s.2 with
  | none => IsEr0 s.1 u G
  | some p => IsEr s.1 p.1 p.2 u G
instance (s) : Mon (IsErS s) := ⟨fun {u G G'} t h => by
  obtain ⟨C, o⟩ := s
  cases o with
  | none => exact (Mon.mon t (show IsEr0 C u G from h) : IsEr0 C u G')
  | some p => exact (Mon.mon t (show IsEr C p.1 p.2 u G from h) : IsEr C p.1 p.2 u G')⟩
theorem IsErS.any {s : Addr × Option (Str × V)} {u : V} {G : Hp} (h : IsErS s u G) : IsErA s.1 u G := by
  obtain ⟨C, o⟩ := s
  cases o with
  | none => exact (show IsEr0 C u G from h).any
  | some p => exact (show IsEr C p.1 p.2 u G from h).any
def RE : List (Addr × Option (Str × V)) → HRs
  | [] => RNil
  | s :: r => RCons (IsErS s) (RE r)
theorem re_mon : ∀ {ss : List (Addr × Option (Str × V))} {vs : List V} {G G' : Hp}, Same G G' → RE ss vs G → RE ss vs G'
  | [], _, _, _, _, h => h
  | s :: r, _, _, _, t, ⟨v, w, e, h, h'⟩ => ⟨v, w, e, Mon.mon t h, re_mon t h'⟩
instance (ss) : Mons (RE ss) := ⟨re_mon⟩
section
variable {S : SR} {n k ka kb : Nat} {t ta : TA} {te : TE} {σ : L2.St} {G H : Hp} {K : PySem.W.Frag} {C e : Addr} {nm : Str} {v c : V} {cv : Value} {b : Bool} {RA RB : HRs} {p q : Addr} {xs ys : List V}
theorem ev_lstX (st : Stab S) [Mons RA] (h : EvA S n k t σ G RA) (hl : ∀ vs G', RA vs G' → vs.length ≤ 100000) : Ev S n k (tLst t) σ G (IsLX RA) := fun G1 H1 s0 s Q q =>
  h G1 H1 s0 s _ fun vs G2 H2 s2 e => ⟨Nat.le_trans (hl vs G2 e) (by decide), fun p hp => by
    have g := st.new (o := .lst vs) s2.s hp
    exact q (.ref p) _ _ (s2.trans g) ⟨p, vs, rfl, upd_same, Mons.mon g.g e⟩⟩
end
/-! ### texts and lists several times -/
def IsBl (L : List V) : HR := fun v G' => ∃ p, v = .ref p ∧ G' p = some (.lst L)
instance (L) : Mon (IsBl L) := ⟨fun s ⟨p, e, h⟩ => ⟨p, e, s _ _ h⟩⟩
end L2.DS
/-! Lists told thing by thing; comprehensions of two loops, over pairs. -/
namespace L2.DS
open PySem PySem.Spec PyProof.Rows
section
variable {α : Type} {R : α → HR}
/-- one thing behind the other, as R tells each -/
def RL (R : α → HR) : List α → HRs
  | [] => RNil
  | a :: r => RCons (R a) (RL R r)
theorem rl_mon [∀ a, Mon (R a)] : ∀ {ss : List α} {vs : List V} {G G' : Hp}, Same G G' → RL R ss vs G → RL R ss vs G'
  | [], _, _, _, _, h => h
  | s :: r, _, _, _, t, ⟨v, w, e, h, h'⟩ => ⟨v, w, e, Mon.mon t h, rl_mon t h'⟩
instance [∀ a, Mon (R a)] (ss : List α) : Mons (RL R ss) := ⟨rl_mon⟩
theorem rl_len : ∀ {ss : List α} {vs : List V} {G : Hp}, RL R ss vs G → vs.length = ss.length
  | [], _, _, h => by rw [show _ = [] from h]; rfl
  | s :: r, _, _, ⟨v, w, e, _, h⟩ => by rw [e, List.length_cons, List.length_cons, rl_len h]
theorem rl_app : ∀ {ss ts : List α} {vs ws : List V} {G : Hp}, RL R ss vs G → RL R ts ws G → RL R (ss ++ ts) (vs ++ ws) G
  | [], _, _, _, _, h, h' => by
    obtain rfl := (show _ = [] from h)
    exact h'
  | s :: r, _, _, _, _, ⟨v, w, e, a, b⟩, h' => ⟨v, w ++ _, by rw [e]; rfl, a, rl_app b h'⟩
theorem rl_one {a : α} {v : V} {G : Hp} (h : R a v G) : RL R [a] [v] G := ⟨v, [], rfl, h, rfl⟩
theorem rl_get : ∀ {ss : List α} {vs : List V} {G : Hp} {i : Nat} {s : α}, RL R ss vs G → ss[i]? = some s → ∃ v, vs[i]? = some v ∧ R s v G
  | [], _, _, i, s, _, e => by simp at e
  | t :: r, _, _, 0, s, ⟨v, w, e, a, b⟩, h => by
    cases h
    exact ⟨v, by rw [e]; rfl, a⟩
  | t :: r, _, _, i + 1, s, ⟨v, w, e, a, b⟩, h => by
    obtain ⟨u, h1, h2⟩ := rl_get (i := i) b h
    exact ⟨u, by rw [e]; exact h1, h2⟩
theorem rl_vals {g : α → V} : ∀ {ss : List α} {vs : List V} {G : Hp}, RL (fun a => IsV (g a)) ss vs G → vs = ss.map g
  | [], _, _, h => h
  | s :: r, _, _, ⟨v, w, e, a, b⟩ => by rw [e, show v = g s from a, rl_vals b]; rfl
/-- a list newly made -/
def IsNX (F : Hp) (RA : HRs) : HR := fun v G => ∃ p xs, v = .ref p ∧ F p = none ∧ G p = some (.lst xs) ∧ RA xs G
instance (F RA) [Mons RA] : Mon (IsNX F RA) := ⟨fun s ⟨p, xs, e, f, h, r⟩ => ⟨p, xs, e, f, s _ _ h, Mons.mon s r⟩⟩
/-- the list at D grows -/
def LcQ (S : SR) (G2 H2 : Hp) (n : Nat) (D : Addr) (R : α → HR) (ss : List α) (J : Hp) : Prop := ∃ G3 acc, Stp S n G2 H2 G3 J ∧ G3 D = none ∧ J D = some (.lst acc) ∧ RL R ss acc G3
variable {S : SR} {n k c1 : Nat} {te el : TE} {σ : L2.St} {G : Hp} {K : PySem.W.Frag}
theorem lcq_start (st : Stab S) {G2 H2 : Hp} {D : Addr} (a : S n G2 H2) (hD : H2 D = none) : LcQ S G2 H2 n D R [] (upd H2 D (.lst [])) := by
  have gD : G2 D = none := (st.sub a).free hD
  exact ⟨G2, [], ⟨Same.refl _, kp_new (Kp.refl H2) hD, st.chg a hD a gD, fun _ _ h => .inl h⟩, gD, upd_same, rfl⟩
theorem lcq_end (st : Stab S) [∀ a, Mon (R a)] {G1 H1 G2 H2 H : Hp} {D : Addr} {ss : List α} {Q : VK} (a : Stp S n G1 H1 G2 H2) (hD : H2 D = none) (h : LcQ S G2 H2 n D R ss H)
    (q : ∀ v G' H', Stp S n G1 H1 G' H' → IsNX G1 (RL R ss) v G' → Q v H') : Q (.ref D) H := by
  obtain ⟨G3, acc, s3, c, d, r⟩ := h
  have t := a.trans s3
  have g4 : Same G3 (upd G3 D (.lst acc)) := fun y o z => by
    rw [upd_ne (ne_of_none z c)]
    exact z
  refine q (.ref D) _ H ⟨t.g.trans g4, t.k, st.pub a.s hD s3.s c d, fun b o e => ?_⟩ ⟨D, acc, rfl, t.g.free c, upd_same, rl_mon g4 r⟩
  by_cases hb : b = D
  · rw [hb]
    exact .inr (a.k.v D hD)
  · rw [upd_ne hb] at e
    exact t.n b o e
/-- one more thing -/
theorem lcq_step (st : Stab S) [∀ a, Mon (R a)] {G2 H2 J : Hp} {D : Addr} {ss : List α} {x : α} {Nx : Hp → Prop} (a : S n G2 H2) (hD : H2 D = none) (h : LcQ S G2 H2 n D R ss J) (hl : ss.length < 100000)
    (hs : ∀ G', Same G2 G' → Ev S n 0 el σ G' (R x)) (hN : ∀ J', LcQ S G2 H2 n D R (ss ++ [x]) J' → Nx J') :
    el σ J fun y H4 => ∃ acc, H4 D = some (.lst acc) ∧ acc.length < sizeLine ∧ Nx (upd H4 D (.lst (acc ++ [y]))) := by
  obtain ⟨G3, acc, s3, c, d, r⟩ := h
  refine hs G3 s3.g G3 J (Same.refl _) s3.s _ fun y G4 J4 s4 ry => ?_
  have d4 : J4 D = some (.lst acc) := s4.k.k D _ (st.fre a hD) d
  have c4 : G4 D = none := by
    cases e : G4 D with
    | none => rfl
    | some o =>
      rcases s4.n D o e with q | q
      · rw [c] at q
        cases q
      · rw [d] at q
        cases q
  have t : Stp S n G2 H2 G4 J4 := s3.trans s4
  have ll := rl_len r
  refine ⟨acc, d4, Nat.lt_of_lt_of_le (show acc.length < 100000 by omega) (by decide), hN _ ⟨G4, acc ++ [y], ⟨t.g, kp_new t.k hD, st.chg a hD t.s c4, t.n⟩, c4, upd_same, rl_app (rl_mon s4.g r) (rl_one ry)⟩⟩
theorem lcq_move (st : Stab S) [∀ a, Mon (R a)] {G2 H2 J G3 G4 H4 : Hp} {D : Addr} {ss : List α} {acc : List V} (a : S n G2 H2) (hD : H2 D = none) (s3 : Stp S n G2 H2 G3 J) (c : G3 D = none) (d : J D = some (.lst acc)) (r : RL R ss acc G3) (s4 : Stp S n G3 J G4 H4) : LcQ S G2 H2 n D R ss H4 := by
  have c4 : G4 D = none := by
    cases e : G4 D with
    | none => rfl
    | some o =>
      rcases s4.n D o e with q | q
      · rw [c] at q
        cases q
      · rw [d] at q
        cases q
  exact ⟨G4, acc, s3.trans s4, c4, s4.k.k D _ (st.fre a hD) d, rl_mon s4.g r⟩
/-- [el for x in xs], any target -/
theorem ev_lcG (st : Stab S) [∀ a, Mon (R a)] {g : TG} {vs : List Nat} {p : Addr} {xs : List V} {ss : List α} {σf : Nat → L2.St} (e : Ev S n k te σ G (IsV (.ref p))) (hq : SqL K G p xs) (hx : xs.length = ss.length) (hl : xs.length ≤ 100000)
    (hg : ∀ j x G' J, xs[j]? = some x → Same G G' → Same G' J → ∀ Q : L2.St → Hp → Prop, Q (σf j) J → g x (wipe σ vs) J Q) (hw : ∀ j, wipe (σf j) vs = wipe σ vs)
    (hs : ∀ j x s G', xs[j]? = some x → ss[j]? = some s → Same G G' → Ev S (n + k) 0 el (σf j) G' (R s)) : Ev S n k (tLc (iList K te) g tYes el vs) σ G (IsNX G (RL R ss)) := fun G1 H1 s0 s Q q =>
  e G1 H1 s0 s _ fun v G2 H2 s2 ev => ⟨p, ev, ⟨xs, Same.seq (s0.trans (s2.g.trans (st.sub s2.s))) hq⟩, fun D hD =>
    lc_list (K := K) (a := p) (xs := xs) (fun j J => j ≤ xs.length ∧ LcQ S G2 H2 (n + k) D R (ss.take j) J) ⟨Nat.zero_le _, lcq_start st s2.s hD⟩ (fun j J _ ⟨_, G3, acc, a, _⟩ => ((s0.trans s2.g).trans (a.g.trans (st.sub a.s))).seq hq)
      (fun j x J hx' ⟨_, h⟩ => by
        have hj : j < xs.length := (List.getElem?_eq_some_iff.mp hx').1
        obtain ⟨G3, acc, a, b⟩ := id h
        refine hg j x G3 J hx' ((s0.trans s2.g).trans a.g) (st.sub a.s) _ ⟨hw j, tYes_run (iteT ?_)⟩
        have hsj : ss[j]? = some ss[j] := List.getElem?_eq_getElem (by omega)
        refine lcq_step (x := ss[j]) (Nx := fun J => j + 1 ≤ xs.length ∧ LcQ S G2 H2 (n + k) D R (ss.take (j + 1)) J) st s2.s hD h (by rw [List.length_take]; omega) (fun G' g' => hs j x _ G' hx' hsj ((s0.trans s2.g).trans g')) fun J' h' => ⟨hj, ?_⟩
        rw [List.take_succ_eq_append_getElem (by omega)]
        exact h')
      fun J ⟨_, h⟩ => by
        rw [hx, List.take_length] at h
        exact lcq_end st s2 hD h fun v G' H' a ⟨p, xs, e, f, r⟩ => q v G' H' a ⟨p, xs, e, s0.free f, r⟩⟩
/-- [el for i in range(m) for j in range(lo, hi)] -/
theorem ev_lc2RR (st : Stab S) [∀ a, Mon (R a)] {ta tb : TA} {i j : Nat} {vs vs1 : List Nat} {m : Nat} {lo hi : Nat → Int} {f : Nat → Int → α} {σa : Nat → L2.St} {σb : Nat → Int → L2.St} (e : EvA S n k ta σ G (IsVs [.int (m : Nat)])) (hm : m ≤ 300)
    (hb : ∀ a, a < m → -(2 ^ 62) ≤ lo a ∧ lo a < 2 ^ 62 ∧ -(2 ^ 62) ≤ hi a ∧ hi a < 2 ^ 62 ∧ (hi a - lo a).toNat ≤ 300) (ea : ∀ a, (wipe σ vs).set i (some (.int (a : Nat))) = σa a) (eb : ∀ a b, (wipe (σa a) vs1).set j (some (.int b)) = σb a b) (hw : ∀ a, wipe (σa a) vs = wipe σ vs) (hw1 : ∀ a b, wipe (σb a b) vs1 = wipe (σa a) vs1)
    (hi1 : ∀ a G', a < m → Same G G' → EvA S (n + k) 0 tb (σa a) G' (IsVs [.int (lo a), .int (hi a)])) (hs : ∀ (a : Nat) (b : Int) G', a < m → lo a ≤ b → b < hi a → Same G G' → Ev S (n + k) 0 el (σb a b) G' (R (f a b))) :
    Ev S n k (tLc2 (iRng1 ta) (gName i) tYes (iRng2 tb) (gName j) tYes el vs vs1) σ G (IsNX G (RL R ((List.range m).flatMap fun a => (List.range (hi a - lo a).toNat).map fun t => f a (lo a + (t : Nat))))) := fun G1 H1 s0 s Q q => by
  refine e G1 H1 s0 s _ fun v G2 H2 s2 ev => ⟨(m : Nat), ev, by omega, by omega, fun D hD => ?_⟩
  have row : ∀ a, ((List.range (hi a - lo a).toNat).map fun t => f a (lo a + (t : Nat))).length = (hi a - lo a).toNat := fun a => by rw [List.length_map, List.length_range]
  have tot : ∀ t, t ≤ m → ((List.range t).flatMap fun a => (List.range (hi a - lo a).toNat).map fun t => f a (lo a + (t : Nat))).length ≤ 300 * t := by
    intro t
    induction t with
    | zero => intro _; exact Nat.le_refl 0
    | succ t ih =>
      intro h
      rw [List.range_succ, List.flatMap_append, List.length_append]
      have h1 := ih (by omega)
      have h2 := (hb t (by omega)).2.2.2.2
      have h3 : (([t] : List Nat).flatMap fun a => (List.range (hi a - lo a).toNat).map fun t => f a (lo a + (t : Nat))).length = (hi t - lo t).toNat := by
        rw [List.flatMap_cons, List.flatMap_nil, List.append_nil]
        exact row t
      omega
  refine ⟨fun t mm J => mm = m - t ∧ t ≤ m ∧ LcQ S G2 H2 (n + k) D R ((List.range t).flatMap fun a => (List.range (hi a - lo a).toNat).map fun t => f a (lo a + (t : Nat))) J, ⟨m, by omega, by omega, lcq_start st s2.s hD⟩, ?_⟩
  rintro t mm J ⟨rfl, ht, h⟩
  by_cases hlt : t < m
  · refine .inr ⟨show t < ((m : Nat) : Int).toNat by omega, fun J' => LcQ S G2 H2 (n + k) D R ((List.range (t + 1)).flatMap fun a => (List.range (hi a - lo a).toNat).map fun t => f a (lo a + (t : Nat))) J', fun J' h' => ⟨m - (t + 1), by omega, rfl, hlt, h'⟩, ?_⟩
    rintro x J' ⟨rfl, rfl⟩
    show wipe ((wipe σ vs).set i (some (.int (0 + (t : Nat))))) vs = _ ∧ tYes ((wipe σ vs).set i (some (.int (0 + (t : Nat))))) J' _
    rw [Int.zero_add, ea t]
    refine ⟨hw t, tYes_run (iteT ?_)⟩
    obtain ⟨G3, acc, a3, c3, d3, r3⟩ := id h
    refine hi1 t G3 hlt ((s0.trans s2.g).trans a3.g) G3 _ (Same.refl _) a3.s _ fun v4 G4 H4 s4 e4 => ?_
    obtain ⟨b1, b2, b3, b4, b5⟩ := hb t hlt
    refine ⟨lo t, hi t, e4, ⟨b1, b2, b3, b4⟩, ?_⟩
    have hmv := lcq_move (n := n + k) st s2.s hD a3 c3 d3 r3 s4
    have rt := row t
    have tt := tot t ht
    have esp : ((List.range (t + 1)).flatMap fun a => (List.range (hi a - lo a).toNat).map fun t => f a (lo a + (t : Nat))) = ((List.range t).flatMap fun a => (List.range (hi a - lo a).toNat).map fun t => f a (lo a + (t : Nat))) ++ (List.range (hi t - lo t).toNat).map fun u => f t (lo t + (u : Nat)) := by
      rw [List.range_succ, List.flatMap_append, List.flatMap_cons, List.flatMap_nil, List.append_nil]
    generalize ((List.range (t + 1)).flatMap fun a => (List.range (hi a - lo a).toNat).map fun t => f a (lo a + (t : Nat))) = sp1 at esp
    generalize ((List.range t).flatMap fun a => (List.range (hi a - lo a).toNat).map fun t => f a (lo a + (t : Nat))) = sp at hmv tt esp
    have gr : ∀ u, u < (hi t - lo t).toNat → ((List.range (hi t - lo t).toNat).map fun u => f t (lo t + (u : Nat))).take (u + 1) = ((List.range (hi t - lo t).toNat).map fun u => f t (lo t + (u : Nat))).take u ++ [f t (lo t + (u : Nat))] := fun u hu => by
      rw [List.take_succ_eq_append_getElem (by rw [rt]; exact hu), List.getElem_map, List.getElem_range]
    generalize ((List.range (hi t - lo t).toNat).map fun u => f t (lo t + (u : Nat))) = rw_ at esp rt gr
    refine ⟨fun u kk J' => kk = (hi t - lo t).toNat - u ∧ u ≤ (hi t - lo t).toNat ∧ LcQ S G2 H2 (n + k) D R (sp ++ rw_.take u) J', ⟨(hi t - lo t).toNat, by omega, by omega, by simpa using hmv⟩, ?_⟩
    rintro u kk J' ⟨rfl, hu, h'⟩
    by_cases hlu : u < (hi t - lo t).toNat
    · refine .inr ⟨hlu, fun J'' => LcQ S G2 H2 (n + k) D R (sp ++ rw_.take (u + 1)) J'', fun J'' h'' => ⟨(hi t - lo t).toNat - (u + 1), by omega, rfl, hlu, h''⟩, ?_⟩
      rintro x J'' ⟨rfl, rfl⟩
      show wipe ((wipe (σa t) vs1).set j (some (.int (lo t + (u : Nat))))) vs1 = _ ∧ tYes ((wipe (σa t) vs1).set j (some (.int (lo t + (u : Nat))))) J'' _
      rw [eb]
      refine ⟨hw1 t _, tYes_run (iteT ?_)⟩
      refine lcq_step (x := f t (lo t + (u : Nat))) (Nx := fun J'' => LcQ S G2 H2 (n + k) D R (sp ++ rw_.take (u + 1)) J'') st s2.s hD h' (by rw [List.length_append, List.length_take]; omega) (fun G' g' => hs t _ G' hlt (by omega) (by omega) ((s0.trans s2.g).trans g')) fun J3 h3 => ?_
      rw [gr u hlu, ← List.append_assoc]
      exact h3
    · have e : u = (hi t - lo t).toNat := by omega
      refine .inl ⟨show (hi t - lo t).toNat ≤ u by omega, ?_⟩
      rw [e, List.take_of_length_le (by omega), ← esp] at h'
      exact h'
  · have e : m = t := by omega
    subst e
    refine .inl ⟨show ((m : Nat) : Int).toNat ≤ m by omega, ?_⟩
    exact lcq_end st s2 hD h fun v G' H' a ⟨p, xs, e, f, r⟩ => q v G' H' a ⟨p, xs, e, s0.free f, r⟩
end
end L2.DS
/-! Scales of spans. -/
namespace L2.DS
open PySem PySem.Spec PyProof.Rows
/-- the tuple of two whole numbers -/
def IsPr (s : Int × Int) : HR := fun v G => ∃ p, v = .ref p ∧ G p = some (.tup [.int s.1, .int s.2])
instance (s) : Mon (IsPr s) := ⟨fun t ⟨p, e, h⟩ => ⟨p, e, t _ _ h⟩⟩
def spansL (m : Nat) : List (Int × Int) := (List.range (m + 1)).flatMap fun a => (List.range (((m : Int) + 1) - (a : Nat)).toNat).map fun t => (((a : Nat) : Int), ((a : Nat) : Int) + (t : Nat))
theorem mem_spans {m : Nat} {s : Int × Int} : s ∈ spansL m ↔ 0 ≤ s.1 ∧ s.1 ≤ s.2 ∧ s.2 ≤ m := by
  unfold spansL
  rw [List.mem_flatMap]
  constructor
  · rintro ⟨a, ha, h⟩
    obtain ⟨t, ht, rfl⟩ := List.mem_map.mp h
    have h1 := List.mem_range.mp ha
    have h2 := List.mem_range.mp ht
    refine ⟨by omega, by omega, ?_⟩
    show ((a : Nat) : Int) + (t : Nat) ≤ m
    omega
  · rintro ⟨h1, h2, h3⟩
    refine ⟨s.1.toNat, List.mem_range.mpr (by omega), List.mem_map.mpr ⟨(s.2 - s.1).toNat, List.mem_range.mpr (by omega), ?_⟩⟩
    refine Prod.ext ?_ ?_
    · show ((s.1.toNat : Nat) : Int) = s.1
      omega
    · show ((s.1.toNat : Nat) : Int) + (((s.2 - s.1).toNat : Nat) : Int) = s.2
      omega
def scut (m : Int) (a b : Int × Int) : Int × Int := (if a.1 + b.1 > m then m else a.1 + b.1, if a.2 + b.2 > m then m else a.2 + b.2)
def seit (a b : Int × Int) : Int × Int := (if a.1 < b.1 then a.1 else b.1, if a.2 > b.2 then a.2 else b.2)
theorem scut_mem {m : Nat} {a b : Int × Int} (ha : a ∈ spansL m) (hb : b ∈ spansL m) : scut m a b ∈ spansL m := by
  rw [mem_spans] at ha hb ⊢
  unfold scut
  refine ⟨?_, ?_, ?_⟩
  all_goals
    dsimp only
    repeat' split
    all_goals omega
theorem seit_mem {m : Nat} {a b : Int × Int} (ha : a ∈ spansL m) (hb : b ∈ spansL m) : seit a b ∈ spansL m := by
  rw [mem_spans] at ha hb ⊢
  unfold seit
  refine ⟨?_, ?_, ?_⟩
  all_goals
    dsimp only
    repeat' split
    all_goals omega
/-- the place of a span behind never -/
def spl (m : Nat) (s : Int × Int) : Nat := (spansL m).idxOf s + 1
def sth (m : Nat) (a b : Nat) : Int := if a = 0 ∨ b = 0 then 0 else (spl m (scut m ((spansL m).getD (a - 1) (0, 0)) ((spansL m).getD (b - 1) (0, 0))) : Nat)
def sjn (m : Nat) (a b : Nat) : Int := if a = 0 ∨ b = 0 then (a : Int) + b else (spl m (seit ((spansL m).getD (a - 1) (0, 0)) ((spansL m).getD (b - 1) (0, 0))) : Nat)
def sword (m : Int) (s : Int × Int) : Str := (cword m s.1 ++ ("to" : Str)) ++ cword m s.2
def swords (m : Nat) : List Str := (spansL m).map (sword (m : Nat))
def slabel (m : Int) : Str := (("(span " : Str) ++ (toString m : Str)) ++ (")" : Str)
theorem swords_nodup : ∀ m, m < 10 → (("never" : Str) :: swords m).Nodup := by decide +kernel
theorem spans_len : ∀ m, m < 10 → (spansL m).length ≤ 55 := by decide +kernel
/-- data of a pair -/
def prd (s : Int × Int) : PyData := .tuple [.int s.1, .int s.2]
theorem prd_eqv (a b : Int × Int) : PyData.eqv (prd a) (prd b) = decide (a = b) := by
  obtain ⟨a1, a2⟩ := a
  obtain ⟨b1, b2⟩ := b
  simp only [prd, PyData.eqv, PyData.eqvAll]
  by_cases h : ((a1, a2) : Int × Int) = (b1, b2)
  · cases h
    simp
  · rw [decide_eq_false h]
    by_cases h1 : a1 = b1
    · subst h1
      have h2 : ¬ a2 = b2 := fun z => h (by rw [z])
      simp [h2]
    · simp [h1]
theorem dp_pr {K : PySem.W.Frag} {G : Hp} {s : Int × Int} {v : V} (h : IsPr s v G) : Dp K G v (prd s) := by
  obtain ⟨p, rfl, h⟩ := h
  exact .tup (SqT.of h) (.cons (.int _) (.cons (.int _) .nil))
theorem dp_prs {K : PySem.W.Frag} {G : Hp} : ∀ {ss : List (Int × Int)} {vs : List V}, RL IsPr ss vs G → DpAll K G vs (ss.map prd)
  | [], _, h => by rw [show _ = [] from h]; exact .nil
  | s :: r, _, ⟨v, w, e, a, b⟩ => by rw [e]; exact .cons (dp_pr a) (dp_prs b)
theorem lay_prs : ∀ ss : List (Int × Int), PyData.canLayAll0 (.none :: ss.map prd) = true := by
  intro ss
  have h : PyData.canLayAll0 (ss.map prd) = true := by
    induction ss with
    | nil => simp [PyData.canLayAll0]
    | cons s r ih => simp [PyData.canLayAll0, PyData.canLay0, prd, ih]
  simp [PyData.canLayAll0, PyData.canLay0, h]
/-- t.index of a pair in (None, pairs) -/
theorem idx_span {K : PySem.W.Frag} {G : Hp} {pt : Addr} {o : Obj} {ss : List (Int × Int)} {ws : List V} {s : Int × Int} {y : V} (h : G pt = some (.frz o (.tup (.non :: ws)))) (hw : RL IsPr ss ws G) (hs : s ∈ ss) (hy : IsPr s y G) : IdxOk K G pt y (ss.idxOf s + 1) := by
  intro S st
  have hj : ss.idxOf s < ss.length := List.idxOf_lt_length_iff.mpr hs
  refine c_indexTD (z := prd s) (d := prd s) (ds := .none :: ss.map prd) st (.tup (.inl (.inr ⟨o, h⟩)) (.cons .non (dp_prs hw))) (dp_pr hy) (lay_prs ss) (by simp [SeqAt.shaped, prd, PyData.canLay0, PyData.canLayAll0, PyData.depth, PyData.depthAll]) ?_ (by rw [prd_eqv]; simp) (fun k z hk hz => ?_)
  · show (ss.map prd)[ss.idxOf s]? = _
    rw [List.getElem?_map, List.getElem?_eq_getElem hj, List.getElem_idxOf hj]
    rfl
  · cases k with
    | zero =>
      cases hz
      simp [PyData.eqv, prd]
    | succ k =>
      have hz' : (ss.map prd)[k]? = some z := hz
      rw [List.getElem?_map, List.getElem?_eq_getElem (by omega)] at hz'
      cases hz'
      rw [prd_eqv, decide_eq_false]
      have hlt : k < ss.idxOf s := by omega
      have h0 := List.not_of_lt_findIdx (p := fun x => x == s) (xs := ss) hlt
      intro e
      rw [e] at h0
      simp at h0
/-- two pairs behind one another, joined -/
def PSpB (C0 : Addr) : List V → Hp → HR → Prop := fun vs G R => ∃ (x dx : Addr) (fs : List (Str × V)) (m : Int) (u v : V) (a b : Int × Int), vs = [.ref x, u, v] ∧ G x = some (.ins C0 dx fs) ∧ fs.lookup ("most" : Str) = some (.int m) ∧ IsPr a u G ∧ IsPr b v G ∧ R = IsPr (scut m a b)
def PSpE : List V → Hp → HR → Prop := fun vs G R => ∃ (x : Addr) (u v : V) (a b : Int × Int), vs = [.ref x, u, v] ∧ IsPr a u G ∧ IsPr b v G ∧ R = IsPr (seit a b)
def PSpI (C0 : Addr) : Addr → List (Str × V) → List V → Hp → OR → Prop := fun C fs rest _ R => C = C0 ∧ fs = [] ∧ ∃ m : Nat, m < 10 ∧ rest = [.int (m : Nat)] ∧ R = fun _ _ fs' G' => ScIs (slabel (m : Nat)) (("never" : Str) :: swords m) 0 1 1 (sth m) (sjn m) fs' G' ∧ (∀ f, f ∉ wnF → f ≠ ("most" : Str) → fs'.lookup f = none)
theorem cword_short : ∀ m : Nat, m < 10 → ∀ i : Nat, i < 11 → (cword (m : Nat) (i : Nat)).length ≤ 4 ∧ ((cword (m : Nat) (i : Nat)) ++ ("to" : Str)).length ≤ 8 := by decide +kernel
theorem slabel_len : ∀ m : Nat, m < 10 → (("(span " : Str) ++ (toString ((m : Nat) : Int) : Str)).length ≤ 100 ∧ (slabel (m : Nat)).length ≤ 100 := by decide +kernel
end L2.DS
/-! Growing lists told thing by thing; loops with free invariants; l.index. -/
namespace L2.DS
open PySem PySem.Spec PyProof.Rows
section
variable {α : Type} {R : α → HR} {S : SR} {n n0 k : Nat} {te : TE} {t : TA} {tb u : TS} {σ : L2.St} {G H G1 H1 J : Hp} {nx bk ct : L2.St → Hp → Prop} {rt : VK} {i j : Nat} {K : PySem.W.Frag} {D p : Addr} {ss : List α} {x : α} {xs : List V}
/-- x = [..], a list that shall grow -/
theorem q_newX (st : Stab S) [∀ a, Mon (R a)] (s : S n G H) (e : EvA S n k t σ G (RL R ss)) (hl : ss.length ≤ 100000)
    (h : ∀ D G1 H1 J, Stp S (n + k) G H G1 H1 → H1 D = none → LcQ S G1 H1 (n + k) D R ss J → u (Ends.mk nx rt bk ct) (σ.set i (some (.ref D))) J) :
    tSeq (tAsg (tLst t) (gName i)) u (Ends.mk nx rt bk ct) σ H := e G H (Same.refl _) s _ fun ws G1 H1 s1 ev => by
  refine ⟨by rw [rl_len ev]; exact Nat.le_trans hl (by decide), fun D hD => ?_⟩
  have gD : G1 D = none := (st.sub s1.s).free hD
  exact h D G1 H1 _ s1 hD ⟨G1, ws, ⟨Same.refl _, kp_new (Kp.refl H1) hD, st.chg s1.s hD s1.s gD, fun _ _ h => .inl h⟩, gD, upd_same, ev⟩
theorem LcQ.sub (st : Stab S) (h : LcQ S G1 H1 n D R ss J) : ∃ G3, Same G1 G3 ∧ S n G3 J := by
  obtain ⟨G3, acc, s3, _⟩ := h
  exact ⟨G3, s3.g, s3.s⟩
/-- the list is done -/
theorem LcQ.pub (st : Stab S) [∀ a, Mon (R a)] (a : S n0 G1 H1) (hn : n0 ≤ n) (hD : H1 D = none) (h : LcQ S G1 H1 n D R ss J) : ∃ G', Stp S n G1 H1 G' J ∧ IsNX G1 (RL R ss) (.ref D) G' :=
  lcq_end (Q := fun v H => ∃ G', Stp S n G1 H1 G' H ∧ IsNX G1 (RL R ss) v G') st (Stp.refl (st.wk a hn)) hD h fun v G' H' s r => ⟨G', s, r⟩
/-- a method of a list -/
theorem ev_bmL {r : V → List V → Hp → VK → Prop} {Rr : HR} {RA : HRs} {ka kb : Nat} {to : TE} (st : Stab S) (h : Ev S n ka to σ G (IsV (.ref p))) (hp : SqL K G p xs) (ha : EvA S (n + ka) kb t σ G RA) (hr : ∀ vs G', Same G G' → RA vs G' → RC S (r (.ref p)) vs G' Rr) : Ev S n (ka + kb) (tBM K "list" r to t) σ G Rr := fun G1 H1 s0 s Q q =>
  h G1 H1 s0 s _ fun v G2 H2 s2 e => by
    obtain rfl : v = .ref p := e
    refine ⟨.inl ⟨rfl, xs, ((s0.trans s2.g).trans (st.sub s2.s)).seq hp⟩, ha G2 H2 (s0.trans s2.g) s2.s _ fun vs G3 H3 s3 e3 => ?_⟩
    exact hr vs G3 ((s0.trans s2.g).trans s3.g) e3 _ G3 H3 (Same.refl _) s3.s Q fun w G4 H4 s4 e4 => q w G4 H4 ((s2.trans s3).trans s4).up e4
theorem c_indexD (st : Stab S) {y : V} {d z : PyData} {ds : List PyData} {j : Nat} (hs : Dp K G (.ref p) (.list ds)) (hx : Dp K G y d) (sl : SeqAt.shaped (.list ds) = true) (sd : SeqAt.shaped d = true) (hz : ds[j]? = some z) (he : PyData.eqv z d = true) (hno : ∀ (m : Nat) (z' : PyData), m < j → ds[m]? = some z' → PyData.eqv z' d = false) :
    RC S (rIndexD K (.ref p)) [y] G (IsV (.int (j : Nat))) := rc_val (fun H s Q q => ⟨p, y, d, ds, j, z, rfl, rfl, dp_mon s hs, dp_mon s hx, sl, sd, hz, he, hno, q⟩) st
end
end L2.DS
/-! Spans as the law tells them: lists, the empty one is never. -/
namespace L2.DS
open PySem PySem.Spec PyProof.Rows
abbrev OS := Option (Int × Int)
def lsv : OS → List V
  | none => [] | some s => [.int s.1, .int s.2]
def IsLs (o : OS) : HR := fun v G => ∃ p, v = .ref p ∧ G p = some (.lst (lsv o))
instance (o) : Mon (IsLs o) := ⟨fun t ⟨p, e, h⟩ => ⟨p, e, t _ _ h⟩⟩
end L2.DS
/-! A scale of any family, made and asked. -/
namespace L2.DS
open PySem PySem.Spec PyProof.Rows
def metF : List Str := ["then_at", "join_at", "within_at", "name_at", "at_name"]
/-- a scale of the class at C stands at x -/
def ScC (C x : Addr) (label : Str) (names : List Str) (nv sl dep : Int) (th jn : Nat → Nat → Int) (G : Hp) : Prop := ∃ dx fs, G x = some (.ins C dx fs) ∧ ScIs label names nv sl dep th jn fs G ∧ ∀ f ∈ metF, fs.lookup f = none
section
variable {C x : Addr} {label : Str} {names : List Str} {nv sl dep : Int} {th jn : Nat → Nat → Int} {G G' : Hp} {K : PySem.W.Frag}
theorem ScC.mono (h : ScC C x label names nv sl dep th jn G) (s : Same G G') : ScC C x label names nv sl dep th jn G' :=
  let ⟨dx, fs, a, b, c⟩ := h
  ⟨dx, fs, s _ _ a, b.mono s, c⟩
theorem ScC.sc (h : ScC C x label names nv sl dep th jn G) (hC : Cls K C) (hN : ∀ f ∈ scF, NoAttr K C f) : ScAt K label names nv sl dep th jn x G :=
  let ⟨dx, fs, a, b, _⟩ := h
  ⟨C, dx, fs, a, hC, hN, b⟩
theorem ScC.of {R : OR} {v : V} (h : IsO C R v G) (i : ∀ a b fs' G', R a b fs' G' → ScIs label names nv sl dep th jn fs' G' ∧ ∀ f ∈ metF, fs'.lookup f = none) : ∃ x, v = .ref x ∧ ScC C x label names nv sl dep th jn G := by
  obtain ⟨x, dx, fs, G', rfl, gx, s, a⟩ := h
  have s' : Same G' G := fun c o e => s c o (by rw [upd_ne (ne_of_none e gx)]; exact e)
  obtain ⟨b, c⟩ := i _ _ _ _ a
  exact ⟨x, rfl, dx, fs, s _ _ upd_same, b.mono s', c⟩
variable {S : SR} {n k ka kb : Nat} {ta tb : TE} {σ : L2.St} {i : Nat} {P : Program} {w : World} {mg : Str → Option Value} {base : Heap}
end
end L2.DS
/-! Loops whose turns leave the heap; comprehensions with tests; readings of several kinds; bits. -/
namespace L2.DS
open PySem PySem.Spec PyProof.Rows
section
variable {α : Type} {R : α → HR} {S : SR} {n n0 k c1 : Nat} {te el : TE} {tt : TT} {t ta : TA} {tb u : TS} {σ : L2.St} {G H G1 H1 J : Hp} {nx bk ct : L2.St → Hp → Prop} {rt : VK} {i j : Nat} {K : PySem.W.Frag} {D p : Addr} {ss : List α} {x : α} {xs : List V} {vs : List Nat} {g : TG}
theorem et_yes : EvT S n 0 tYes σ G (fun c => c = true) := fun G1 H1 _ s Q q => tYes_run (q true G1 H1 (Stp.refl s) rfl)
theorem Stp.go {H' : Hp} (a : Stp S n0 G H G J) (k : Kp S J H') (s : S n G H') : Stp S n G H G H' := ⟨Same.refl _, a.k.trans k, s, fun _ _ h => .inl h⟩
theorem Stp.go0 {H' : Hp} (k : Kp S H H') (s : S n G H') : Stp S n G H G H' := ⟨Same.refl _, k, s, fun _ _ h => .inl h⟩
/-- for x in range(m): the turns change locals alone -/
theorem q_forP {m : Int} (st : Stab S) (s : S n G H) (e : EvA S n k ta σ G (IsVs [.int m])) (h1 : -(2 ^ 62) ≤ m) (h2 : m < 2 ^ 62) (Pv : Nat → L2.St → Prop) (h0 : Pv 0 σ)
    (hs : ∀ (j : Nat) σ' J, (j : Int) < m → Pv j σ' → Stp S (n + k) G H G J → tb (Ends.mk (fun τ J => Pv (j + 1) τ ∧ Stp S (n + k) G H G J) rt (u (Ends.mk nx rt bk ct)) (fun τ J => Pv (j + 1) τ ∧ Stp S (n + k) G H G J)) (σ'.set i (some (.int j))) J)
    (hd : ∀ σ' J, Pv m.toNat σ' → Stp S (n + k) G H G J → u (Ends.mk nx rt bk ct) σ' J) : tSeq (tFor (iRng1 ta) (gName i) tb) u (Ends.mk nx rt bk ct) σ H := by
  refine e G H (Same.refl _) s _ fun v G1 H1 s1 ev => ⟨m, ev, h1, h2, for_range (lo := 0) (n := m.toNat) (fun j τ J => Pv j τ ∧ Stp S (n + k) G H G J) ⟨h0, Stp.go0 s1.k (st.anti s s1.s s1.g)⟩ (fun j τ J hx hp => ?_) fun τ J hp => hd τ J hp.1 hp.2⟩
  show tb _ (τ.set i (some (.int (0 + j)))) J
  rw [Int.zero_add]
  exact hs j τ J (by omega) hp.1 hp.2
/-- for .. in xs, any target: the turns change locals alone -/
theorem q_forPL (st : Stab S) (s : S n G H) (e : Ev S n k te σ G (IsV (.ref p))) (hq : SqL K G p xs) (Pv : Nat → L2.St → Prop) (h0 : Pv 0 σ)
    (hs : ∀ (j : Nat) x σ' J, xs[j]? = some x → Pv j σ' → Stp S (n + k) G H G J → g x σ' J fun σ2 J2 => tb (Ends.mk (fun τ J => Pv (j + 1) τ ∧ Stp S (n + k) G H G J) rt (u (Ends.mk nx rt bk ct)) (fun τ J => Pv (j + 1) τ ∧ Stp S (n + k) G H G J)) σ2 J2)
    (hd : ∀ σ' J, Pv xs.length σ' → Stp S (n + k) G H G J → u (Ends.mk nx rt bk ct) σ' J) : tSeq (tFor (iList K te) g tb) u (Ends.mk nx rt bk ct) σ H := by
  refine e G H (Same.refl _) s _ fun v G1 H1 s1 ev => ?_
  have z := st.anti s s1.s s1.g
  refine ⟨p, ev, ⟨xs, Same.seq (st.sub z) hq⟩, for_list (K := K) (a := p) (xs := xs) (fun j τ J => Pv j τ ∧ Stp S (n + k) G H G J) ⟨h0, Stp.go0 s1.k z⟩ (fun j τ J _ hp => (st.sub hp.2.s).seq hq) (fun j x τ J hx hp => hs j x τ J hx hp.1 hp.2) fun τ J hp => hd τ J hp.1 hp.2⟩
/-- for .. in e, e a list that is made for it: G2 tells what stands behind it -/
theorem q_forPX {RA : HRs} [Mons RA] (st : Stab S) (s : S n G H) (e : Ev S n k te σ G (IsLX RA)) (Pv : Nat → L2.St → Prop) (h0 : Pv 0 σ)
    (hb : ∀ p xs G2 H2, Stp S (n + k) G H G2 H2 → G2 p = some (.lst xs) → RA xs G2 →
    (∀ (j : Nat) x σ' J, xs[j]? = some x → Pv j σ' → Stp S (n + k) G2 H2 G2 J → g x σ' J fun σ2 J2 => tb (Ends.mk (fun τ J => Pv (j + 1) τ ∧ Stp S (n + k) G2 H2 G2 J) rt (u (Ends.mk nx rt bk ct)) (fun τ J => Pv (j + 1) τ ∧ Stp S (n + k) G2 H2 G2 J)) σ2 J2) ∧
    ∀ σ' J, Pv xs.length σ' → Stp S (n + k) G2 H2 G2 J → u (Ends.mk nx rt bk ct) σ' J) : tSeq (tFor (iList K te) g tb) u (Ends.mk nx rt bk ct) σ H := by
  refine e G H (Same.refl _) s _ fun v G1 H1 s1 ev => ?_
  obtain ⟨p, xs, rfl, gp, ra⟩ := ev
  obtain ⟨hs, hd⟩ := hb p xs G1 H1 s1 gp ra
  have hq : SqL K G1 p xs := SqL.of gp
  refine ⟨p, rfl, ⟨xs, Same.seq (st.sub s1.s) hq⟩, for_list (K := K) (a := p) (xs := xs) (fun j τ J => Pv j τ ∧ Stp S (n + k) G1 H1 G1 J) ⟨h0, Stp.refl s1.s⟩ (fun j τ J _ hp => (st.sub hp.2.s).seq hq) (fun j x τ J hx hp => hs j x τ J hx hp.1 hp.2) fun τ J hp => hd τ J hp.1 hp.2⟩
/-- a turn of a comprehension with a test -/
theorem lcq_test (st : Stab S) [∀ a, Mon (R a)] {G2 H2 J : Hp} {D : Addr} {ss : List α} {x : α} {b : Bool} {Nx : Hp → Prop} (a : S n G2 H2) (hD : H2 D = none) (h : LcQ S G2 H2 n D R ss J) (hl : ss.length < 100000)
    (ht : ∀ G', Same G2 G' → EvT S n 0 tt σ G' (fun c => c = b)) (hs : b = true → ∀ G', Same G2 G' → Ev S n 0 el σ G' (R x)) (hN : ∀ J', LcQ S G2 H2 n D R (if b then ss ++ [x] else ss) J' → Nx J') :
    tt σ J fun b H3 => if b = true then el σ H3 fun y H4 => ∃ acc, H4 D = some (.lst acc) ∧ acc.length < sizeLine ∧ Nx (upd H4 D (.lst (acc ++ [y]))) else Nx H3 := by
  obtain ⟨G3, acc, s3, c, d, r⟩ := id h
  refine ht G3 s3.g G3 J (Same.refl _) s3.s _ fun c' G4 H4 s4 e => ?_
  have e : c' = b := e
  subst e
  have h4 : LcQ S G2 H2 n D R ss H4 := lcq_move st a hD s3 c d r s4
  cases c' with
  | true => exact iteT (lcq_step st a hD h4 hl (hs rfl) hN)
  | false => exact iteF (hN _ h4)
theorem filt_step {b : Nat → Bool} {sj : Nat → α} (j : Nat) : ((List.range (j + 1)).filter b).map sj = if b j then ((List.range j).filter b).map sj ++ [sj j] else ((List.range j).filter b).map sj := by
  rw [List.range_succ, List.filter_append, List.map_append]
  by_cases h : b j
  · rw [if_pos h, List.filter_cons_of_pos h]
    rfl
  · rw [if_neg h, List.filter_cons_of_neg h]
    simp
theorem filt_len {b : Nat → Bool} {sj : Nat → α} (j : Nat) : (((List.range j).filter b).map sj).length ≤ j := by
  rw [List.length_map]
  have := List.length_filter_le b (List.range j)
  rw [List.length_range] at this
  exact this
/-- [el for .. in xs if tt], any target -/
theorem ev_lcF (st : Stab S) [∀ a, Mon (R a)] {b : Nat → Bool} {sj : Nat → α} {σf : Nat → L2.St} (e : Ev S n k te σ G (IsV (.ref p))) (hq : SqL K G p xs) (hl : xs.length ≤ 100000)
    (hg : ∀ j x G' J, xs[j]? = some x → Same G G' → Same G' J → ∀ Q : L2.St → Hp → Prop, Q (σf j) J → g x (wipe σ vs) J Q) (hw : ∀ j, wipe (σf j) vs = wipe σ vs)
    (ht : ∀ j x G', xs[j]? = some x → Same G G' → EvT S (n + k) 0 tt (σf j) G' (fun c => c = b j))
    (hs : ∀ j x G', xs[j]? = some x → b j = true → Same G G' → Ev S (n + k) 0 el (σf j) G' (R (sj j))) : Ev S n k (tLc (iList K te) g tt el vs) σ G (IsNX G (RL R (((List.range xs.length).filter b).map sj))) := fun G1 H1 s0 s Q q =>
  e G1 H1 s0 s _ fun v G2 H2 s2 ev => ⟨p, ev, ⟨xs, Same.seq (s0.trans (s2.g.trans (st.sub s2.s))) hq⟩, fun D hD =>
    lc_list (K := K) (a := p) (xs := xs) (fun j J => LcQ S G2 H2 (n + k) D R (((List.range j).filter b).map sj) J) (lcq_start st s2.s hD) (fun j J _ ⟨G3, acc, a, _⟩ => ((s0.trans s2.g).trans (a.g.trans (st.sub a.s))).seq hq)
      (fun j x J hx' h => by
        have hj : j < xs.length := (List.getElem?_eq_some_iff.mp hx').1
        obtain ⟨G3, acc, a, _⟩ := id h
        refine hg j x G3 J hx' ((s0.trans s2.g).trans a.g) (st.sub a.s) _ ⟨hw j, ?_⟩
        have hll := filt_len (b := b) (sj := sj) j
        refine lcq_test (b := b j) (x := sj j) (Nx := fun J => LcQ S G2 H2 (n + k) D R (((List.range (j + 1)).filter b).map sj) J) st s2.s hD h (by omega) (fun G' g' => ht j x G' hx' ((s0.trans s2.g).trans g')) (fun hb G' g' => hs j x G' hx' hb ((s0.trans s2.g).trans g')) fun J' h' => ?_
        rw [filt_step]
        exact h')
      fun J h => by
        refine lcq_end st s2 hD h fun v G' H' s' r => q v G' H' s' ?_
        obtain ⟨p', ys, e1, e2, e3, e4⟩ := r
        exact ⟨p', ys, e1, s0.free e2, e3, e4⟩⟩
/-- [el for x in range(m) if tt] -/
theorem ev_lcFR (st : Stab S) [∀ a, Mon (R a)] {m : Int} {b : Nat → Bool} {sj : Nat → α} {σf : Nat → L2.St} (e : EvA S n k ta σ G (IsVs [.int m])) (h1 : -(2 ^ 62) ≤ m) (hl : m ≤ 100000)
    (hg : ∀ j J, ∀ Q : L2.St → Hp → Prop, Q (σf j) J → g (.int (j : Nat)) (wipe σ vs) J Q) (hw : ∀ j, wipe (σf j) vs = wipe σ vs)
    (ht : ∀ (j : Nat) G', (j : Int) < m → Same G G' → EvT S (n + k) 0 tt (σf j) G' (fun c => c = b j))
    (hs : ∀ (j : Nat) G', (j : Int) < m → b j = true → Same G G' → Ev S (n + k) 0 el (σf j) G' (R (sj j))) : Ev S n k (tLc (iRng1 ta) g tt el vs) σ G (IsNX G (RL R (((List.range m.toNat).filter b).map sj))) := fun G1 H1 s0 s Q q =>
  e G1 H1 s0 s _ fun v G2 H2 s2 ev => ⟨m, ev, h1, by omega, fun D hD =>
    lc_range (lo := 0) (n := m.toNat) (fun j J => LcQ S G2 H2 (n + k) D R (((List.range j).filter b).map sj) J) (lcq_start st s2.s hD)
      (fun j J hx' h => by
        show g (.int (0 + (j : Nat))) _ _ _
        rw [Int.zero_add]
        refine hg j J _ ⟨hw j, ?_⟩
        have hll := filt_len (b := b) (sj := sj) j
        refine lcq_test (b := b j) (x := sj j) (Nx := fun J => LcQ S G2 H2 (n + k) D R (((List.range (j + 1)).filter b).map sj) J) st s2.s hD h (by omega) (fun G' g' => ht j G' (by omega) ((s0.trans s2.g).trans g')) (fun hb G' g' => hs j G' (by omega) hb ((s0.trans s2.g).trans g')) fun J' h' => ?_
        rw [filt_step]
        exact h')
      fun J h => by
        refine lcq_end st s2 hD h fun v G' H' s' r => q v G' H' s' ?_
        obtain ⟨p', ys, e1, e2, e3, e4⟩ := r
        exact ⟨p', ys, e1, s0.free e2, e3, e4⟩⟩
/-- values alone -/
theorem isNX_V {F : Hp} {f : α → V} {v : V} (h : IsNX F (RL (fun a => IsV (f a)) ss) v G) : IsNew F (.lst (ss.map f)) v G := by
  obtain ⟨p, xs, e, a, b, r⟩ := h
  rw [rl_vals r] at b
  exact ⟨p, e, a, b⟩
theorem filt_true {m : Nat} {sj : Nat → α} : ((List.range m).filter fun _ => true).map sj = (List.range m).map sj := by
  rw [List.filter_eq_self.mpr fun _ _ => rfl]
/-- [el for x in range(m)], values -/
theorem ev_lcV (st : Stab S) {m : Int} {f : Nat → V} (e : EvA S n k ta σ G (IsVs [.int m])) (h1 : -(2 ^ 62) ≤ m) (hl : m ≤ 100000) (hw : ∀ x : V, wipe ((wipe σ vs).set i (some x)) vs = wipe σ vs)
    (hs : ∀ (j : Nat) G', (j : Int) < m → Same G G' → Ev S (n + k) 0 el ((wipe σ vs).set i (some (.int j))) G' (IsV (f j))) : Ev S n k (tLc (iRng1 ta) (gName i) tYes el vs) σ G (IsNew G (.lst ((List.range m.toNat).map f))) := by
  refine (ev_lcFR (R := fun v : V => IsV v) (b := fun _ => true) (sj := f) (σf := fun j => (wipe σ vs).set i (some (.int j))) st e h1 hl (fun j J Q q => q) (fun j => hw _) (fun j G' _ _ => et_yes) (fun j G' hj _ s' => hs j G' hj s')).imp fun v G' _ h => ?_
  rw [filt_true] at h
  have z := isNX_V (f := fun v : V => v) h
  rw [List.map_id'] at z
  exact z
/-- [el for x in xs], values -/
theorem ev_lcVL (st : Stab S) {f : V → V} (e : Ev S n k te σ G (IsV (.ref p))) (hq : SqL K G p xs) (hl : xs.length ≤ 100000) (hw : ∀ x : V, wipe ((wipe σ vs).set i (some x)) vs = wipe σ vs)
    (hs : ∀ (j : Nat) x G', xs[j]? = some x → Same G G' → Ev S (n + k) 0 el ((wipe σ vs).set i (some x)) G' (IsV (f x))) : Ev S n k (tLc (iList K te) (gName i) tYes el vs) σ G (IsNew G (.lst (xs.map f))) := by
  refine (ev_lcF (R := fun v : V => IsV v) (b := fun _ => true) (sj := fun j => f (xs.getD j .non)) (σf := fun j => (wipe σ vs).set i (some (xs.getD j .non))) st e hq hl (fun j x G' J hx _ _ Q q => ?_) (fun j => hw _) (fun j x G' _ _ => et_yes) (fun j x G' hx _ s' => ?_)).imp fun v G' _ h => ?_
  · have e : xs.getD j .non = x := by rw [List.getD_eq_getElem?_getD, hx]; rfl
    rw [e] at q
    exact q
  · have e : xs.getD j .non = x := by rw [List.getD_eq_getElem?_getD, hx]; rfl
    rw [e]
    exact hs j x G' hx s'
  · rw [filt_true] at h
    have z := isNX_V (f := fun v : V => v) h
    rw [List.map_id'] at z
    have e : (List.range xs.length).map (fun j => f (xs.getD j .non)) = xs.map f := by
      refine List.ext_getElem? fun j => ?_
      rw [List.getElem?_map, List.getElem?_map]
      by_cases hj : j < xs.length
      · rw [List.getElem?_range hj, List.getElem?_eq_getElem hj]
        show some (f (xs.getD j .non)) = _
        rw [List.getD_eq_getElem?_getD, List.getElem?_eq_getElem hj]
        rfl
      · rw [List.getElem?_eq_none (by rw [List.length_range]; omega), List.getElem?_eq_none (by omega)]
        rfl
    rw [e] at z
    exact z
theorem ev_eq {y z : V} (h : y = z) (e : Ev S n k te σ G (IsV y)) : Ev S n k te σ G (IsV z) := h ▸ e
theorem map_get {β : Type} {f : α → β} {xs : List α} {j : Nat} {y : β} (h : (xs.map f)[j]? = some y) : ∃ hj : j < xs.length, y = f xs[j] := by
  rw [List.getElem?_map] at h
  cases e : xs[j]? with
  | none => rw [e] at h; cases h
  | some x =>
    rw [e] at h
    obtain ⟨hj, hx⟩ := List.getElem?_eq_some_iff.mp e
    exact ⟨hj, by rw [hx]; exact (Option.some.inj h).symm⟩
end
/-! ### readings of one of two kinds -/
def spE (a b : Sp) : Sp := fun vs H Q E => a vs H Q E ∨ b vs H Q E
theorem fnOk_either {P : Program} {w : World} {K : PySem.W.Frag} {mg : Str → Option Value} {base : Heap} {CX : CXT} {k : Nat} {f : Addr} {fd : FuncData} {ps : List Str} {sp1 sp2 : Sp} (F1 : FnOk P w K mg base CX k f fd ps sp1) (F2 : FnOk P w K mg base CX k f fd ps sp2) : FnOk P w K mg base CX k f fd ps (spE sp1 sp2) :=
  ⟨fun vs H Q E q => q.elim (F1.len vs H Q E) (F2.len vs H Q E), fun A outer s H args us vs Q E hr he hb hv q => q.elim (F1.run A outer s H args us vs Q E hr he hb hv) (F2.run A outer s H args us vs Q E hr he hb hv)⟩
/-! ### bits -/
section
variable {S : SR} {n k : Nat} {te ta : TE} {σ : L2.St} {K : PySem.W.Frag} {G : Hp} {i j : Int}
theorem v_shl (st : Stab S) (h : CPow i j) : RV S (rI CPow fun i j => .int (i * 2 ^ j.toNat)) (.int i) (.int j) G (IsV (.int (i * 2 ^ j.toNat))) := rv_I st h
theorem v_shr (st : Stab S) (h : 0 ≤ j) : RV S (rI (fun _ j => 0 ≤ j) fun i j => .int (i / 2 ^ j.toNat)) (.int i) (.int j) G (IsV (.int (i / 2 ^ j.toNat))) := rv_I st h
theorem v_band (st : Stab S) : RV S (rI0 fun i j => .int (Builtin.bitAnd i j)) (.int i) (.int j) G (IsV (.int (Builtin.bitAnd i j))) := rv_I0 st
theorem v_bor (st : Stab S) : RV S (rI0 fun i j => .int (Builtin.bitOr i j)) (.int i) (.int j) G (IsV (.int (Builtin.bitOr i j))) := rv_I0 st
end
section
variable {S : SR} {K : PySem.W.Frag} {G : Hp} {p : Addr} {ns : List Int}
theorem c_sum (st : Stab S) (h : SqL K G p (ns.map V.int)) : RC S (rSum K) [.ref p] G (IsV (.int ns.sum)) := rc_val (fun H s Q q => ⟨p, ns, rfl, s.seq h, q⟩) st
end
/-! ### str.join -/
def rJoinK (K : PySem.W.Frag) : V → List V → Hp → VK → Prop := fun x xs H Q => ∃ a p, ∃ ys : List Str, x = .str a ∧ xs = [.ref p] ∧ (SqL K H p (ys.map V.str) ∨ SqT K H p (ys.map V.str)) ∧ (ys.map (·.length)).sum + ys.length * a.length ≤ 16777216 ∧ Q (.str (Txt.join a ys)) H
theorem pe_joinK {X : Cx} (K : PySem.W.Frag) {o e : Expr} {to te : TE} {apos pos : Pos} (ho : PE X o to) (he : PE X e te) (hs : starEach [e] X.env = [(false, eval e X.env)] := by rfl) (hbase : attributeBase o "join" X.env (eval o X.env) = eval o X.env := by rfl) (hline : (apos.endLine == pos.line) = true := by rfl) (hK : X.K = K := by rfl) :
    PE X (.Call (.Attribute o "join" apos) [e] [] pos) (tM1 (rJoinK K) to te) := by
  subst hK
  exact pe_join ho he hs hbase hline
section
variable {S : SR} {n k ka kb : Nat} {to te : TE} {σ : L2.St} {K : PySem.W.Frag} {G : Hp} {a : Str} {ys : List Str}
theorem ev_join (st : Stab S) (ho : Ev S n ka to σ G (IsV (.str a))) (he : Ev S (n + ka) kb te σ G (IsL K (ys.map V.str))) (hl : (ys.map (·.length)).sum + ys.length * a.length ≤ 16777216) : Ev S n (ka + kb) (tM1 (rJoinK K) to te) σ G (IsV (.str (Txt.join a ys))) := fun G1 H1 s0 s Q q =>
  ho G1 H1 s0 s _ fun v G2 H2 s2 e => ⟨⟨a, e⟩, he G2 H2 (s0.trans s2.g) s2.s _ fun w G3 H3 s3 ⟨p, e', hp⟩ => by
    obtain rfl : v = _ := e
    subst e'
    exact ⟨a, p, ys, rfl, rfl, .inl ((st.sub s3.s).seq hp), hl, q _ G3 H3 (s2.trans s3).up rfl⟩⟩
end
/-- a scale of the class at C -/
def IsSc (C : Addr) (label : Str) (names : List Str) (nv sl dep : Int) (th jn : Nat → Nat → Int) : HR := fun v G => ∃ x, v = .ref x ∧ ScC C x label names nv sl dep th jn G
instance (C label names nv sl dep th jn) : Mon (IsSc C label names nv sl dep th jn) := ⟨fun s ⟨x, e, h⟩ => ⟨x, e, h.mono s⟩⟩
end L2.DS
/-! Scales of sets and of relations; bits as the law tells them. -/
namespace L2.DS
open PySem PySem.Spec PyProof.Rows
/-- digits_of(number, width) -/
def digs : Nat → Int → Str
  | 0, _ => ("" : Str)
  | w + 1, n => (toString (Builtin.bitAnd (n / 2 ^ w) 1) : Str) ++ digs w n
theorem bit1 (x : Int) (h : 0 ≤ x) : Builtin.bitAnd x 1 = x % 2 := by
  unfold Builtin.bitAnd
  rw [decide_eq_true h]
  show ((x.toNat &&& 1 : Nat) : Int) = _
  rw [Nat.and_one_is_mod]
  omega
theorem bit1_log (x : Int) (h : 0 ≤ x) : (Builtin.bitAnd x 1).natAbs.log2 < 1920 := by
  rw [bit1 x h]
  have : x % 2 = 0 ∨ x % 2 = 1 := by omega
  rcases this with e | e <;> rw [e] <;> decide +kernel
theorem digs_len : ∀ (w : Nat) (n : Int), 0 ≤ n → (digs w n).length = w
  | 0, _, _ => rfl
  | w + 1, n, h => by
    unfold digs
    have h2 : 0 ≤ n / 2 ^ w := Int.ediv_nonneg h (Int.pow_nonneg (by decide))
    rw [bit1 _ h2]
    rw [Str.length_append, digs_len w n h]
    have : (n / 2 ^ w) % 2 = 0 ∨ (n / 2 ^ w) % 2 = 1 := by omega
    have l0 : (toString (0 : Int) : Str).length = 1 := by decide +kernel
    have l1 : (toString (1 : Int) : Str).length = 1 := by decide +kernel
    rcases this with e | e <;> rw [e]
    · rw [l0]; omega
    · rw [l1]; omega
def joinS (may : Bool) : Str := if may then "may" else "must"
/-- scales of sets -/
def tth (a b : Nat) : Int := if a = 0 ∨ b = 0 then 0 else Builtin.bitOr ((a : Int) - 1) ((b : Int) - 1) + 1
def teit (may : Bool) (x y : Int) : Int := if may then Builtin.bitOr x y else Builtin.bitAnd x y
def tjn (may : Bool) (a b : Nat) : Int := if a = 0 ∨ b = 0 then (a : Int) + b else teit may ((a : Int) - 1) ((b : Int) - 1) + 1
def twords (c : Nat) : List Str := (List.range (2 ^ c)).map fun i => digs c (i : Nat)
def tlabel (c : Int) (may : Bool) : Str := (((("(set " : Str) ++ (toString c : Str)) ++ (" " : Str)) ++ joinS may) ++ (")" : Str)
theorem twords_nodup : ∀ c, c < 6 → (("never" : Str) :: twords c).Nodup := by decide +kernel
theorem tlabel_len : ∀ c : Nat, c < 6 → ∀ may, (("(set " : Str) ++ (toString ((c : Nat) : Int) : Str)).length ≤ 100 ∧ ((("(set " : Str) ++ (toString ((c : Nat) : Int) : Str)) ++ (" " : Str)).length ≤ 100 ∧ (((("(set " : Str) ++ (toString ((c : Nat) : Int) : Str)) ++ (" " : Str)) ++ joinS may).length ≤ 100 ∧ (tlabel (c : Nat) may).length ≤ 100 := by decide +kernel
theorem bor_lt : ∀ c, c < 6 → ∀ x, x < 2 ^ c → ∀ y, y < 2 ^ c → 0 ≤ Builtin.bitOr (x : Nat) (y : Nat) ∧ Builtin.bitOr (x : Nat) (y : Nat) < 2 ^ c := by decide +kernel
theorem band_lt : ∀ c, c < 6 → ∀ x, x < 2 ^ c → ∀ y, y < 2 ^ c → 0 ≤ Builtin.bitAnd (x : Nat) (y : Nat) ∧ Builtin.bitAnd (x : Nat) (y : Nat) < 2 ^ c := by decide +kernel
/-- two contents behind one another, joined -/
def PStB : List V → Hp → HR → Prop := fun vs _ R => ∃ (x : Addr) (i j : Int), vs = [.ref x, .int i, .int j] ∧ R = IsV (.int (Builtin.bitOr i j))
def PStE (C0 : Addr) : List V → Hp → HR → Prop := fun vs G R => ∃ (x dx : Addr) (fs : List (Str × V)) (may : Bool) (i j : Int), vs = [.ref x, .int i, .int j] ∧ G x = some (.ins C0 dx fs) ∧ fs.lookup ("loose" : Str) = some (.bl may) ∧ R = IsV (.int (teit may i j))
def PStI (C0 : Addr) : Addr → List (Str × V) → List V → Hp → OR → Prop := fun C fs rest _ R => C = C0 ∧ fs = [] ∧ ∃ (c : Nat) (may : Bool), 1 ≤ c ∧ c < 6 ∧ rest = [.int (c : Nat), .str (joinS may)] ∧ R = fun _ _ fs' G' => ScIs (tlabel (c : Nat) may) (("never" : Str) :: twords c) 0 1 1 tth (tjn may) fs' G' ∧ (∀ f, f ∉ wnF → f ≠ ("loose" : Str) → fs'.lookup f = none)
/-! scales of relations -/
def arr (s : Nat) (p : Int) : List (Int × Int) := ((List.range (s * s)).filter fun c => decide (Builtin.bitAnd (p / 2 ^ (((s : Int) * s - 1 - (c : Nat)).toNat)) 1 = 1)).map fun c => (((c : Nat) : Int) / (s : Nat), ((c : Nat) : Int) % (s : Nat))
def wput (s : Nat) (f : Int) (p q : Int × Int) : Int := if p.2 = q.1 then Builtin.bitOr f (1 * 2 ^ (((s : Int) * s - 1 - p.1 * s - q.2).toNat)) else f
def wth (s a b : Nat) : Int := (arr s a).foldl (fun f p => (arr s b).foldl (fun f q => wput s f p q) f) 0
def wjn (a b : Nat) : Int := Builtin.bitOr (a : Nat) (b : Nat)
def wwords (s : Nat) : List Str := (List.range (2 ^ (s * s))).map fun i => digs (s * s) (i : Nat)
def wstill (s : Nat) : Int := ((List.range s).map fun k => (1 * 2 ^ (((s : Int) * s - 1 - (k : Nat) * ((s : Int) + 1)).toNat) : Int)).sum
def wlabel (s : Int) : Str := (("(watch " : Str) ++ (toString s : Str)) ++ (")" : Str)
theorem wwords_nodup : ∀ s, s < 3 → (wwords s).Nodup := by decide +kernel
theorem wlabel_len : ∀ s : Nat, s < 3 → (("(watch " : Str) ++ (toString ((s : Nat) : Int) : Str)).length ≤ 100 ∧ (wlabel (s : Nat)).length ≤ 100 := by decide +kernel
theorem arr_bd : ∀ s, s < 3 → ∀ p, p < 16 → ∀ q ∈ arr s (p : Nat), 0 ≤ q.1 ∧ q.1 < s ∧ 0 ≤ q.2 ∧ q.2 < s := by decide +kernel
/-! the law's own bits -/
def PDig : List V → Hp → HR → Prop := fun vs _ R => ∃ (n : Int) (w : Nat), vs = [.int n, .int (w : Nat)] ∧ 0 ≤ n ∧ w ≤ 100 ∧ R = IsV (.str (digs w n))
def PArr (C0 : Addr) : List V → Hp → HR → Prop := fun vs G R => ∃ (x dx : Addr) (fs : List (Str × V)) (s p : Nat), vs = [.ref x, .int (p : Nat)] ∧ G x = some (.ins C0 dx fs) ∧ fs.lookup ("states" : Str) = some (.int (s : Nat)) ∧ (s = 1 ∨ s = 2) ∧ R = IsLX (RL IsPr (arr s (p : Nat)))
def PWt (C0 : Addr) : List V → Hp → HR → Prop := fun vs G R => ∃ (x dx : Addr) (fs : List (Str × V)) (s a b : Nat), vs = [.ref x, .int (a : Nat), .int (b : Nat)] ∧ G x = some (.ins C0 dx fs) ∧ fs.lookup ("states" : Str) = some (.int (s : Nat)) ∧ fs.lookup ("arrows" : Str) = none ∧ (s = 1 ∨ s = 2) ∧ a < 16 ∧ b < 16 ∧ R = IsV (.int (wth s a b))
def PWj : List V → Hp → HR → Prop := fun vs G R => ∃ (x : Addr) (a b : Nat), vs = [.ref x, .int (a : Nat), .int (b : Nat)] ∧ R = IsV (.int (wjn a b))
def PWtI (C0 : Addr) : Addr → List (Str × V) → List V → Hp → OR → Prop := fun C fs rest _ R => C = C0 ∧ fs = [] ∧ ∃ s : Nat, (s = 1 ∨ s = 2) ∧ rest = [.int (s : Nat)] ∧ R = fun _ _ fs' G' => ScIs (wlabel (s : Nat)) (wwords s) 0 (wstill s) 1 (wth s) wjn fs' G' ∧ (∀ f, f ∉ scF → f ≠ ("states" : Str) → fs'.lookup f = none)
end L2.DS
/-! Tables: texts sign by sign, all and any, dicts of places; lists that are changed behind what stands. -/
namespace L2.DS
open PySem PySem.Spec PyProof.Rows
/-! ### texts -/
theorem lc_str {x : Str} {g : TG} {tt : TT} {te : TE} {vs : List Nat} {σ : L2.St} {H1 : Hp} {D : Addr} {Qd : Hp → Prop} (Pv : Nat → Hp → Prop) (h0 : Pv 0 (upd H1 D (.lst [])))
    (hs : ∀ (i : Nat) c H, x.cps[i]? = some c → Pv i H → g (.str ⟨#[c]⟩) (wipe σ vs) H fun σ2 H2 => wipe σ2 vs = wipe σ vs ∧ tt σ2 H2 fun b H3 =>
      if b = true then te σ2 H3 fun y H4 => ∃ acc, H4 D = some (.lst acc) ∧ acc.length < sizeLine ∧ Pv (i + 1) (upd H4 D (.lst (acc ++ [y]))) else Pv (i + 1) H3) (hd : ∀ H, Pv x.cps.size H → Qd H) :
    ∃ W : Nat → Nat → Hp → Prop, (∃ m, W 0 m (upd H1 D (.lst []))) ∧ ∀ i m H, W i m H →
      ((Its x).stop i H ∧ Qd H) ∨ ((Its x).go i H ∧ ∃ Nx : Hp → Prop, (∀ H', Nx H' → ∃ m', m' < m ∧ W (i + 1) m' H') ∧ ∀ v H', (Its x).yld i H v H' → g v (wipe σ vs) H' fun σ2 H2 => wipe σ2 vs = wipe σ vs ∧ tt σ2 H2 fun b H3 =>
        if b = true then te σ2 H3 fun y H4 => ∃ acc, H4 D = some (.lst acc) ∧ acc.length < sizeLine ∧ Nx (upd H4 D (.lst (acc ++ [y]))) else Nx H3) := by
  refine ⟨fun i m H => m = x.cps.size - i ∧ i ≤ x.cps.size ∧ Pv i H, ⟨x.cps.size, by simp, Nat.zero_le _, h0⟩, ?_⟩
  rintro i m H ⟨rfl, hi, p⟩
  by_cases hlt : i < x.cps.size
  · refine .inr ⟨hlt, Pv (i + 1), fun H' p' => ⟨x.cps.size - (i + 1), by omega, rfl, hlt, p'⟩, fun v H' y => ?_⟩
    obtain ⟨rfl, c, hc, rfl⟩ := y
    exact hs i c _ hc p
  · have e : i = x.cps.size := by omega
    subst e
    exact .inl ⟨Nat.le_refl _, hd H p⟩
section
variable {S : SR} {n k ka kb : Nat} {te el ta : TE} {t : TA} {σ : L2.St} {G : Hp} {K : PySem.W.Frag} {i j : Nat} {z : Str} {vs : List Nat} {p : Addr} {xs : List V}
/-- [el for c in z], values -/
theorem ev_lcS (st : Stab S) {f : Nat → V} (e : Ev S n k te σ G (IsV (.str z))) (hl : z.length ≤ 100000) (hw : ∀ x : V, wipe ((wipe σ vs).set i (some x)) vs = wipe σ vs)
    (hs : ∀ c G', c ∈ z.cps.toList → Same G G' → Ev S (n + k) 0 el ((wipe σ vs).set i (some (.str ⟨#[c]⟩))) G' (IsV (f c))) : Ev S n k (tLc (iStr te) (gName i) tYes el vs) σ G (IsNew G (.lst (z.cps.toList.map f))) := fun G1 H1 s0 s Q q =>
  e G1 H1 s0 s _ fun v G2 H2 s2 ev => ⟨z, ev, fun D hD =>
    lc_str (x := z) (fun j J => LcQ S G2 H2 (n + k) D (fun v : V => IsV v) ((z.cps.toList.take j).map f) J) (lcq_start st s2.s hD)
      (fun j c J hc h => by
        have hj : j < z.cps.size := (Array.getElem?_eq_some_iff.mp hc).1
        have hcl : z.cps.toList[j]? = some c := by rw [Array.getElem?_toList]; exact hc
        refine ⟨hw _, tYes_run (iteT ?_)⟩
        refine lcq_step (x := f c) (Nx := fun J => LcQ S G2 H2 (n + k) D (fun v : V => IsV v) ((z.cps.toList.take (j + 1)).map f) J) st s2.s hD h (by rw [List.length_map, List.length_take]; have : z.cps.toList.length = z.length := rfl; have : z.cps.size = z.length := rfl; omega) (fun G' g' => hs c G' (List.mem_of_getElem? hcl) ((s0.trans s2.g).trans g')) fun J' h' => ?_
        rw [List.take_succ, hcl, List.map_append]
        exact h')
      fun J h => by
        rw [show z.cps.size = z.cps.toList.length from rfl, List.take_length] at h
        refine lcq_end st s2 hD h fun v G' H' s' r => q v G' H' s' ?_
        obtain ⟨p', ys, e1, e2, e3, e4⟩ := r
        rw [rl_vals (g := fun v : V => v) e4, List.map_id'] at e3
        exact ⟨p', e1, s0.free e2, e3⟩⟩
theorem v_inS (st : Stab S) {y : Str} : RV S (fun x y H Q => ∃ i j, x = .str i ∧ y = .str j ∧ Q (.bl (!(Builtin.Str.occurrences j i 0 j.length 1).isEmpty)) H) (.str y) (.str z) G (IsV (.bl (!(Builtin.Str.occurrences z y 0 z.length 1).isEmpty))) := rv_val (fun H _ Q q => ⟨y, z, rfl, rfl, q⟩) st
theorem c_all (st : Stab S) {bs : List Bool} (h : SqL K G p (bs.map V.bl)) : RC S (rAll K) [.ref p] G (IsV (.bl (bs.all id))) := rc_val (fun H s Q q => ⟨p, bs, rfl, s.seq h, q⟩) st
theorem c_any (st : Stab S) {bs : List Bool} (h : SqL K G p (bs.map V.bl)) : RC S (rAny K) [.ref p] G (IsV (.bl (bs.any id))) := rc_val (fun H s Q q => ⟨p, bs, rfl, s.seq h, q⟩) st
theorem c_lenD (st : Stab S) {kvs : List (Key × V)} (h : G p = some (.dK kvs)) : RC S (rLenA K) [.ref p] G (IsV (.int kvs.length)) := rc_val (fun H s Q q => .inr (.inr ⟨p, kvs, rfl, s _ _ h, q⟩)) st
theorem v_inD (st : Stab S) {neg : Bool} {kvs : List (Key × V)} {key : Key} (h : G p = some (.dK kvs)) : RV S (rInA K neg) (kV key) (.ref p) G (IsV (.bl (if neg then !(valV kvs key).isSome else (valV kvs key).isSome))) := rv_r (rv_val (fun H s Q q => ⟨p, _, rfl, DGet.k (s _ _ h), q⟩) st)
end
section
variable {S : SR} {n k : Nat} {te : TE} {tb u : TS} {σ : L2.St} {G H : Hp} {nx bk ct : L2.St → Hp → Prop} {rt : VK} {K : PySem.W.Frag} {g : TG}
/-- for .. in e, e a list that is made for it, any invariant -/
theorem q_forIX {RA : HRs} [Mons RA] (st : Stab S) (s : S n G H) (e : Ev S n k te σ G (IsLX RA)) (Pv : Addr → Nat → L2.St → Hp → Prop)
    (hb : ∀ p xs G2 H2, Stp S (n + k) G H G2 H2 → G2 p = some (.lst xs) → RA xs G2 → (∀ j τ J, Pv p j τ J → SqL K J p xs) ∧ Pv p 0 σ H2 ∧
    (∀ (j : Nat) x σ' J, xs[j]? = some x → Pv p j σ' J → g x σ' J fun σ2 J2 => tb (Ends.mk (fun τ J => Pv p (j + 1) τ J) rt (u (Ends.mk nx rt bk ct)) (fun τ J => Pv p (j + 1) τ J)) σ2 J2) ∧
    ∀ σ' J, Pv p xs.length σ' J → u (Ends.mk nx rt bk ct) σ' J) : tSeq (tFor (iList K te) g tb) u (Ends.mk nx rt bk ct) σ H := by
  refine e G H (Same.refl _) s _ fun v G1 H1 s1 ev => ?_
  obtain ⟨p, xs, rfl, gp, ra⟩ := ev
  obtain ⟨hh, h0, hs, hd⟩ := hb p xs G1 H1 s1 gp ra
  exact ⟨p, rfl, ⟨xs, hh _ _ _ h0⟩, for_list (K := K) (a := p) (xs := xs) (fun j τ J => Pv p j τ J) h0 (fun j τ J _ hp => hh _ _ _ hp) (fun j x τ J hx hp => hs j x τ J hx hp) fun τ J hp => hd τ J hp⟩
end
/-! ### name = {..} on one line -/
section
variable {X : Cx} {i : Nat} {yn : Str} {yp cp sp0 : Pos} {ek ev eg ei : Expr} {fs : List Expr} {sc : Scope} {own : List (Str × Nat)} {wi : TI} {g : TG} {tt : TT} {tk tv : TE}
theorem sw_dc {l : Nat} {env : Env} {gs : List Comprehension} (h1 : env.scope.kind = .function) (h2 : env.scope.names.lookup yn = some .local) (h3 : (yp.line == cp.line) = true)
    (h4 : (sc.names.any fun (n, k) => n == yn && (k == .local || k == .cell)) = false) : swapsWith (.DictComp ek ev gs sc cp) (some (.Name yn yp)) l env = pure true := by
  have a1 : env.kindOf yn = some .local := h2
  have a2 : env.blockKind = .function := by unfold Env.blockKind; rw [h1]; rfl
  unfold swapsWith
  simp only [a2, a1, h4, Expr.pos, h3]
  rfl
theorem ps_setDc (cm : X.calm = true) (nd : X.N.Nodup) (hy : X.N[i]? = some yn) (hl : X.env.scope.names.lookup yn = some .local) (sw : swapsWith (.DictComp ek ev [⟨eg, ei, fs, 0⟩] sc cp) (some (.Name yn yp)) sp0.line X.env = pure true) (hi : PI X eg ei wi) (ok : BlkOk X.N X.env.scope sc own)
    (hg : ∀ (u : Shared) (J : Hp) (C : Addr) (cl : List (Str × Addr)) (fp : List Addr), PG (X.blk u J sc (compEnvC sc cl C X.env) fp) eg g) (ht : ∀ (u : Shared) (J : Hp) (C : Addr) (cl : List (Str × Addr)) (fp : List Addr), PTs (X.blk u J sc (compEnvC sc cl C X.env) fp) fs tt)
    (hk : ∀ (u : Shared) (J : Hp) (C : Addr) (cl : List (Str × Addr)) (fp : List Addr), PE (X.blk u J sc (compEnvC sc cl C X.env) fp) ek tk) (hv : ∀ (u : Shared) (J : Hp) (C : Addr) (cl : List (Str × Addr)) (fp : List Addr), PE (X.blk u J sc (compEnvC sc cl C X.env) fp) ev tv)
    (hs : ∀ x, foldedSetIterable ei X.env x = pure x := by intro _; rfl) : PS X (.Assign [.Name yn yp] (.DictComp ek ev [⟨eg, ei, fs, 0⟩] sc cp) sp0) (tAsg (tDc wi g tt tk tv (own.map (·.2))) (gName i)) := by
  constructor
  intro qs u σ J Ed I h
  have h : tDc wi g tt tk tv (own.map (·.2)) σ J (fun x J1 => gName i x σ J1 Ed.nx) := h
  rw [exec_Assign_Name_used _ _ _ _ sw]
  refine wpAny_bind (wpAny_standAt (wpAny_bind ?_))
  refine wpAny_bind (thn (dc_core (use := some (assign (.Name yn yp) X.env)) (Qf := fun _ z => SP X qs Ed .next z) cm nd I hi ok hg ht hk hv hs h fun L C z m J' I' q hn f => ?_) fun _ z hq => wpAny_pure (wpAny_pure hq))
  refine wpAny_assign_Name (store_ok2 (v := V.ref L) I' nd hy (.inl hl) rfl (fun z2 I2 ⟨a, sb, ha⟩ => ?_) (.inr hl))
  obtain ⟨f0, f1, f2, f3, f4, f5⟩ := f
  have ne : C ≠ a := ha.elim (fun z => by rw [z]; exact f1) fun z e => f4 yn a z e.symm
  exact ⟨m, hn.sameBut sb ne, fun z3 sb3 => ⟨_, J', I2.turned (t' := z2.toks) (fun b o hb e => (sb3.2 b hb).trans e) f0 f1 f3 f4 f5, q⟩⟩
end
section
variable {α : Type} {R : α → HR} {S : SR} {n n0 k : Nat} {t : TA} {u : TS} {σ : L2.St} {G1 H1 J : Hp} {nx bk ct : L2.St → Hp → Prop} {rt : VK} {j : Nat} {K : PySem.W.Frag} {D : Addr} {ss : List α} {x : α}
/-- p.append(x): all else stays -/
theorem q_appX2 (st : Stab S) [∀ a, Mon (R a)] (a : S n0 G1 H1) (hD : H1 D = none) (h : LcQ S G1 H1 n D R ss J) (hl : ss.length < 100000) (hv : σ[j]? = some (some (.ref D))) (e : ∀ G', Same G1 G' → EvA S n k t σ G' (RL R [x]))
    (hN : ∀ J', LcQ S G1 H1 (n + k) D R (ss ++ [x]) J' → (∀ b o, ¬ S.m b → b ≠ D → J b = some o → J' b = some o) → u (Ends.mk nx rt bk ct) σ J') : tSeq (tDrop (tBM K "list" rAppend (tVar j) t)) u (Ends.mk nx rt bk ct) σ J := by
  obtain ⟨G3, acc, s3, c, d, r⟩ := h
  refine ⟨_, hv, .inl ⟨rfl, _, SqL.of d⟩, e G3 s3.g G3 J (Same.refl _) s3.s _ fun ws G4 H4 s4 ev => ?_⟩
  obtain ⟨y, _, rfl, ry, rn⟩ := ev
  obtain rfl := (show _ = [] from rn)
  have d4 : H4 D = some (.lst acc) := s4.k.k D _ (st.fre a hD) d
  have c4 : G4 D = none := by
    cases e : G4 D with
    | none => rfl
    | some o =>
      rcases s4.n D o e with q | q
      · rw [c] at q
        cases q
      · rw [d] at q
        cases q
  have t := s3.trans s4
  have la := rl_len r
  exact ⟨D, acc, y, rfl, rfl, d4, Nat.lt_of_lt_of_le (show acc.length < 100000 by omega) (by decide), hN _ ⟨G4, acc ++ [y], ⟨t.g, kp_new t.k hD, st.chg a hD t.s c4, t.n⟩, c4, upd_same, rl_app (rl_mon s4.g r) ⟨y, [], rfl, ry, rfl⟩⟩ fun b o hb ne e => by
    rw [upd_ne ne]
    exact s4.k.k b o hb e⟩
theorem LcQ.step2 (st : Stab S) [∀ a, Mon (R a)] (a : S n0 G1 H1) (hD : H1 D = none) (h : LcQ S G1 H1 n D R ss J) : ∃ G3, Same G1 G3 ∧ S n G3 J ∧ ∀ {m G4 H4}, Stp S m G3 J G4 H4 → LcQ S G1 H1 m D R ss H4 ∧ G4 D = none := by
  obtain ⟨G3, acc, s3, c, d, r⟩ := h
  refine ⟨G3, s3.g, s3.s, fun {m G4 H4} s4 => ?_⟩
  have c4 : G4 D = none := by
    cases e : G4 D with
    | none => rfl
    | some o =>
      rcases s4.n D o e with q | q
      · rw [c] at q
        cases q
      · rw [d] at q
        cases q
  exact ⟨⟨G4, acc, s3.trans s4, c4, s4.k.k D _ (st.fre a hD) d, rl_mon s4.g r⟩, c4⟩
end
/-! ### all that stands but some lists -/
noncomputable def cut (G : Hp) (X : Addr → Prop) : Hp := fun b => open Classical in if X b then none else G b
theorem cut_out {G : Hp} {X : Addr → Prop} {b : Addr} (h : ¬ X b) : cut G X b = G b := if_neg h
def LstX (G : Hp) (X : Addr → Prop) : Prop := ∀ b, X b → ∃ xs, G b = some (.lst xs)
theorem LstX.keep {G : Hp} {X : Addr → Prop} (h : LstX G X) {b : Addr} {o : HO} (e : G b = some o) (n : ∀ xs, o ≠ .lst xs) : cut G X b = some o := by
  rw [cut_out]
  · exact e
  · intro z
    obtain ⟨xs, hx⟩ := h b z
    rw [hx] at e
    exact n xs (Option.some.inj e).symm
/-! ### statements that change a list -/
end L2.DS
/-! Scales of tables: what the tables tell. -/
namespace L2.DS
open PySem PySem.Spec PyProof.Rows
def signsL : Str := "abcdefghijklmnopqrstuvwxyz0123456789"
def sgn (c : Nat) : Bool := !(Builtin.Str.occurrences signsL ⟨#[c]⟩ 0 signsL.length 1).isEmpty
def okNm (nm : Str) : Bool := (decide ((1 : Int) ≤ nm.length) && decide ((nm.length : Int) ≤ 12)) && (nm.cps.toList.map sgn).all id
theorem okNm_len {nm : Str} (h : okNm nm = true) : 1 ≤ nm.length ∧ nm.length ≤ 12 := by
  unfold okNm at h
  rw [Bool.and_eq_true, Bool.and_eq_true] at h
  have h1 := of_decide_eq_true h.1.1
  have h2 := of_decide_eq_true h.1.2
  omega
def joinR (rows : List (List Str)) : Str := Txt.join (" " : Str) (rows.map fun r => Txt.join (" " : Str) r)
def tbLab (names : List Str) (never still : Str) (joins products : List (List Str)) : Str :=
  ("(table (" : Str) ++ Txt.join (" " : Str) names ++ (") " : Str) ++ (never ++ (" " : Str) ++ still) ++ (" (" : Str) ++ joinR joins ++ (") (" : Str) ++ joinR products ++ ("))" : Str)
structure TbOk (names : List Str) (joins products : List (List Str)) (never still : Str) : Prop where
  l1 : 1 ≤ names.length
  l2 : names.length ≤ 16
  nd : names.Nodup
  ok : ∀ nm ∈ names, okNm nm = true
  nv : never ∈ names
  sl : still ∈ names
  jl : joins.length = names.length
  jr : ∀ r ∈ joins, r.length = names.length ∧ ∀ e ∈ r, e ∈ names
  pl : products.length = names.length
  pr : ∀ r ∈ products, r.length = names.length ∧ ∀ e ∈ r, e ∈ names
def idxT (names : List Str) (rows : List (List Str)) (a b : Nat) : Int := ((names.idxOf ((rows.getD a []).getD b ("" : Str)) : Nat) : Int)
/-- a list of texts, of places -/
def IsSR (row : List Str) : HR := fun v G => ∃ p, v = .ref p ∧ G p = some (.lst (row.map V.str))
instance (row) : Mon (IsSR row) := ⟨fun s ⟨p, e, h⟩ => ⟨p, e, s _ _ h⟩⟩
def IsIR (names row : List Str) : HR := fun v G => ∃ p, v = .ref p ∧ G p = some (.lst (row.map fun e => V.int (names.idxOf e : Nat)))
instance (names row) : Mon (IsIR names row) := ⟨fun s ⟨p, e, h⟩ => ⟨p, e, s _ _ h⟩⟩
def TabS (G : Hp) (p : Addr) (rows : List (List Str)) : Prop := ∃ vs, G p = some (.lst vs) ∧ RL IsSR rows vs G
theorem TabS.mono {G G' : Hp} {p : Addr} {rows : List (List Str)} (h : TabS G p rows) (s : Same G G') : TabS G' p rows := let ⟨vs, a, b⟩ := h; ⟨vs, s _ _ a, rl_mon s b⟩
def TabI (names : List Str) (G : Hp) (p : Addr) (rows : List (List Str)) : Prop := ∃ vs, G p = some (.lst vs) ∧ RL (IsIR names) rows vs G
theorem TabI.mono {names : List Str} {G G' : Hp} {p : Addr} {rows : List (List Str)} (h : TabI names G p rows) (s : Same G G') : TabI names G' p rows := let ⟨vs, a, b⟩ := h; ⟨vs, s _ _ a, rl_mon s b⟩
theorem idx_get {names : List Str} {e : Str} (h : e ∈ names) : names[names.idxOf e]? = some e := by
  have hj : names.idxOf e < names.length := List.idxOf_lt_length_iff.mpr h
  rw [List.getElem?_eq_getElem hj, List.getElem_idxOf hj]
/-! lengths -/
theorem join_len (ys : List Str) (L : Nat) (h : ∀ y ∈ ys, y.length ≤ L) : (ys.map (·.length)).sum + ys.length * 1 ≤ ys.length * (L + 1) ∧ (Txt.join (" " : Str) ys).length ≤ ys.length * (L + 1) := by
  have h1 : (ys.map (·.length)).sum + ys.length * 1 ≤ ys.length * (L + 1) := by
    induction ys with
    | nil => simp
    | cons y r ih =>
      have := ih fun z hz => h z (List.mem_cons_of_mem _ hz)
      have hy := h y List.mem_cons_self
      simp only [List.map_cons, List.sum_cons, List.length_cons, Nat.succ_mul]
      omega
  refine ⟨h1, ?_⟩
  have h2 := StrLaws.join_length_le (" " : Str) ys
  have e : (" " : Str).length = 1 := by decide +kernel
  rw [e] at h2
  show (Builtin.Str.glued (" " : Str) ys).length ≤ _
  rw [StrLaws.glued_eq_join]
  omega
theorem rows_len {names : List Str} {rows : List (List Str)} (hn : ∀ nm ∈ names, okNm nm = true) (h2 : names.length ≤ 16) (hl : rows.length = names.length) (hr : ∀ r ∈ rows, r.length = names.length ∧ ∀ e ∈ r, e ∈ names) : ∀ r ∈ rows, (r.map (·.length)).sum + r.length * 1 ≤ 208 ∧ (Txt.join (" " : Str) r).length ≤ 208 := by
  intro r hr'
  obtain ⟨a, b⟩ := hr r hr'
  have j := join_len r 12 fun y hy => (okNm_len (hn y (b y hy))).2
  omega
theorem joinR_len {names : List Str} {rows : List (List Str)} (hn : ∀ nm ∈ names, okNm nm = true) (h2 : names.length ≤ 16) (hl : rows.length = names.length) (hr : ∀ r ∈ rows, r.length = names.length ∧ ∀ e ∈ r, e ∈ names) :
    ((rows.map fun r => Txt.join (" " : Str) r).map (·.length)).sum + (rows.map fun r => Txt.join (" " : Str) r).length * 1 ≤ 16777216 ∧ (joinR rows).length ≤ 3344 := by
  have j := join_len (rows.map fun r => Txt.join (" " : Str) r) 208 fun y hy => by
    obtain ⟨r, hr', rfl⟩ := List.mem_map.mp hy
    exact (rows_len hn h2 hl hr r hr').2
  rw [List.length_map] at j ⊢
  unfold joinR
  omega
theorem names_join {names : List Str} (hn : ∀ nm ∈ names, okNm nm = true) (h2 : names.length ≤ 16) : (names.map (·.length)).sum + names.length * 1 ≤ 16777216 ∧ (Txt.join (" " : Str) names).length ≤ 208 := by
  have j := join_len names 12 fun y hy => (okNm_len (hn y hy)).2
  omega
/-! promises -/
def PIsN : List V → Hp → HR → Prop := fun vs _ R => ∃ nm : Str, vs = [.str nm] ∧ nm.length ≤ 1000 ∧ R = IsV (.bl (okNm nm))
def PTp : List V → Hp → HR → Prop := fun vs G R => ∃ (pd pt : Addr) (names : List Str) (rows : List (List Str)), vs = [.ref pd, .ref pt] ∧ G pd = some (.dK (plc names 0)) ∧ names.Nodup ∧ names.length ≤ 100 ∧ TabS G pt rows ∧ rows.length = names.length ∧ (∀ r ∈ rows, r.length = names.length ∧ ∀ e ∈ r, e ∈ names) ∧
  R = fun v G' => ∃ p, v = .ref p ∧ TabI names G' p rows
def PTbM (C0 : Addr) (fld : Str) : List V → Hp → HR → Prop := fun vs G R => ∃ (x dx p : Addr) (fs : List (Str × V)) (names : List Str) (rows : List (List Str)) (a b : Nat), vs = [.ref x, .int (a : Nat), .int (b : Nat)] ∧ G x = some (.ins C0 dx fs) ∧ fs.lookup fld = some (.ref p) ∧ TabI names G p rows ∧ a < rows.length ∧ (∀ r ∈ rows, b < r.length) ∧ R = IsV (.int (idxT names rows a b))
def tbF : List Str := ["written_joins", "written_products"]
def PTbI (C0 : Addr) : Addr → List (Str × V) → List V → Hp → OR → Prop := fun C fs rest G R => C = C0 ∧ fs = [] ∧ ∃ (pn pj pp : Addr) (names : List Str) (joins products : List (List Str)) (never still : Str),
  rest = [.ref pn, .ref pj, .ref pp, .str never, .str still] ∧ G pn = some (.lst (names.map V.str)) ∧ TabS G pj joins ∧ TabS G pp products ∧ TbOk names joins products never still ∧
  R = fun _ _ fs' G' => ScIs (tbLab names never still joins products) names (names.idxOf never : Nat) (names.idxOf still : Nat) 1 (idxT names products) (idxT names joins) fs' G' ∧ (∀ f, f ∉ scF → f ∉ tbF → fs'.lookup f = none)
end L2.DS
/-! The laws' own tables: drawn names, their places, data of tables. -/
namespace L2.DS
open PySem PySem.Spec PyProof.Rows
/-! names that are drawn -/
/-- a row of names -/
def IsRw (names : List Str) : HR := fun v G => ∃ row : List Str, IsSR row v G ∧ row.length = names.length ∧ ∀ e ∈ row, e ∈ names
instance (names) : Mon (IsRw names) := ⟨fun s ⟨row, a, b⟩ => ⟨row, Mon.mon s a, b⟩⟩
/-- rows newly made -/
def IsSRn (F : Hp) (row : List Str) : HR := IsNew F (.lst (row.map V.str))
instance (F row) : Mon (IsSRn F row) := inferInstanceAs (Mon (IsNew _ _))
/-! tables as data -/
end L2.DS
/-! Scales of any of some classes; defs with a star parameter; pairs of ranges. -/
namespace L2.DS
open PySem PySem.Spec PyProof.Rows
/-- o.m(..), o of one of some classes -/
def tMethA (Cs : List Addr) (m : Str) (sp : Sp) (dvs : List V) (E : XK) (ta : TE) (t : TA) : TE := fun σ H Q => ∃ C ∈ Cs, tMeth C m sp dvs E ta t σ H Q
section
variable {X : Cx} {CX : CXT} {k : Nat} {ps : List Str} {dvs : List V} {sp : Sp} {E : XK} {x m : Str} {Cs : List Addr} {e o : Expr} {es : List Expr} {t : TA} {ta : TE} {p pos apos : Pos}
theorem pe_methA {pl : Sem Bool} (c : ∀ C ∈ Cs, Method X.prog X.w X.K X.mg X.base C m CX k ps dvs sp) (hr : Room k X.A) (hx : Passes CX X E) (ho : PE X o ta) (ha : PA X (e :: es) t)
    (hst : starEach (e :: es) X.env = (false, eval e X.env) :: starEach es X.env := by rfl) (hpl : (backTo pos (starEach es X.env)).any (·.1) = false := by rfl)
    (ht : eval (.Call (.Attribute o m apos) (e :: es) [] pos) X.env = (do
      let ov ← eval o X.env
      standAt apos.atName
      let (f, first) ← holding [ov] (getMethod ov m pl)
      callWith pos f first (backTo pos (starEach (e :: es) X.env)) (backToKw pos (keywordEach [] X.env))) := by rfl) :
    PE X (.Call (.Attribute o m apos) (e :: es) [] pos) (tMethA Cs m sp dvs E ta t) :=
  ⟨fun pins s σ H Q I ⟨C, hC, q⟩ => (pe_methC (c C hC) hr hx ho ha hst hpl ht).run pins s σ H Q I q⟩
/-- a def of the top with a star parameter, by its name -/
def CalleeR (P : Program) (w : World) (K : PySem.W.Frag) (mg : Str → Option Value) (base : Heap) (x : Str) (CX : CXT) (k : Nat) (sp : Sp) : Prop :=
  ∃ f : Addr, mg x = some (.ref f) ∧ PySem.W.keepIn K (.ref f) = true ∧ FnR P w K mg base CX k f sp
theorem pe_callRC (c : CalleeR X.prog X.w X.K X.mg X.base x CX k sp) (hr : Room k X.A) (hx : Passes CX X E) (ha : PA X (e :: es) t) (hg : Gl X x := by rfl) (hdb : (x == ("__debug__" : Str)) = false := by decide)
    (he : starEach (e :: es) X.env = (false, eval e X.env) :: starEach es X.env := by rfl) (hpl : (backTo pos (starEach es X.env)).any (·.1) = false := by rfl) : PE X (.Call (.Name x p) (e :: es) [] pos) (tCall sp [] E t) := by
  obtain ⟨f, hm, hk, F⟩ := c
  constructor
  intro pn u τ J Qv I h
  refine wpAny_Call_Name_kw (ld_glob I hg hm (PySem.W.callWith_K (h₀ := X.base) I.ok.mod.kin hk (thn (ha.run pos pn u τ J _ I h) fun us u1 ⟨vs, J1, I1, r, z⟩ => ⟨I1.kIn, ?_⟩) he hpl) hdb)
  have z : sp (vs ++ []) J1 Qv E := z
  rw [List.append_nil] at z
  exact wpAny_call (run_fnR F hr hx I1 r z)
end
/-! ### scales -/
structure SD where
  label : Str
  names : List Str
  nv : Int
  sl : Int
  dep : Int
  th : Nat → Nat → Int
  jn : Nat → Nat → Int
structure ClsOk (K : PySem.W.Frag) (C : Addr) : Prop where
  c : Cls K C
  n : ∀ f ∈ scF, NoAttr K C f
def ScD (K : PySem.W.Frag) (Cs : List Addr) (d : SD) (x : Addr) (G : Hp) : Prop := ∃ C ∈ Cs, ClsOk K C ∧ ScC C x d.label d.names d.nv d.sl d.dep d.th d.jn G
theorem ScD.mono {K : PySem.W.Frag} {Cs : List Addr} {d : SD} {x : Addr} {G G' : Hp} (h : ScD K Cs d x G) (s : Same G G') : ScD K Cs d x G' := let ⟨C, a, b, c⟩ := h; ⟨C, a, b, c.mono s⟩
def IsScD (K : PySem.W.Frag) (Cs : List Addr) (d : SD) : HR := fun v G => ∃ x, v = .ref x ∧ ScD K Cs d x G
instance (K Cs d) : Mon (IsScD K Cs d) := ⟨fun s ⟨x, e, h⟩ => ⟨x, e, h.mono s⟩⟩
section
variable {S : SR} {n k ka kb : Nat} {te ta tb : TE} {t : TA} {σ : L2.St} {G : Hp} {K : PySem.W.Frag} {Cs : List Addr} {d : SD} {x : Addr} {E : XK}
theorem ev_sF (st : Stab S) (h : ScD K Cs d x G) (e : Ev S n k te σ G (IsV (.ref x))) :
    Ev S n k (tFld K te "size") σ G (IsV (.int (d.names.length : Nat))) ∧ Ev S n k (tFld K te "never_at") σ G (IsV (.int d.nv)) ∧ Ev S n k (tFld K te "still_at") σ G (IsV (.int d.sl)) ∧ Ev S n k (tFld K te "label") σ G (IsV (.str d.label)) ∧ Ev S n k (tFld K te "depth") σ G (IsV (.int d.dep)) := by
  obtain ⟨C, _, hk, dx, fs, hx, hI, _⟩ := h
  exact ⟨ev_fld st e hx hk.c (hk.n _ (by decide)) hI.siz, ev_fld st e hx hk.c (hk.n _ (by decide)) hI.nev, ev_fld st e hx hk.c (hk.n _ (by decide)) hI.sti, ev_fld st e hx hk.c (hk.n _ (by decide)) hI.lab, ev_fld st e hx hk.c (hk.n _ (by decide)) hI.dep⟩
/-- then_at, join_at, within_at -/
theorem ev_sAt (st : Stab S) {m : Str} {pk : (Nat → Nat → Int) → (Nat → Nat → Int) → Nat → Nat → V} {a b : Nat} (h : ScD K Cs d x G) (hm : m ∈ metF) (e : Ev S n k te σ G (IsV (.ref x))) (ea : EvA S (n + k) ka t σ G (IsVs [.int (a : Nat), .int (b : Nat)])) (ha : a < d.names.length) (hb : b < d.names.length) :
    Ev S n (k + ka) (tMethA Cs m (spP (PAt K pk)) [] E te t) σ G (IsV (pk d.th d.jn a b)) := by
  obtain ⟨C, hC, hk, hs⟩ := h
  have hsc := hs.sc hk.c hk.n
  obtain ⟨dx, fs, hx, hI, hoff⟩ := hs
  have z := ev_meth (S := S) (n := n) (E := E) (R := IsV (pk d.th d.jn a b)) (P := PAt K pk) (dvs := []) st e hx (hoff _ hm) ea fun vs G9 s9 ev => by
    obtain rfl := (show vs = _ from ev)
    exact ⟨_, _, _, _, _, _, _, x, a, b, rfl, hsc.mono s9, ha, hb, rfl⟩
  exact fun G1 H1 s0 s Q q => ⟨C, hC, z G1 H1 s0 s Q q⟩
theorem ev_sNm (st : Stab S) {a : Nat} {nm : Str} (h : ScD K Cs d x G) (e : Ev S n k te σ G (IsV (.ref x))) (ea : EvA S (n + k) ka t σ G (IsVs [.int (a : Nat)])) (ha : d.names[a]? = some nm) : Ev S n (k + ka) (tMethA Cs "name_at" (spP (PName K)) [] E te t) σ G (IsV (.str nm)) := by
  obtain ⟨C, hC, hk, hs⟩ := h
  have hsc := hs.sc hk.c hk.n
  obtain ⟨dx, fs, hx, hI, hoff⟩ := hs
  have z := ev_meth (S := S) (n := n) (E := E) (R := IsV (.str nm)) (P := PName K) (dvs := []) st e hx (hoff "name_at" (by decide)) ea fun vs G9 s9 ev => by
    obtain rfl := (show vs = _ from ev)
    exact ⟨_, _, _, _, _, _, _, x, a, nm, rfl, hsc.mono s9, ha, rfl⟩
  exact fun G1 H1 s0 s Q q => ⟨C, hC, z G1 H1 s0 s Q q⟩
end
/-! ### a, b = f(..) -/
section
variable {S : SR} {n k : Nat} {te : TE} {u : TS} {σ : L2.St} {G H : Hp} {nx bk ct : L2.St → Hp → Prop} {rt : VK} {i j : Nat} {K : PySem.W.Frag} {x y : V}
theorem q_asg2 (st : Stab S) (s : S n G H) (e : Ev S n k te σ G (fun v G' => ∃ p, v = .ref p ∧ G' p = some (.tup [x, y]))) (h : ∀ G' H', Stp S (n + k) G H G' H' → u (Ends.mk nx rt bk ct) ((σ.set i (some x)).set j (some y)) H') : tSeq (tAsg te (gTup K 2 (gCons (gName i) (gCons (gName j) gNil)))) u (Ends.mk nx rt bk ct) σ H :=
  e G H (Same.refl _) s _ fun v G' H' s1 r => by
    obtain ⟨p, rfl, g⟩ := r
    exact ⟨p, _, rfl, SqT.of (st.sub s1.s _ _ g), rfl, _, _, rfl, _, _, rfl, rfl, h G' H' s1⟩
end
/-! ### [el for i in range(m) for j in range(c)] -/
section
variable {α : Type} {R : α → HR} {S : SR} {n k : Nat} {el : TE} {σ : L2.St} {G : Hp} {K : PySem.W.Frag}
theorem ev_lc2R1 (st : Stab S) [∀ a, Mon (R a)] {ta tb : TA} {i j : Nat} {vs vs1 : List Nat} {m c : Nat} {f : Nat → Nat → α} {σa : Nat → L2.St} {σb : Nat → Nat → L2.St} (e : EvA S n k ta σ G (IsVs [.int (m : Nat)])) (hm : m ≤ 300) (hc : c ≤ 300)
    (ea : ∀ a, (wipe σ vs).set i (some (.int (a : Nat))) = σa a) (eb : ∀ a b, (wipe (σa a) vs1).set j (some (.int (b : Nat))) = σb a b) (hw : ∀ a, wipe (σa a) vs = wipe σ vs) (hw1 : ∀ a b, wipe (σb a b) vs1 = wipe (σa a) vs1)
    (hi1 : ∀ a G', a < m → Same G G' → EvA S (n + k) 0 tb (σa a) G' (IsVs [.int (c : Nat)])) (hs : ∀ (a b : Nat) G', a < m → b < c → Same G G' → Ev S (n + k) 0 el (σb a b) G' (R (f a b))) :
    Ev S n k (tLc2 (iRng1 ta) (gName i) tYes (iRng1 tb) (gName j) tYes el vs vs1) σ G (IsNX G (RL R ((List.range m).flatMap fun a => (List.range c).map fun t => f a t))) := fun G1 H1 s0 s Q q => by
  refine e G1 H1 s0 s _ fun v G2 H2 s2 ev => ⟨(m : Nat), ev, by omega, by omega, fun D hD => ?_⟩
  have row : ∀ a, ((List.range c).map fun t => f a t).length = c := fun a => by rw [List.length_map, List.length_range]
  have tot : ∀ t, ((List.range t).flatMap fun a => (List.range c).map fun t => f a t).length ≤ 300 * t := by
    intro t
    induction t with
    | zero => exact Nat.le_refl 0
    | succ t ih =>
      rw [List.range_succ, List.flatMap_append, List.length_append, List.flatMap_cons, List.flatMap_nil, List.append_nil, row]
      omega
  refine ⟨fun t mm J => mm = m - t ∧ t ≤ m ∧ LcQ S G2 H2 (n + k) D R ((List.range t).flatMap fun a => (List.range c).map fun t => f a t) J, ⟨m, by omega, by omega, lcq_start st s2.s hD⟩, ?_⟩
  rintro t mm J ⟨rfl, ht, h⟩
  by_cases hlt : t < m
  · refine .inr ⟨show t < ((m : Nat) : Int).toNat by omega, fun J' => LcQ S G2 H2 (n + k) D R ((List.range (t + 1)).flatMap fun a => (List.range c).map fun t => f a t) J', fun J' h' => ⟨m - (t + 1), by omega, rfl, hlt, h'⟩, ?_⟩
    rintro x J' ⟨rfl, rfl⟩
    show wipe ((wipe σ vs).set i (some (.int (0 + (t : Nat))))) vs = _ ∧ tYes ((wipe σ vs).set i (some (.int (0 + (t : Nat))))) J' _
    rw [Int.zero_add, ea t]
    refine ⟨hw t, tYes_run (iteT ?_)⟩
    obtain ⟨G3, acc, a3, c3, d3, r3⟩ := id h
    refine hi1 t G3 hlt ((s0.trans s2.g).trans a3.g) G3 _ (Same.refl _) a3.s _ fun v4 G4 H4 s4 e4 => ?_
    refine ⟨(c : Nat), e4, by omega, by omega, ?_⟩
    have hmv := lcq_move (n := n + k) st s2.s hD a3 c3 d3 r3 s4
    have tt := tot t
    have esp : ((List.range (t + 1)).flatMap fun a => (List.range c).map fun t => f a t) = ((List.range t).flatMap fun a => (List.range c).map fun t => f a t) ++ (List.range c).map fun u => f t u := by
      rw [List.range_succ, List.flatMap_append, List.flatMap_cons, List.flatMap_nil, List.append_nil]
    rw [esp]
    generalize ((List.range t).flatMap fun a => (List.range c).map fun t => f a t) = sp at hmv tt
    refine ⟨fun u kk J' => kk = c - u ∧ u ≤ c ∧ LcQ S G2 H2 (n + k) D R (sp ++ (List.range u).map fun u => f t u) J', ⟨c, by omega, by omega, by simpa using hmv⟩, ?_⟩
    rintro u kk J' ⟨rfl, hu, h'⟩
    by_cases hlu : u < c
    · refine .inr ⟨show u < ((c : Nat) : Int).toNat by omega, fun J'' => LcQ S G2 H2 (n + k) D R (sp ++ (List.range (u + 1)).map fun u => f t u) J'', fun J'' h'' => ⟨c - (u + 1), by omega, rfl, hlu, h''⟩, ?_⟩
      rintro x J'' ⟨rfl, rfl⟩
      show wipe ((wipe (σa t) vs1).set j (some (.int (0 + (u : Nat))))) vs1 = _ ∧ tYes ((wipe (σa t) vs1).set j (some (.int (0 + (u : Nat))))) J'' _
      rw [Int.zero_add, eb]
      refine ⟨hw1 t _, tYes_run (iteT ?_)⟩
      refine lcq_step (x := f t u) (Nx := fun J'' => LcQ S G2 H2 (n + k) D R (sp ++ (List.range (u + 1)).map fun u => f t u) J'') st s2.s hD h' (by rw [List.length_append, List.length_map, List.length_range]; omega) (fun G' g' => hs t u G' hlt hlu ((s0.trans s2.g).trans g')) fun J3 h3 => ?_
      rw [List.range_succ, List.map_append, ← List.append_assoc]
      exact h3
    · have e : u = c := by omega
      refine .inl ⟨show ((c : Nat) : Int).toNat ≤ u by omega, ?_⟩
      rw [e] at h'
      exact h'
  · have e : m = t := by omega
    subst e
    refine .inl ⟨show ((m : Nat) : Int).toNat ≤ m by omega, ?_⟩
    exact lcq_end st s2 hD h fun v G' H' a ⟨p, xs, e, f, r⟩ => q v G' H' a ⟨p, xs, e, s0.free f, r⟩
end
/-! ### defs with a star parameter -/
theorem okStar {P : Program} {w : World} {K : PySem.W.Frag} {mg : Str → Option Value} {base : Heap} {x qual : Str} {stm : Stmt} {f : Addr} {fd : FuncData} {N ps : List Str} {pv : Str} {k : Nat} {sp0 : Sp} (F : Fun K x qual stm f fd) (S : FnScope N (ps ++ [pv]) (defScope stm))
    (hb : ∀ (kV doc pm : Value) (an : Option Addr) (cdv ct : Value) (us rest : List Value), us.length = ps.length → bindArgs (PySem.W.fnOf x qual (defArgs stm) (defBody stm) (defScope stm) .none kV doc pm an cdv ct) ⟨us ++ rest, []⟩ = (newTuple rest >>= fun t => pure (ps.zip us ++ [(pv, t)])))
    (hbody : ∀ (cdv : Value) (A : Around) (outer : List Env) (s : Shared) (H : Hp) (vs : List V) (Q : VK) (E : XK), Room k (A.deeper (envOfC qual (defScope stm) s.heap.objs.size f cdv)) → sp0 vs H Q E →
      ∃ t, PSs (cxOf CX0 P w K mg base N qual (defScope stm) f cdv A outer s H E).nox (defBody stm) t ∧ t { nx := fun _ H' => Q .non H', rt := Q } (start N vs) H) :
    FnR P w K mg base CX0 (k + 1) f (fun vs H Q E => ∃ ws rest, vs = ws ++ rest ∧ ws.length = ps.length ∧ rest.length ≤ sizeLine ∧ ∀ p, H p = none → sp0 (ws ++ [V.ref p]) (upd H p (.tup rest)) Q E) := by
  obtain ⟨oc, od, kV, doc, pm, an, cdv, ct, osl, rfl, lk, hcd⟩ := F.ex
  refine StX.fn_star lk hcd S StX.cxUp_none (hb kV doc pm an cdv ct) fun A outer s H vs Q E hr hsp => ?_
  obtain ⟨t, h, q⟩ := hbody cdv A outer s H vs Q E hr hsp
  exact ⟨t, h.nox, q⟩
section
variable {S : SR} {n k : Nat} {te : TE} {tb u : TS} {σ : L2.St} {G H : Hp} {nx bk ct : L2.St → Hp → Prop} {rt : VK} {K : PySem.W.Frag} {g : TG} {p : Addr} {xs : List V}
/-- for .. in a tuple: the turns change locals alone -/
theorem q_forPT (st : Stab S) (s : S n G H) (e : Ev S n k te σ G (IsV (.ref p))) (hq : SqT K G p xs) (Pv : Nat → L2.St → Prop) (h0 : Pv 0 σ)
    (hs : ∀ (j : Nat) x σ' J, xs[j]? = some x → Pv j σ' → Stp S (n + k) G H G J → g x σ' J fun σ2 J2 => tb (Ends.mk (fun τ J => Pv (j + 1) τ ∧ Stp S (n + k) G H G J) rt (u (Ends.mk nx rt bk ct)) (fun τ J => Pv (j + 1) τ ∧ Stp S (n + k) G H G J)) σ2 J2)
    (hd : ∀ σ' J, Pv xs.length σ' → Stp S (n + k) G H G J → u (Ends.mk nx rt bk ct) σ' J) : tSeq (tFor (iTup K te) g tb) u (Ends.mk nx rt bk ct) σ H := by
  refine e G H (Same.refl _) s _ fun v G1 H1 s1 ev => ?_
  have z := st.anti s s1.s s1.g
  refine ⟨p, ev, ⟨xs, same_t (st.sub z) hq⟩, for_tup (K := K) (a := p) (xs := xs) (fun j τ J => Pv j τ ∧ Stp S (n + k) G H G J) ⟨h0, Stp.go0 s1.k z⟩ (fun j τ J _ hp => same_t (st.sub hp.2.s) hq) (fun j x τ J hx hp => hs j x τ J hx hp.1 hp.2) fun τ J hp => hd τ J hp.1 hp.2⟩
end
end L2.DS
/-! Scales of pairs, turned scales. -/
namespace L2.DS
open PySem PySem.Spec PyProof.Rows
/-- the depth above some scales -/
def depL (ds : List SD) : Int := ds.foldl (fun m d => if d.dep ≥ m then d.dep + 1 else m) 1
def pairNames (d1 d2 : SD) : List Str := (List.range d1.names.length).flatMap fun a => (List.range d2.names.length).map fun b => ("<" : Str) ++ d1.names.getD a ("" : Str) ++ ("/" : Str) ++ d2.names.getD b ("" : Str) ++ (">" : Str)
def pairSD (d1 d2 : SD) : SD where
  label := ("(pair " : Str) ++ d1.label ++ (" " : Str) ++ d2.label ++ (")" : Str)
  names := pairNames d1 d2
  nv := d1.nv * d2.names.length + d2.nv
  sl := d1.sl * d2.names.length + d2.sl
  dep := depL [d1, d2]
  th := fun a b => d1.th (a / d2.names.length) (b / d2.names.length) * d2.names.length + d2.th (a % d2.names.length) (b % d2.names.length)
  jn := fun a b => d1.jn (a / d2.names.length) (b / d2.names.length) * d2.names.length + d2.jn (a % d2.names.length) (b % d2.names.length)
def turnSD (d : SD) : SD where
  label := ("(turned " : Str) ++ d.label ++ (")" : Str)
  names := d.names
  nv := d.nv
  sl := d.sl
  dep := depL [d]
  th := fun a b => d.th b a
  jn := d.jn
/-- what is known of a scale beside what it holds -/
structure SdOk (d : SD) : Prop where
  nd : d.names.Nodup
  l1 : 1 ≤ d.names.length
  l2 : d.names.length ≤ 64
  sh : ∀ nm ∈ d.names, nm.length ≤ 100000
  ll : d.label.length ≤ 1000000
  nv : 0 ≤ d.nv ∧ d.nv < d.names.length
  sl : 0 ≤ d.sl ∧ d.sl < d.names.length
  th : ∀ a b, a < d.names.length → b < d.names.length → 0 ≤ d.th a b ∧ d.th a b < d.names.length
  jn : ∀ a b, a < d.names.length → b < d.names.length → 0 ≤ d.jn a b ∧ d.jn a b < d.names.length
theorem flat_len {α : Type} (f : Nat → Nat → α) (c : Nat) : ∀ m, ((List.range m).flatMap fun a => (List.range c).map fun b => f a b).length = m * c := by
  intro m
  induction m with
  | zero => simp
  | succ m ih => rw [List.range_succ, List.flatMap_append, List.length_append, ih, List.flatMap_cons, List.flatMap_nil, List.append_nil, List.length_map, List.length_range, Nat.succ_mul]
theorem flat_get {α : Type} (f : Nat → Nat → α) (c : Nat) : ∀ m a b, a < m → b < c → ((List.range m).flatMap fun a => (List.range c).map fun b => f a b)[a * c + b]? = some (f a b) := by
  intro m
  induction m with
  | zero => intro a b h; omega
  | succ m ih =>
    intro a b ha hb
    rw [List.range_succ, List.flatMap_append, List.flatMap_cons, List.flatMap_nil, List.append_nil]
    have hl := flat_len f c m
    by_cases h : a < m
    · have : a * c + b < m * c := by
        have : (a + 1) * c ≤ m * c := Nat.mul_le_mul_right c (by omega)
        rw [Nat.succ_mul] at this
        omega
      rw [List.getElem?_append_left (by rw [hl]; exact this)]
      exact ih a b h hb
    · have e : a = m := by omega
      subst e
      rw [List.getElem?_append_right (by rw [hl]; omega), hl, Nat.add_sub_cancel_left, List.getElem?_map, List.getElem?_range hb]
      rfl
theorem pairNames_len (d1 d2 : SD) : (pairNames d1 d2).length = d1.names.length * d2.names.length := flat_len _ _ _
theorem getD_names {d : SD} {a : Nat} (h : a < d.names.length) : d.names[a]? = some (d.names.getD a ("" : Str)) := by
  rw [List.getD_eq_getElem?_getD, List.getElem?_eq_getElem h]
  rfl
theorem getD_mem {d : SD} {a : Nat} (h : a < d.names.length) : d.names.getD a ("" : Str) ∈ d.names := List.mem_of_getElem? (getD_names h)
/-- the pairs of places -/
def pairsL (n1 n2 : Nat) : List (Int × Int) := (List.range n1).flatMap fun a => (List.range n2).map fun b => (((a : Nat) : Int), ((b : Nat) : Int))
theorem pairs_idx {n1 n2 a b : Nat} (ha : a < n1) (hb : b < n2) : (pairsL n1 n2).idxOf (((a : Nat) : Int), ((b : Nat) : Int)) = a * n2 + b := by
  have hg : (pairsL n1 n2)[a * n2 + b]? = some (((a : Nat) : Int), ((b : Nat) : Int)) := flat_get _ _ _ _ _ ha hb
  obtain ⟨hlt, hge⟩ := List.getElem?_eq_some_iff.mp hg
  have hl : (pairsL n1 n2).length = n1 * n2 := flat_len _ _ _
  have nd : (pairsL n1 n2).Nodup := by
    unfold List.Nodup
    rw [List.pairwise_iff_getElem]
    intro i j hi hj hij e
    have key : ∀ k (hk : k < (pairsL n1 n2).length), (pairsL n1 n2)[k] = (((k / n2 : Nat) : Int), ((k % n2 : Nat) : Int)) := fun k hk => by
      have hk' : k < n1 * n2 := by omega
      have hn2 : 0 < n2 := by omega
      have h1 : k / n2 < n1 := Nat.div_lt_of_lt_mul (by rw [Nat.mul_comm]; exact hk')
      have h2 : k % n2 < n2 := Nat.mod_lt _ hn2
      have hg2 := flat_get (fun a b => (((a : Nat) : Int), ((b : Nat) : Int))) n2 n1 (k / n2) (k % n2) h1 h2
      have e2 : k / n2 * n2 + k % n2 = k := by rw [Nat.mul_comm]; exact Nat.div_add_mod k n2
      rw [e2] at hg2
      exact (List.getElem?_eq_some_iff.mp hg2).2
    rw [key i hi, key j hj] at e
    have e1 : i / n2 = j / n2 := by exact_mod_cast (Prod.mk.inj e).1
    have e2 : i % n2 = j % n2 := by exact_mod_cast (Prod.mk.inj e).2
    have a1 := Nat.div_add_mod i n2
    have a2 := Nat.div_add_mod j n2
    rw [e1, e2] at a1
    omega
  rw [← hge, nd.idxOf_getElem _ hlt]
/-! promises -/
def PDep (K : PySem.W.Frag) (Cs : List Addr) : List V → Hp → HR → Prop := fun vs G R => ∃ (size : Int) (p : Addr) (xs : List V) (ds : List SD), vs = [.int size, .ref p] ∧ G p = some (.tup xs) ∧ RL (IsScD K Cs) ds xs G ∧ size ≤ 64 ∧ depL ds ≤ 10 ∧ R = IsV (.int (depL ds))
def PDepC (K : PySem.W.Frag) (Cs : List Addr) : List V → Hp → HR → Prop := fun vs G R => ∃ (size : Int) (xs : List V) (ds : List SD), vs = .int size :: xs ∧ xs.length ≤ 100 ∧ RL (IsScD K Cs) ds xs G ∧ size ≤ 64 ∧ depL ds ≤ 10 ∧ R = IsV (.int (depL ds))
def PHalf : List V → Hp → HR → Prop := fun vs G R => ∃ (a n : Nat), vs = [.int (a : Nat), .int (n : Nat)] ∧ 0 < n ∧ n < 1000 ∧ R = fun v G' => ∃ p, v = .ref p ∧ G' p = some (.tup [.int ((a / n : Nat)), .int ((a % n : Nat))])
/-- make_then, make_join of a pair -/
def PPrM (K : PySem.W.Frag) (Cs : List Addr) (C0 : Addr) (pk : SD → Nat → Nat → Int) : List V → Hp → HR → Prop := fun vs G R => ∃ (x dx l r : Addr) (fs : List (Str × V)) (d1 d2 : SD) (a b : Nat), vs = [.ref x, .int (a : Nat), .int (b : Nat)] ∧ G x = some (.ins C0 dx fs) ∧ fs.lookup ("left" : Str) = some (.ref l) ∧ fs.lookup ("right" : Str) = some (.ref r) ∧
  ScD K Cs d1 l G ∧ ScD K Cs d2 r G ∧ SdOk d1 ∧ SdOk d2 ∧ a < d1.names.length * d2.names.length ∧ b < d1.names.length * d2.names.length ∧ R = IsV (.int (pk (pairSD d1 d2) a b))
def PTuM (K : PySem.W.Frag) (Cs : List Addr) (C0 : Addr) (pk : SD → Nat → Nat → Int) : List V → Hp → HR → Prop := fun vs G R => ∃ (x dx l : Addr) (fs : List (Str × V)) (d : SD) (a b : Nat), vs = [.ref x, .int (a : Nat), .int (b : Nat)] ∧ G x = some (.ins C0 dx fs) ∧ fs.lookup ("inner" : Str) = some (.ref l) ∧
  ScD K Cs d l G ∧ a < d.names.length ∧ b < d.names.length ∧ R = IsV (.int (pk (turnSD d) a b))
def ScI (d : SD) (fs : List (Str × V)) (G : Hp) : Prop := ScIs d.label d.names d.nv d.sl d.dep d.th d.jn fs G
def PPrI (K : PySem.W.Frag) (Cs : List Addr) (C0 : Addr) : Addr → List (Str × V) → List V → Hp → OR → Prop := fun C fs rest G R => C = C0 ∧ fs = [] ∧ ∃ (l r : Addr) (d1 d2 : SD), rest = [.ref l, .ref r] ∧ ScD K Cs d1 l G ∧ ScD K Cs d2 r G ∧ SdOk d1 ∧ SdOk d2 ∧ d1.names.length * d2.names.length ≤ 64 ∧ depL [d1, d2] ≤ 10 ∧ (pairNames d1 d2).Nodup ∧
  R = fun _ _ fs' G' => ScI (pairSD d1 d2) fs' G' ∧ (∀ f, f ∉ scF → f ≠ ("left" : Str) → f ≠ ("right" : Str) → fs'.lookup f = none) ∧ fs'.lookup ("left" : Str) = some (.ref l) ∧ fs'.lookup ("right" : Str) = some (.ref r)
def PTuI (K : PySem.W.Frag) (Cs : List Addr) (C0 : Addr) : Addr → List (Str × V) → List V → Hp → OR → Prop := fun C fs rest G R => C = C0 ∧ fs = [] ∧ ∃ (l : Addr) (d : SD), rest = [.ref l] ∧ ScD K Cs d l G ∧ SdOk d ∧ depL [d] ≤ 10 ∧
  R = fun _ _ fs' G' => ScI (turnSD d) fs' G' ∧ (∀ f, f ∉ scF → f ≠ ("inner" : Str) → fs'.lookup f = none) ∧ fs'.lookup ("inner" : Str) = some (.ref l)
theorem lay_prL : ∀ ss : List (Int × Int), PyData.canLayAll0 (ss.map prd) = true ∧ PyData.depthAll (ss.map prd) ≤ 1 := by
  intro ss
  induction ss with
  | nil => simp [PyData.canLayAll0, PyData.depthAll]
  | cons s r ih => simp [PyData.canLayAll0, PyData.canLay0, PyData.depthAll, PyData.depth, prd, ih.1, ih.2]
/-- l.index of a pair -/
theorem idx_prL {K : PySem.W.Frag} {G : Hp} {S : SR} {p : Addr} {ss : List (Int × Int)} {ws : List V} {s : Int × Int} {y : V} (st : Stab S) (h : SqL K G p ws) (hw : RL IsPr ss ws G) (hs : s ∈ ss) (hy : IsPr s y G) : RC S (rIndexD K (.ref p)) [y] G (IsV (.int (ss.idxOf s : Nat))) := by
  have hj : ss.idxOf s < ss.length := List.idxOf_lt_length_iff.mpr hs
  refine c_indexD (z := prd s) (d := prd s) (ds := ss.map prd) st (.lst h (dp_prs hw)) (dp_pr hy) ?_ (by simp [SeqAt.shaped, prd, PyData.canLay0, PyData.canLayAll0, PyData.depth, PyData.depthAll]) ?_ (by rw [prd_eqv]; simp) (fun k z hk hz => ?_)
  · unfold SeqAt.shaped
    rw [Bool.and_eq_true]
    refine ⟨by simp only [PyData.canLay0]; exact (lay_prL ss).1, decide_eq_true ?_⟩
    have := (lay_prL ss).2
    show PyData.depthAll (ss.map prd) + 1 ≤ 64
    omega
  · rw [List.getElem?_map, List.getElem?_eq_getElem hj, List.getElem_idxOf hj]
    rfl
  · obtain ⟨hk', rfl⟩ := map_get hz
    rw [prd_eqv, decide_eq_false]
    have h0 := List.not_of_lt_findIdx (p := fun x => x == s) (xs := ss) hk
    intro e
    rw [e] at h0
    simp at h0
theorem pairs_mem {n1 n2 a b : Nat} (ha : a < n1) (hb : b < n2) : (((a : Nat) : Int), ((b : Nat) : Int)) ∈ pairsL n1 n2 := List.mem_of_getElem? (flat_get (fun a b => (((a : Nat) : Int), ((b : Nat) : Int))) n2 n1 a b ha hb)
end L2.DS
/-! The law's own rows of pairs and turned scales. -/
namespace L2.DS
open PySem PySem.Spec PyProof.Rows
/-- a table of whole numbers -/
def IsIRow (n : Nat) (f : Nat → Int) : HR := fun v G => ∃ q, v = .ref q ∧ G q = some (.lst ((List.range n).map fun b => V.int (f b)))
instance (n f) : Mon (IsIRow n f) := ⟨fun s ⟨q, e, h⟩ => ⟨q, e, s _ _ h⟩⟩
def TabN (G : Hp) (p : Addr) (n : Nat) (f : Nat → Nat → Int) : Prop := ∃ vs, G p = some (.lst vs) ∧ RL (fun a => IsIRow n (f a)) (List.range n) vs G
theorem TabN.mono {G G' : Hp} {p : Addr} {n : Nat} {f : Nat → Nat → Int} (h : TabN G p n f) (s : Same G G') : TabN G' p n f := let ⟨vs, a, b⟩ := h; ⟨vs, s _ _ a, rl_mon s b⟩
theorem TabN.at {G : Hp} {p : Addr} {n : Nat} {f : Nat → Nat → Int} (h : TabN G p n f) : ∃ vs, G p = some (.lst vs) ∧ vs.length = n ∧ ∀ a, a < n → ∃ q, vs[a]? = some (.ref q) ∧ G q = some (.lst ((List.range n).map fun b => V.int (f a b))) := by
  obtain ⟨vs, hp, rl⟩ := h
  have lv := rl_len rl
  rw [List.length_range] at lv
  refine ⟨vs, hp, lv, fun a ha => ?_⟩
  obtain ⟨u, hu, q, rfl, hq⟩ := rl_get rl (List.getElem?_range ha)
  exact ⟨q, hu, hq⟩
/-- the rows of a scale as the law holds them -/
def RowsAt (G : Hp) (p : Addr) (d : SD) : Prop := ∃ pn pj pp, G p = some (.lst [.ref pn, .ref pj, .ref pp, .int d.nv, .int d.sl]) ∧ G pn = some (.lst (d.names.map V.str)) ∧ TabN G pj d.names.length d.jn ∧ TabN G pp d.names.length d.th
theorem RowsAt.mono {G G' : Hp} {p : Addr} {d : SD} (h : RowsAt G p d) (s : Same G G') : RowsAt G' p d := let ⟨a, b, c, h1, h2, h3, h4⟩ := h; ⟨a, b, c, s _ _ h1, s _ _ h2, h3.mono s, h4.mono s⟩
def IsRows (d : SD) : HR := fun v G => ∃ p, v = .ref p ∧ RowsAt G p d
instance (d) : Mon (IsRows d) := ⟨fun s ⟨p, e, h⟩ => ⟨p, e, h.mono s⟩⟩
def rnames (sign : Str) (m : Nat) : List Str := (List.range m).map fun k => sign ++ (toString (((m : Nat) : Int) - (k : Nat)) : Str)
/-- rows drawn for m names -/
structure RowOk (sign : Str) (m : Nat) (d : SD) : Prop where
  nm : d.names = rnames sign m
  nv : 0 ≤ d.nv ∧ d.nv < m
  sl : 0 ≤ d.sl ∧ d.sl < m
  th : ∀ a b, a < m → b < m → 0 ≤ d.th a b ∧ d.th a b < m
  jn : ∀ a b, a < m → b < m → 0 ≤ d.jn a b ∧ d.jn a b < m
/-- two scales' rows told alike -/
structure Tells (ds dr : SD) (turned : Bool) : Prop where
  nm : ds.names = dr.names
  nv : ds.nv = dr.nv
  sl : ds.sl = dr.sl
  th : ∀ a b, a < dr.names.length → b < dr.names.length → ds.th a b = if turned then dr.th b a else dr.th a b
  jn : ∀ a b, a < dr.names.length → b < dr.names.length → ds.jn a b = dr.jn a b
theorem SdOk.turn {d : SD} (o : SdOk d) (h : d.label.length ≤ 900000) : SdOk (turnSD d) := by
  refine ⟨o.nd, o.l1, o.l2, o.sh, ?_, o.nv, o.sl, fun a b ha hb => o.th b a hb ha, o.jn⟩
  show (("(turned " : Str) ++ d.label ++ (")" : Str)).length ≤ _
  have c1 : ("(turned " : Str).length = 8 ∧ (")" : Str).length = 1 := by decide +kernel
  rw [Str.length_append, Str.length_append]
  omega
theorem pairs_bd {n1 n2 : Nat} {u v : Int} (u0 : 0 ≤ u) (u1 : u < n1) (v0 : 0 ≤ v) (v1 : v < n2) : 0 ≤ u * n2 + v ∧ u * n2 + v < ((n1 * n2 : Nat) : Int) := by
  obtain ⟨a, rfl⟩ : ∃ a : Nat, u = (a : Nat) := ⟨u.toNat, by omega⟩
  obtain ⟨b, rfl⟩ : ∃ b : Nat, v = (b : Nat) := ⟨v.toNat, by omega⟩
  have ha : a < n1 := by omega
  have hb : b < n2 := by omega
  have e : ((a : Nat) : Int) * ((n2 : Nat) : Int) + ((b : Nat) : Int) = ((a * n2 + b : Nat) : Int) := by rw [Int.natCast_add, Int.natCast_mul]
  rw [e]
  have : (a + 1) * n2 ≤ n1 * n2 := Nat.mul_le_mul_right n2 (by omega)
  rw [Nat.succ_mul] at this
  omega
theorem SdOk.pair {d1 d2 : SD} (o1 : SdOk d1) (o2 : SdOk d2) (h64 : d1.names.length * d2.names.length ≤ 64) (nd : (pairNames d1 d2).Nodup) (sh : ∀ nm ∈ pairNames d1 d2, nm.length ≤ 100000) (h1 : d1.label.length ≤ 400000) (h2 : d2.label.length ≤ 400000) : SdOk (pairSD d1 d2) := by
  have hl : (pairSD d1 d2).names.length = d1.names.length * d2.names.length := pairNames_len d1 d2
  have b1 : ∀ {c : Nat}, c < d1.names.length * d2.names.length → c / d2.names.length < d1.names.length := fun h => Nat.div_lt_of_lt_mul (by rw [Nat.mul_comm]; exact h)
  have b2 : ∀ {c : Nat}, c % d2.names.length < d2.names.length := Nat.mod_lt _ o2.l1
  refine ⟨nd, ?_, by rw [hl]; exact h64, sh, ?_, ?_, ?_, fun a b ha hb => ?_, fun a b ha hb => ?_⟩
  · rw [hl]
    exact Nat.mul_pos o1.l1 o2.l1
  · show (("(pair " : Str) ++ d1.label ++ (" " : Str) ++ d2.label ++ (")" : Str)).length ≤ _
    have c1 : ("(pair " : Str).length = 6 ∧ (" " : Str).length = 1 ∧ (")" : Str).length = 1 := by decide +kernel
    rw [Str.length_append, Str.length_append, Str.length_append, Str.length_append]
    omega
  · rw [hl]
    exact pairs_bd o1.nv.1 o1.nv.2 o2.nv.1 o2.nv.2
  · rw [hl]
    exact pairs_bd o1.sl.1 o1.sl.2 o2.sl.1 o2.sl.2
  · rw [hl] at ha hb ⊢
    have t1 := o1.th _ _ (b1 ha) (b1 hb)
    have t2 := o2.th _ _ (b2 (c := a)) (b2 (c := b))
    exact pairs_bd t1.1 t1.2 t2.1 t2.2
  · rw [hl] at ha hb ⊢
    have t1 := o1.jn _ _ (b1 ha) (b1 hb)
    have t2 := o2.jn _ _ (b2 (c := a)) (b2 (c := b))
    exact pairs_bd t1.1 t1.2 t2.1 t2.2
/-! the table scale made of rows -/
def rowsS (names : List Str) (f : Nat → Nat → Int) : List (List Str) := (List.range names.length).map fun a => (List.range names.length).map fun b => names.getD (f a b).toNat ("" : Str)
theorem rowsS_ok {names : List Str} {f : Nat → Nat → Int} (h : ∀ a b, a < names.length → b < names.length → 0 ≤ f a b ∧ f a b < names.length) : (rowsS names f).length = names.length ∧ ∀ r ∈ rowsS names f, r.length = names.length ∧ ∀ e ∈ r, e ∈ names := by
  unfold rowsS
  refine ⟨by rw [List.length_map, List.length_range], fun r hr => ?_⟩
  obtain ⟨a, ha, rfl⟩ := List.mem_map.mp hr
  have ha := List.mem_range.mp ha
  refine ⟨by rw [List.length_map, List.length_range], fun e he => ?_⟩
  obtain ⟨b, hb, rfl⟩ := List.mem_map.mp he
  have hb := List.mem_range.mp hb
  have := h a b ha hb
  have hi : (f a b).toNat < names.length := by omega
  rw [List.getD_eq_getElem?_getD, List.getElem?_eq_getElem hi]
  exact List.getElem_mem hi
theorem idx_getD {names : List Str} (nd : names.Nodup) {i : Nat} (h : i < names.length) : names.getD i ("" : Str) ∈ names ∧ names.idxOf (names.getD i ("" : Str)) = i := by
  have e : names.getD i ("" : Str) = names[i] := by rw [List.getD_eq_getElem?_getD, List.getElem?_eq_getElem h]; rfl
  rw [e]
  exact ⟨List.getElem_mem h, nd.idxOf_getElem i h⟩
theorem idxT_rows {names : List Str} {f : Nat → Nat → Int} (nd : names.Nodup) (h : ∀ a b, a < names.length → b < names.length → 0 ≤ f a b ∧ f a b < names.length) {a b : Nat} (ha : a < names.length) (hb : b < names.length) : idxT names (rowsS names f) a b = f a b := by
  unfold idxT rowsS
  have := h a b ha hb
  have e : (((List.range names.length).map fun a => (List.range names.length).map fun b => names.getD (f a b).toNat ("" : Str)).getD a []).getD b ("" : Str) = names.getD (f a b).toNat ("" : Str) := by
    rw [List.getD_eq_getElem?_getD, List.getD_eq_getElem?_getD, List.getElem?_map, List.getElem?_range ha]
    show (((List.range names.length).map fun b => names.getD (f a b).toNat ("" : Str))[b]?).getD _ = _
    rw [List.getElem?_map, List.getElem?_range hb]
    rfl
  rw [e, (idx_getD nd (show (f a b).toNat < names.length by omega)).2]
  omega
/-! promises -/
/-- rows drawn -/
def IsTabl (sign : Str) : HR := fun v G => ∃ (m : Nat) (d : SD), 1 ≤ m ∧ m < 5 ∧ IsRows d v G ∧ RowOk sign m d
instance (sign) : Mon (IsTabl sign) := ⟨fun s ⟨m, d, a, b, h, o⟩ => ⟨m, d, a, b, Mon.mon s h, o⟩⟩
theorem rl_of_get {α : Type} {R : α → HR} {G : Hp} : ∀ {ss : List α} {ys : List V}, ys.length = ss.length → (∀ (i : Nat) s y, ss[i]? = some s → ys[i]? = some y → R s y G) → RL R ss ys G
  | [], ys, h, _ => by
    cases ys with
    | nil => rfl
    | cons a r => cases h
  | s :: r, ys, h, hr => by
    cases ys with
    | nil => cases h
    | cons y ys => exact ⟨y, ys, rfl, hr 0 s y rfl rfl, rl_of_get (by simpa using h) fun i s' y' a b => hr (i + 1) s' y' a b⟩
def IsRI (m : Nat) : HR := fun v G => ∃ fr : Nat → Int, IsIRow m fr v G ∧ ∀ b, b < m → 0 ≤ fr b ∧ fr b < m
instance (m) : Mon (IsRI m) := ⟨fun s ⟨fr, a, b⟩ => ⟨fr, Mon.mon s a, b⟩⟩
section
variable {S : SR} {n ka kb : Nat} {t tk : TA} {σ : L2.St} {G : Hp} {R : OR} {C : Addr} {E : XK} {zs : List V} {m1 m2 : Nat} {gV : List V → List V → List V} {RA : HRs}
/-- C(.., k = v), the positional arguments as RA tells -/
theorem ev_makeKR (st : Stab S) [Mons RA] {P : Addr → List (Str × V) → List V → Hp → OR → Prop} (h : EvA S n ka t σ G RA) (hk : EvA S (n + ka) kb tk σ G (IsVs zs)) (l1 : ∀ vs G', RA vs G' → vs.length = m1) (l2 : zs.length = m2)
    (hp : ∀ vs G', Same G G' → RA vs G' → ∃ rest, (∀ x, gV (.ref x :: vs) zs = .ref x :: rest) ∧ P C [] rest G' R) : Ev S n (ka + kb) (tMakeK C m1 m2 (spI P) gV E t tk) σ G (IsO C R) := fun G1 H1 s0 s Q q =>
  h G1 H1 s0 s _ fun vs G2 H2 s2 e => hk G2 H2 (s0.trans s2.g) s2.s _ fun us G3 H3 s3 e' => by
    obtain rfl : us = zs := e'
    have e3 := Mons.mon (R := RA) s3.g e
    obtain ⟨rest, hg, hP⟩ := hp vs G3 ((s0.trans s2.g).trans s3.g) e3
    refine ⟨l1 vs G2 e, l2, fun x dx hx hd nd => ?_⟩
    obtain ⟨a, b⟩ := made_start (C := C) (x := x) (dx := dx) st s3.s hx hd
    refine ⟨x, C, dx, [], rest, G3, R, hg x, upd_same, a, b, hP, fun fs' G' H' w r => ⟨rfl, ?_⟩⟩
    exact q (.ref x) _ H' ((s2.trans s3).trans (made_stp st s3.s hx hd nd w)).up ⟨x, dx, fs', G', rfl, w.2.1, Same.refl _, r⟩
end
theorem Tells.pair {d1 d2 e1 e2 : SD} (h1 : Tells e1 d1 false) (h2 : Tells e2 d2 false) (l2 : 0 < d2.names.length) : Tells (pairSD e1 e2) (pairSD d1 d2) false := by
  have hl : (pairSD d1 d2).names.length = d1.names.length * d2.names.length := pairNames_len d1 d2
  have n2 : e2.names.length = d2.names.length := by rw [h2.nm]
  have b1 : ∀ {c : Nat}, c < d1.names.length * d2.names.length → c / d2.names.length < d1.names.length := fun h => Nat.div_lt_of_lt_mul (by rw [Nat.mul_comm]; exact h)
  have b2 : ∀ {c : Nat}, c % d2.names.length < d2.names.length := Nat.mod_lt _ l2
  refine ⟨?_, ?_, ?_, fun a b ha hb => ?_, fun a b ha hb => ?_⟩
  · show pairNames e1 e2 = pairNames d1 d2
    unfold pairNames
    rw [h1.nm, h2.nm]
  · show e1.nv * e2.names.length + e2.nv = d1.nv * d2.names.length + d2.nv
    rw [h1.nv, h2.nv, n2]
  · show e1.sl * e2.names.length + e2.sl = d1.sl * d2.names.length + d2.sl
    rw [h1.sl, h2.sl, n2]
  · rw [hl] at ha hb
    show e1.th (a / e2.names.length) (b / e2.names.length) * e2.names.length + e2.th (a % e2.names.length) (b % e2.names.length) = d1.th (a / d2.names.length) (b / d2.names.length) * d2.names.length + d2.th (a % d2.names.length) (b % d2.names.length)
    rw [n2, h1.th _ _ (b1 ha) (b1 hb), h2.th _ _ b2 b2]
    rfl
  · rw [hl] at ha hb
    show e1.jn (a / e2.names.length) (b / e2.names.length) * e2.names.length + e2.jn (a % e2.names.length) (b % e2.names.length) = d1.jn (a / d2.names.length) (b / d2.names.length) * d2.names.length + d2.jn (a % d2.names.length) (b % d2.names.length)
    rw [n2, h1.jn _ _ (b1 ha) (b1 hb), h2.jn _ _ b2 b2]
theorem Tells.turn {ds dr : SD} {t : Bool} (h : Tells ds dr t) : Tells (turnSD ds) dr (!t) := by
  refine ⟨h.nm, h.nv, h.sl, fun a b ha hb => ?_, h.jn⟩
  show ds.th b a = _
  rw [h.th b a hb ha]
  cases t <;> rfl
section
variable {K : PySem.W.Frag} {Cs : List Addr} {C : Addr} {G : Hp} {v : V} {d d1 d2 : SD} {l r : Addr}
theorem ScI.to {fs : List (Str × V)} {x dx : Addr} (hCs : C ∈ Cs) (hC : ClsOk K C) (hx : G x = some (.ins C dx fs)) (h : ScI d fs G) (hm : ∀ f ∈ metF, fs.lookup f = none) : ScD K Cs d x G := ⟨C, hCs, hC, dx, fs, hx, h, hm⟩
theorem ScI.mono' {fs : List (Str × V)} {G G' : Hp} (h : ScI d fs G) (s : Same G G') : ScI d fs G' := ScIs.mono h s
end
theorem depL1 {d : SD} (h : 1 ≤ d.dep) : depL [d] = d.dep + 1 := by
  unfold depL
  simp [h]
end L2.DS
/-! Scales of heaps. -/
namespace L2.DS
open PySem PySem.Spec PyProof.Rows
/-- the places that a number tells -/
def bitsOf (n : Nat) (a : Nat) : List Nat := (List.range n).filter fun k => decide (Builtin.bitAnd (((a : Nat) : Int) / 2 ^ k) 1 = 1)
def heapName (names : List Str) (a : Nat) : Str := ("{" : Str) ++ Txt.join ("," : Str) ((bitsOf names.length a).map fun k => names.getD k ("" : Str)) ++ ("}" : Str)
def heapNames (names : List Str) : List Str := (List.range (2 ^ names.length)).map (heapName names)
/-- the sets of all products -/
def hth (n : Nat) (th : Nat → Nat → Int) (a b : Nat) : Int := (bitsOf n a).foldl (fun f k => (bitsOf n b).foldl (fun f l => Builtin.bitOr f (1 * 2 ^ (th k l).toNat)) f) 0
def heapSD (d : SD) : SD where
  label := ("(heap " : Str) ++ d.label ++ (")" : Str)
  names := heapNames d.names
  nv := 0
  sl := 1 * 2 ^ d.sl.toNat
  dep := depL [d]
  th := hth d.names.length d.th
  jn := fun a b => Builtin.bitOr (a : Nat) (b : Nat)
theorem heapNames_len (names : List Str) : (heapNames names).length = 2 ^ names.length := by unfold heapNames; rw [List.length_map, List.length_range]
theorem bits_lt {n a k : Nat} (h : k ∈ bitsOf n a) : k < n := List.mem_range.mp (List.mem_filter.mp h).1
theorem bits_len (n a : Nat) : (bitsOf n a).length ≤ n := by
  have := List.length_filter_le (fun k => decide (Builtin.bitAnd (((a : Nat) : Int) / 2 ^ k) 1 = 1)) (List.range n)
  rw [List.length_range] at this
  exact this
/-! bits -/
theorem bor_nat (x y : Nat) : Builtin.bitOr (x : Nat) (y : Nat) = ((x ||| y : Nat) : Int) := by
  have e : ∀ z : Nat, decide ((0 : Int) ≤ Builtin.bitNot (z : Nat)) = false := fun z => by
    unfold Builtin.bitNot
    exact decide_eq_false (by omega)
  have e2 : ∀ z : Nat, (Builtin.bitNot (Builtin.bitNot ((z : Nat) : Int))).toNat = z := fun z => by
    unfold Builtin.bitNot
    omega
  unfold Builtin.bitOr Builtin.bitAnd
  rw [e, e]
  show Builtin.bitNot (Builtin.bitNot ((((Builtin.bitNot (Builtin.bitNot ((x : Nat) : Int))).toNat ||| (Builtin.bitNot (Builtin.bitNot ((y : Nat) : Int))).toNat : Nat)) : Int)) = _
  rw [e2, e2]
  unfold Builtin.bitNot
  omega
theorem band_bit (a k : Nat) : decide (Builtin.bitAnd (((a : Nat) : Int) / 2 ^ k) 1 = 1) = a.testBit k := by
  have e : ((a : Nat) : Int) / 2 ^ k = ((a / 2 ^ k : Nat) : Int) := by
    rw [Int.natCast_ediv, Int.natCast_pow]
    rfl
  rw [e, bit1 _ (Int.natCast_nonneg _)]
  rw [Nat.testBit_eq_decide_div_mod_eq]
  rw [decide_eq_decide]
  omega
theorem mem_bits {n a k : Nat} : k ∈ bitsOf n a ↔ k < n ∧ a.testBit k = true := by
  unfold bitsOf
  rw [List.mem_filter, List.mem_range, band_bit]
/-- what a list of places makes up -/
def orL (L : List Nat) : Nat := L.foldl (fun f k => f ||| 2 ^ k) 0
theorem orL_acc : ∀ (L : List Nat) (f i : Nat), (L.foldl (fun f k => f ||| 2 ^ k) f).testBit i = (f.testBit i || decide (i ∈ L)) := by
  intro L
  induction L with
  | nil => intro f i; simp
  | cons k r ih =>
    intro f i
    rw [List.foldl_cons, ih, Nat.testBit_or, Nat.testBit_two_pow]
    by_cases h : i = k
    · subst h
      simp
    · have h' : ¬ k = i := fun e => h e.symm
      simp [h, h']
theorem orL_bit (L : List Nat) (i : Nat) : (orL L).testBit i = decide (i ∈ L) := by
  unfold orL
  rw [orL_acc]
  simp
/-- products -/
def prodL (n : Nat) (th : Nat → Nat → Int) (a b : Nat) : List Nat := (bitsOf n a).flatMap fun k => (bitsOf n b).map fun l => (th k l).toNat
theorem bor_fold (L : List Nat) : ∀ f : Nat, L.foldl (fun (f : Int) i => Builtin.bitOr f (1 * 2 ^ i)) (f : Nat) = ((L.foldl (fun f i => f ||| 2 ^ i) f : Nat) : Int) := by
  induction L with
  | nil => intro f; rfl
  | cons i r ih =>
    intro f
    have e : (1 : Int) * 2 ^ i = ((2 ^ i : Nat) : Int) := by rw [Int.one_mul, Int.natCast_pow]; rfl
    rw [List.foldl_cons, List.foldl_cons, e, bor_nat, ih]
theorem hth_is (n : Nat) (th : Nat → Nat → Int) (a b : Nat) : hth n th a b = ((orL (prodL n th a b) : Nat) : Int) := by
  unfold hth prodL orL
  have h : ∀ (A : List Nat) (f : Nat), A.foldl (fun (f : Int) k => (bitsOf n b).foldl (fun f l => Builtin.bitOr f (1 * 2 ^ (th k l).toNat)) f) (f : Nat) = (((A.flatMap fun k => (bitsOf n b).map fun l => (th k l).toNat).foldl (fun f k => f ||| 2 ^ k) f : Nat) : Int) := by
    intro A
    induction A with
    | nil => intro f; rfl
    | cons k r ih =>
      intro f
      have e : (bitsOf n b).foldl (fun (f : Int) l => Builtin.bitOr f (1 * 2 ^ (th k l).toNat)) (f : Nat) = ((((bitsOf n b).map fun l => (th k l).toNat).foldl (fun f i => f ||| 2 ^ i) f : Nat) : Int) := by
        have z := bor_fold ((bitsOf n b).map fun l => (th k l).toNat) f
        rw [List.foldl_map] at z
        exact z
      rw [List.foldl_cons, e, ih, List.flatMap_cons, List.foldl_append]
  exact h _ 0
theorem prod_lt {n : Nat} {th : Nat → Nat → Int} {a b : Nat} (h : ∀ k l, k < n → l < n → 0 ≤ th k l ∧ th k l < n) : ∀ i ∈ prodL n th a b, i < n := by
  intro i hi
  obtain ⟨k, hk, hi⟩ := List.mem_flatMap.mp hi
  obtain ⟨l, hl, rfl⟩ := List.mem_map.mp hi
  have := h k l (bits_lt hk) (bits_lt hl)
  omega
theorem orL_lt {n : Nat} {L : List Nat} (h : ∀ i ∈ L, i < n) : orL L < 2 ^ n := by
  refine Nat.lt_pow_two_of_testBit _ fun i hi => ?_
  rw [orL_bit]
  simp
  intro hm
  have := h i hm
  omega
/-- a list of places -/
def IsIL (L : List Nat) : HR := fun v G => ∃ q, v = .ref q ∧ G q = some (.lst (L.map fun k => V.int (k : Nat)))
instance (L) : Mon (IsIL L) := ⟨fun s ⟨q, e, h⟩ => ⟨q, e, s _ _ h⟩⟩
def HeapsAt (n : Nat) (G : Hp) (p : Addr) : Prop := ∃ hs, G p = some (.lst hs) ∧ RL (fun a => IsIL (bitsOf n a)) (List.range (2 ^ n)) hs G
theorem HeapsAt.mono {n : Nat} {G G' : Hp} {p : Addr} (h : HeapsAt n G p) (s : Same G G') : HeapsAt n G' p := let ⟨hs, a, b⟩ := h; ⟨hs, s _ _ a, rl_mon s b⟩
theorem HeapsAt.at {n : Nat} {G : Hp} {p : Addr} (h : HeapsAt n G p) : ∃ hs, G p = some (.lst hs) ∧ hs.length = 2 ^ n ∧ ∀ a, a < 2 ^ n → ∃ q, hs[a]? = some (.ref q) ∧ G q = some (.lst ((bitsOf n a).map fun k => V.int (k : Nat))) := by
  obtain ⟨hs, hp, rl⟩ := h
  have lv := rl_len rl
  rw [List.length_range] at lv
  refine ⟨hs, hp, lv, fun a ha => ?_⟩
  obtain ⟨u, hu, q, rfl, hq⟩ := rl_get rl (List.getElem?_range ha)
  exact ⟨q, hu, hq⟩
def PHpM (K : PySem.W.Frag) (Cs : List Addr) (C0 : Addr) : List V → Hp → HR → Prop := fun vs G R => ∃ (x dx l hp : Addr) (fs : List (Str × V)) (d : SD) (a b : Nat), vs = [.ref x, .int (a : Nat), .int (b : Nat)] ∧ G x = some (.ins C0 dx fs) ∧ fs.lookup ("inner" : Str) = some (.ref l) ∧ fs.lookup ("heaps" : Str) = some (.ref hp) ∧
  ScD K Cs d l G ∧ SdOk d ∧ HeapsAt d.names.length G hp ∧ a < 2 ^ d.names.length ∧ b < 2 ^ d.names.length ∧ R = IsV (.int ((heapSD d).th a b))
def PHpJ : List V → Hp → HR → Prop := fun vs _ R => ∃ (x : Addr) (d : SD) (a b : Nat), vs = [.ref x, .int (a : Nat), .int (b : Nat)] ∧ R = IsV (.int ((heapSD d).jn a b))
def PHpI (K : PySem.W.Frag) (Cs : List Addr) (C0 : Addr) : Addr → List (Str × V) → List V → Hp → OR → Prop := fun C fs rest G R => C = C0 ∧ fs = [] ∧ ∃ (l : Addr) (d : SD), rest = [.ref l] ∧ ScD K Cs d l G ∧ SdOk d ∧ d.names.length ≤ 6 ∧ depL [d] ≤ 10 ∧ (heapNames d.names).Nodup ∧
  R = fun _ _ fs' G' => ScI (heapSD d) fs' G' ∧ (∀ f, f ∉ scF → f ≠ ("inner" : Str) → f ≠ ("heaps" : Str) → fs'.lookup f = none) ∧ fs'.lookup ("inner" : Str) = some (.ref l)
/-- a field of the object that is being made -/
theorem ev_fldOwn {G0 H0 G : Hp} {x C dx : Addr} {fs : List (Str × V)} {n : Nat} {σ : L2.St} {K : PySem.W.Frag} {f : Str} {v : V} (hσ : σ[0]? = some (some (.ref x))) (hC : Cls K C) (hN : NoAttr K C f) (hl : fs.lookup f = some v) : Ev (Own G0 H0 x (.ins C dx fs)) n 0 (tFld K (tVar 0) f) σ G (IsV v) :=
  fun G1 H1 s0 s Q q => ⟨_, hσ, x, C, dx, fs, v, rfl, s.2.2.1, hC, hN, hl, q v G1 H1 (Stp.refl s) rfl⟩
end L2.DS
/-! The law's own rows of heaps. -/
namespace L2.DS
open PySem PySem.Spec PyProof.Rows
/-- rows of a scale as the law holds them -/
def InnAt (K : PySem.W.Frag) (Cs : List Addr) (d : SD) (G : Hp) (p : Addr) : Prop := ∃ x pn pp, G p = some (.lst [.ref x, .ref pn, .ref pp, .int d.sl]) ∧ ScD K Cs d x G ∧ G pn = some (.lst (d.names.map V.str)) ∧ TabN G pp d.names.length d.th
theorem InnAt.mono {K : PySem.W.Frag} {Cs : List Addr} {d : SD} {G G' : Hp} {p : Addr} (h : InnAt K Cs d G p) (s : Same G G') : InnAt K Cs d G' p := let ⟨x, a, b, h1, h2, h3, h4⟩ := h; ⟨x, a, b, s _ _ h1, h2.mono s, s _ _ h3, h4.mono s⟩
def IsInn (K : PySem.W.Frag) (Cs : List Addr) (d : SD) : HR := fun v G => ∃ p, v = .ref p ∧ InnAt K Cs d G p
instance (K Cs d) : Mon (IsInn K Cs d) := ⟨fun s ⟨p, e, h⟩ => ⟨p, e, h.mono s⟩⟩
structure InOk (d : SD) : Prop where
  ok : SdOk d
  n5 : d.names.length ≤ 5
  d0 : 1 ≤ d.dep
  dp : d.dep ≤ 4
  ll : d.label.length ≤ 60000
  hn : (heapNames d.names).Nodup
  sh : ∀ nm ∈ d.names, nm.length ≤ 100
structure FreeOk (sign : Str) (m : Nat) (d : SD) : Prop where
  nm : d.names = rnames sign m
  ok : InOk d
  dp : d.dep = 1
  ll : d.label.length ≤ 20000
def IsFree (K : PySem.W.Frag) (Cs : List Addr) (sign : Str) (mx : Nat) : HR := fun v G => ∃ (m : Nat) (d : SD), 1 ≤ m ∧ m ≤ mx ∧ IsInn K Cs d v G ∧ FreeOk sign m d
instance (K Cs sign mx) : Mon (IsFree K Cs sign mx) := ⟨fun s ⟨m, d, a, b, h, o⟩ => ⟨m, d, a, b, Mon.mon s h, o⟩⟩
def IsInner (K : PySem.W.Frag) (Cs : List Addr) : HR := fun v G => ∃ d : SD, IsInn K Cs d v G ∧ InOk d
instance (K Cs) : Mon (IsInner K Cs) := ⟨fun s ⟨d, h, o⟩ => ⟨d, Mon.mon s h, o⟩⟩
/-! promises -/
theorem TabN.congr {G : Hp} {p : Addr} {n : Nat} {f g : Nat → Nat → Int} (h : TabN G p n f) (e : ∀ a b, a < n → b < n → f a b = g a b) : TabN G p n g := by
  obtain ⟨vs, hp, lv, hat⟩ := h.at
  refine ⟨vs, hp, rl_of_get (by rw [lv, List.length_range]) fun i s y hs hy => ?_⟩
  have hi : i < n := by
    have := (List.getElem?_eq_some_iff.mp hs).1
    rw [List.length_range] at this
    exact this
  rw [List.getElem?_range hi] at hs
  obtain rfl := Option.some.inj hs
  obtain ⟨q, hq, gq⟩ := hat i hi
  rw [hq] at hy
  obtain rfl := Option.some.inj hy
  refine ⟨q, rfl, ?_⟩
  rw [gq]
  exact congrArg (fun z => some (HO.lst z)) (List.map_congr_left fun b hb => by rw [e i b hi (List.mem_range.mp hb)])
/-- the tables of a table scale -/
theorem tbl_sd {names : List Str} {joins : List (List Str)} {th : Nat → Nat → Int} {low : Str} {u : Nat} (T : TbOk names joins (rowsS names th) low (names.getD u ("" : Str))) (hu : u < names.length) (bt : ∀ a b, a < names.length → b < names.length → 0 ≤ th a b ∧ th a b < names.length) :
    SdOk ⟨tbLab names low (names.getD u ("" : Str)) joins (rowsS names th), names, (names.idxOf low : Nat), (names.idxOf (names.getD u ("" : Str)) : Nat), 1, idxT names (rowsS names th), idxT names joins⟩ ∧ (tbLab names low (names.getD u ("" : Str)) joins (rowsS names th)).length ≤ 20000 := by
  have nj := names_join T.ok T.l2
  have jj := joinR_len T.ok T.l2 T.jl T.jr
  have jp := joinR_len T.ok T.l2 T.pl T.pr
  have lf := okNm_len (T.ok _ T.nv)
  have ls := okNm_len (T.ok _ T.sl)
  have hlab : (tbLab names low (names.getD u ("" : Str)) joins (rowsS names th)).length ≤ 20000 := by
    have c1 : ("(table (" : Str).length = 8 ∧ (") " : Str).length = 2 ∧ (" (" : Str).length = 2 ∧ (") (" : Str).length = 3 ∧ ("))" : Str).length = 2 ∧ (" " : Str).length = 1 := by decide +kernel
    unfold tbLab
    simp only [Str.length_append]
    omega
  have ix : ∀ e ∈ names, 0 ≤ ((names.idxOf e : Nat) : Int) ∧ ((names.idxOf e : Nat) : Int) < ((names.length : Nat) : Int) := fun e he => by
    have := List.idxOf_lt_length_iff.mpr he
    omega
  refine ⟨⟨T.nd, T.l1, by have := T.l2; show names.length ≤ 64; omega, fun nm h => by have := okNm_len (T.ok nm h); omega, Nat.le_trans hlab (by decide), ix _ T.nv, ix _ T.sl, fun a b ha hb => ?_, fun a b ha hb => ?_⟩, hlab⟩
  · show 0 ≤ idxT names (rowsS names th) a b ∧ idxT names (rowsS names th) a b < ((names.length : Nat) : Int)
    rw [idxT_rows T.nd bt ha hb]
    exact bt a b ha hb
  · have ha : a < names.length := ha
    have hb : b < names.length := hb
    have haj : a < joins.length := by rw [T.jl]; exact ha
    have e1 : joins[a]? = some joins[a] := List.getElem?_eq_getElem haj
    obtain ⟨r1, r2⟩ := T.jr _ (List.mem_of_getElem? e1)
    have hbr : b < (joins[a]).length := by rw [r1]; exact hb
    refine ix _ ?_
    rw [List.getD_eq_getElem?_getD, List.getD_eq_getElem?_getD, e1]
    show ((joins[a])[b]?).getD _ ∈ names
    rw [List.getElem?_eq_getElem hbr]
    exact r2 _ (List.getElem_mem hbr)
theorem joinC_len (ys : List Str) (L : Nat) (h : ∀ y ∈ ys, y.length ≤ L) : (ys.map (·.length)).sum + ys.length * ("," : Str).length ≤ ys.length * (L + 1) ∧ (Txt.join ("," : Str) ys).length ≤ ys.length * (L + 1) := by
  have e : ("," : Str).length = 1 := by decide +kernel
  have h1 : (ys.map (·.length)).sum + ys.length * 1 ≤ ys.length * (L + 1) := by
    induction ys with
    | nil => simp
    | cons y r ih =>
      have := ih fun z hz => h z (List.mem_cons_of_mem _ hz)
      have hy := h y List.mem_cons_self
      simp only [List.map_cons, List.sum_cons, List.length_cons, Nat.succ_mul]
      omega
  rw [e]
  refine ⟨h1, ?_⟩
  have h2 := StrLaws.join_length_le ("," : Str) ys
  rw [e] at h2
  show (Builtin.Str.glued ("," : Str) ys).length ≤ _
  rw [StrLaws.glued_eq_join]
  omega
end L2.DS
/-! The inner scales of the law of heaps; tables by two comprehensions. -/
namespace L2.DS
open PySem PySem.Spec PyProof.Rows
theorem cwords_len (t : Nat) : (("never" : Str) :: cwords t).length = t + 2 := by
  unfold cwords
  rw [List.length_cons, List.length_map, List.length_range]
theorem heap_label (d : SD) : (heapSD d).label.length = d.label.length + 7 := by
  have c1 : ("(heap " : Str).length = 6 ∧ (")" : Str).length = 1 := by decide +kernel
  show (("(heap " : Str) ++ d.label ++ (")" : Str)).length = _
  rw [Str.length_append, Str.length_append]
  omega
/-! the law's tables -/
/-- a list of whole numbers -/
def IsIV (L : List Int) : HR := fun v G => ∃ q, v = .ref q ∧ G q = some (.lst (L.map V.int))
instance (L) : Mon (IsIV L) := ⟨fun s ⟨q, e, h⟩ => ⟨q, e, s _ _ h⟩⟩
/-- the scale that stands first in a row -/
def IsFrS (K : PySem.W.Frag) (Cs : List Addr) (sign : Str) (m : Nat) : HR := fun v G => ∃ d, IsScD K Cs d v G ∧ FreeOk sign m d
instance (K Cs sign m) : Mon (IsFrS K Cs sign m) := ⟨fun s ⟨d, h, o⟩ => ⟨d, Mon.mon s h, o⟩⟩
section
variable {S : SR} {n k : Nat} {t : TA} {σ : L2.St} {G : Hp} {RA : HRs} {R : OR} {C : Addr} {dvs : List V} {E : XK}
/-- C(..), what is promised told more weakly -/
theorem ev_makeW (st : Stab S) {P : Addr → List (Str × V) → List V → Hp → OR → Prop} (h : EvA S n k t σ G RA) (hp : ∀ vs G', Same G G' → RA vs G' → ∃ R0 : OR, P C [] (vs ++ dvs) G' R0 ∧ ∀ a b fs G, R0 a b fs G → R a b fs G) : Ev S n k (tMake C (spI P) dvs E t) σ G (IsO C R) := fun G1 H1 s0 s Q q =>
  h G1 H1 s0 s _ fun vs G2 H2 s2 e x dx hx hd nd => by
    obtain ⟨a, b⟩ := made_start (C := C) (x := x) (dx := dx) st s2.s hx hd
    obtain ⟨R0, hp0, hw⟩ := hp vs G2 (s0.trans s2.g) e
    refine ⟨x, C, dx, [], vs ++ dvs, G2, R0, rfl, upd_same, a, b, hp0, fun fs' G' H' w r => ⟨rfl, ?_⟩⟩
    exact q (.ref x) _ H' (s2.trans (made_stp st s2.s hx hd nd w)) ⟨x, dx, fs', G', rfl, w.2.1, Same.refl _, hw _ _ _ _ r⟩
end
/-! the law's products -/
end L2.DS
/-! Regular scales: the rules of joins and products, kept by pairs, turned scales and heaps. -/
namespace L2.DS
open PySem PySem.Spec PyProof.Rows
structure RegF (n : Nat) (t j : Nat → Nat → Nat) (z u : Nat) : Prop where
  zn : z < n
  un : u < n
  tb : ∀ {a b}, a < n → b < n → t a b < n
  jb : ∀ {a b}, a < n → b < n → j a b < n
  jj : ∀ {a}, a < n → j a a = a
  jc : ∀ {a b}, a < n → b < n → j a b = j b a
  ja : ∀ {a b c}, a < n → b < n → c < n → j (j a b) c = j a (j b c)
  jz : ∀ {a}, a < n → j a z = a
  ta : ∀ {a b c}, a < n → b < n → c < n → t (t a b) c = t a (t b c)
  tu : ∀ {a}, a < n → t u a = a ∧ t a u = a
  tz : ∀ {a}, a < n → t z a = z ∧ t a z = z
  dl : ∀ {a b c}, a < n → b < n → c < n → t a (j b c) = j (t a b) (t a c)
  dr : ∀ {a b c}, a < n → b < n → c < n → t (j a b) c = j (t a c) (t b c)
def SD.T (d : SD) (a b : Nat) : Nat := (d.th a b).toNat
def SD.J (d : SD) (a b : Nat) : Nat := (d.jn a b).toNat
def Reg (d : SD) : Prop := RegF d.names.length d.T d.J d.nv.toNat d.sl.toNat
/-- a family with never: what stands behind it has its own joins and products -/
theorem RegF.opt {n : Nat} {TT JJ : Nat → Nat → Nat} (n0 : 0 < n) (tb : ∀ {x y}, x < n → y < n → TT x y < n) (jb : ∀ {x y}, x < n → y < n → JJ x y < n) (jj : ∀ {x}, x < n → JJ x x = x) (jc : ∀ {x y}, x < n → y < n → JJ x y = JJ y x) (ja : ∀ {x y z}, x < n → y < n → z < n → JJ (JJ x y) z = JJ x (JJ y z))
    (ta : ∀ {x y z}, x < n → y < n → z < n → TT (TT x y) z = TT x (TT y z)) (tu : ∀ {x}, x < n → TT 0 x = x ∧ TT x 0 = x) (dl : ∀ {x y z}, x < n → y < n → z < n → TT x (JJ y z) = JJ (TT x y) (TT x z)) (dr : ∀ {x y z}, x < n → y < n → z < n → TT (JJ x y) z = JJ (TT x z) (TT y z)) :
    RegF (n + 1) (fun a b => if a = 0 ∨ b = 0 then 0 else TT (a - 1) (b - 1) + 1) (fun a b => if a = 0 ∨ b = 0 then a + b else JJ (a - 1) (b - 1) + 1) 0 1 where
  zn := by omega
  un := by omega
  tb {a b} ha hb := by
    rcases a with _ | a <;> rcases b with _ | b <;> simp
    exact tb (by omega) (by omega)
  jb {a b} ha hb := by
    rcases a with _ | a <;> rcases b with _ | b <;> simp <;> try omega
    exact jb (by omega) (by omega)
  jj {a} ha := by
    rcases a with _ | a <;> simp
    exact jj (by omega)
  jc {a b} ha hb := by
    rcases a with _ | a <;> rcases b with _ | b <;> simp
    exact jc (by omega) (by omega)
  ja {a b c} ha hb hc := by
    rcases a with _ | a <;> rcases b with _ | b <;> rcases c with _ | c <;> simp
    exact ja (by omega) (by omega) (by omega)
  jz {a} ha := by
    rcases a with _ | a <;> simp
  ta {a b c} ha hb hc := by
    rcases a with _ | a <;> rcases b with _ | b <;> rcases c with _ | c <;> simp
    exact ta (by omega) (by omega) (by omega)
  tu {a} ha := by
    rcases a with _ | a <;> simp
    exact tu (by omega)
  tz {a} ha := by
    rcases a with _ | a <;> simp
  dl {a b c} ha hb hc := by
    rcases a with _ | a <;> rcases b with _ | b <;> rcases c with _ | c <;> simp
    exact dl (by omega) (by omega) (by omega)
  dr {a b c} ha hb hc := by
    rcases a with _ | a <;> rcases b with _ | b <;> rcases c with _ | c <;> simp
    exact dr (by omega) (by omega) (by omega)
/-! counts -/
def cntSD (t : Nat) (up : Bool) : SD := ⟨clabel (t : Nat) up, ("never" : Str) :: cwords t, 0, 1, 1, cth (t : Nat), cjn up⟩
theorem cth_N (t : Nat) : (fun a b => (cth (t : Nat) a b).toNat) = fun a b => if a = 0 ∨ b = 0 then 0 else min ((a - 1) + (b - 1)) t + 1 := by
  funext a b
  unfold cth cthen
  split
  · rfl
  · split <;> omega
theorem cjn_N (up : Bool) : (fun a b => (cjn up a b).toNat) = fun a b => if a = 0 ∨ b = 0 then a + b else (if up then max (a - 1) (b - 1) else min (a - 1) (b - 1)) + 1 := by
  funext a b
  unfold cjn ceit
  split
  · omega
  · cases up
    · by_cases h : b < a
      · rw [if_neg (by simp; omega), if_neg (by decide)]
        omega
      · rw [if_pos (by simp; omega), if_neg (by decide)]
        omega
    · by_cases h : b < a
      · rw [if_pos (by simp; omega), if_pos rfl]
        omega
      · rw [if_neg (by simp; omega), if_pos rfl]
        omega
theorem count_reg (t : Nat) (up : Bool) : Reg (cntSD t up) := by
  show RegF (("never" : Str) :: cwords t).length (fun a b => (cth (t : Nat) a b).toNat) (fun a b => (cjn up a b).toNat) 0 1
  rw [cwords_len, cth_N, cjn_N]
  cases up
  · exact RegF.opt (n := t + 1) (TT := fun x y => min (x + y) t) (JJ := fun x y => min x y) (by omega) (by intros; omega) (by intros; omega) (by intros; omega) (by intros; omega) (by intros; omega) (by intros; omega) (by intros; omega) (by intros; omega) (by intros; omega)
  · exact RegF.opt (n := t + 1) (TT := fun x y => min (x + y) t) (JJ := fun x y => max x y) (by omega) (by intros; omega) (by intros; omega) (by intros; omega) (by intros; omega) (by intros; omega) (by intros; omega) (by intros; omega) (by intros; omega) (by intros; omega)
/-! spans -/
def spanSD (m : Nat) : SD := ⟨slabel (m : Nat), ("never" : Str) :: swords m, 0, 1, 1, sth m, sjn m⟩
theorem span_len (m : Nat) : (spanSD m).names.length = (spansL m).length + 1 := by
  show (("never" : Str) :: swords m).length = _
  unfold swords
  rw [List.length_cons, List.length_map]
/-! sets -/
def stSD (c : Nat) (may : Bool) : SD := ⟨tlabel (c : Nat) may, ("never" : Str) :: twords c, 0, 1, 1, tth, tjn may⟩
/-! relations -/
def wtSD (s : Nat) : SD := ⟨wlabel (s : Nat), wwords s, 0, wstill s, 1, wth s, wjn⟩
/-- tables that agree on the places -/
theorem RegF.congr {n z u : Nat} {t t' j : Nat → Nat → Nat} (r : RegF n t j z u) (h : ∀ {a b}, a < n → b < n → t' a b = t a b) : RegF n t' j z u := by
  refine ⟨r.zn, r.un, fun ha hb => by rw [h ha hb]; exact r.tb ha hb, r.jb, r.jj, r.jc, r.ja, r.jz, fun ha hb hc => ?_, fun ha => ?_, fun ha => ?_, fun ha hb hc => ?_, fun ha hb hc => ?_⟩
  · rw [h ha hb, h hb hc, h (r.tb ha hb) hc, h ha (r.tb hb hc)]
    exact r.ta ha hb hc
  · rw [h r.un ha, h ha r.un]
    exact r.tu ha
  · rw [h r.zn ha, h ha r.zn]
    exact r.tz ha
  · rw [h ha (r.jb hb hc), h ha hb, h ha hc]
    exact r.dl ha hb hc
  · rw [h (r.jb ha hb) hc, h ha hc, h hb hc]
    exact r.dr ha hb hc
/-! turned scales, pairs, heaps -/
theorem pos_of_lt_mul {a n m : Nat} (h : a < n * m) : 0 < m := by
  rcases Nat.eq_zero_or_pos m with rfl | h'
  · simp at h
  · exact h'
end L2.DS
/-! Names of pairs and heaps are told apart: words with brackets. -/
namespace L2.DS
open PySem PySem.Spec PyProof.Rows
def opnC (c : Nat) : Bool := c == 60 || c == 123
def clsC (c : Nat) : Bool := c == 62 || c == 125
def sepC (c : Nat) : Bool := c == 44 || c == 47
def scanW : Nat → List Nat → Option Nat
  | d, [] => some d
  | d, c :: r => if opnC c then scanW (d + 1) r else if clsC c then (match d with | 0 => none | e + 1 => scanW e r) else if sepC c then (match d with | 0 => none | e + 1 => scanW (e + 1) r) else scanW d r
theorem scan_c (d c : Nat) (r : List Nat) : scanW d (c :: r) = if opnC c then scanW (d + 1) r else if clsC c then (match d with | 0 => none | e + 1 => scanW e r) else if sepC c then (match d with | 0 => none | e + 1 => scanW (e + 1) r) else scanW d r := by cases d <;> rfl
def endC (c : Nat) : Prop := clsC c = true ∨ sepC c = true
theorem cls_opn {c : Nat} (h : clsC c = true) : opnC c = false := by
  unfold clsC at h
  unfold opnC
  simp only [Bool.or_eq_true, beq_iff_eq] at h
  rcases h with rfl | rfl <;> rfl
theorem sep_opn {c : Nat} (h : sepC c = true) : opnC c = false ∧ clsC c = false := by
  unfold sepC at h
  unfold opnC clsC
  simp only [Bool.or_eq_true, beq_iff_eq] at h
  rcases h with rfl | rfl <;> exact ⟨rfl, rfl⟩
theorem scan_end {c : Nat} (h : endC c) (r : List Nat) : scanW 0 (c :: r) = none := by
  rw [scan_c]
  rcases h with h | h
  · rw [if_neg (by rw [cls_opn h]; decide), if_pos h]
  · rw [if_neg (by rw [(sep_opn h).1]; decide), if_neg (by rw [(sep_opn h).2]; decide), if_pos h]
theorem scan_step (d c : Nat) : (∀ r, scanW d (c :: r) = none) ∨ ∃ e, ∀ r, scanW d (c :: r) = scanW e r := by
  by_cases h1 : opnC c = true
  · exact .inr ⟨d + 1, fun r => by rw [scan_c, if_pos h1]⟩
  · by_cases h2 : clsC c = true
    · cases d with
      | zero => exact .inl fun r => scan_end (.inl h2) r
      | succ e => exact .inr ⟨e, fun r => by rw [scan_c, if_neg h1, if_pos h2]⟩
    · by_cases h3 : sepC c = true
      · cases d with
        | zero => exact .inl fun r => scan_end (.inr h3) r
        | succ e => exact .inr ⟨e + 1, fun r => by rw [scan_c, if_neg h1, if_neg h2, if_pos h3]⟩
      · exact .inr ⟨d, fun r => by rw [scan_c, if_neg h1, if_neg h2, if_neg h3]⟩
theorem scan_app : ∀ (x y : List Nat) (d : Nat), scanW d (x ++ y) = (scanW d x).bind fun e => scanW e y
  | [], y, d => rfl
  | c :: x, y, d => by
    rcases scan_step d c with h | ⟨e, h⟩
    · rw [List.cons_append, h, h]
      rfl
    · rw [List.cons_append, h, h, scan_app x y e]
theorem scan_up : ∀ (x : List Nat) (d e k : Nat), scanW d x = some e → scanW (d + k) x = some (e + k)
  | [], d, e, k, h => by
    obtain rfl := Option.some.inj h
    rfl
  | c :: x, d, e, k, h => by
    rw [scan_c] at h ⊢
    by_cases h1 : opnC c = true
    · rw [if_pos h1] at h ⊢
      rw [show d + k + 1 = (d + 1) + k by omega]
      exact scan_up x _ _ k h
    · rw [if_neg h1] at h ⊢
      by_cases h2 : clsC c = true
      · rw [if_pos h2] at h ⊢
        cases d with
        | zero => cases h
        | succ d =>
          rw [show d + 1 + k = (d + k) + 1 by omega]
          exact scan_up x _ _ k h
      · rw [if_neg h2] at h ⊢
        by_cases h3 : sepC c = true
        · rw [if_pos h3] at h ⊢
          cases d with
          | zero => cases h
          | succ d =>
            rw [show d + 1 + k = (d + k) + 1 by omega]
            have z := scan_up x _ _ k h
            rw [show d + 1 + k = (d + k) + 1 by omega] at z
            exact z
        · rw [if_neg h3] at h ⊢
          exact scan_up x _ _ k h
/-- what stands ahead of a separator is read in one way -/
theorem split_u : ∀ (x x' : List Nat) (d s s' : Nat) (r r' : List Nat), endC s → endC s' → scanW d x = some 0 → scanW d x' = some 0 → x ++ s :: r = x' ++ s' :: r' → x = x' ∧ s = s' ∧ r = r'
  | [], [], d, s, s', r, r', _, _, _, _, e => by
    rw [List.nil_append, List.nil_append] at e
    exact ⟨rfl, (List.cons.inj e).1, (List.cons.inj e).2⟩
  | [], c :: t, d, s, s', r, r', hs, _, h, h', e => by
    obtain rfl := Option.some.inj h
    have e1 := (List.cons.inj e).1
    subst e1
    rw [scan_end hs] at h'
    cases h'
  | c :: t, [], d, s, s', r, r', _, hs', h, h', e => by
    obtain rfl := Option.some.inj h'
    have e1 := (List.cons.inj e).1
    subst e1
    rw [scan_end hs'] at h
    cases h
  | c :: t, c' :: t', d, s, s', r, r', hs, hs', h, h', e => by
    have e1 := (List.cons.inj e).1
    have e2 := (List.cons.inj e).2
    subst e1
    rcases scan_step d c with z | ⟨d1, z⟩
    · rw [z] at h
      cases h
    · rw [z] at h h'
      obtain ⟨a, b, c⟩ := split_u t t' d1 s s' r r' hs hs' h h' e2
      exact ⟨by rw [a], b, c⟩
def okW (s : Str) : Prop := s.cps.toList ≠ [] ∧ scanW 0 s.cps.toList = some 0
instance (s) : Decidable (okW s) := inferInstanceAs (Decidable (_ ∧ _))
theorem str_inj {a b : Str} (h : a.cps.toList = b.cps.toList) : a = b := by
  cases a
  cases b
  congr
  exact Array.toList_inj.mp h
theorem cps_app (a b : Str) : (a ++ b).cps.toList = a.cps.toList ++ b.cps.toList := by
  rw [Str.cps_append]
  simp
theorem lits : ("<" : Str).cps.toList = [60] ∧ ("/" : Str).cps.toList = [47] ∧ (">" : Str).cps.toList = [62] ∧ ("{" : Str).cps.toList = [123] ∧ ("," : Str).cps.toList = [44] ∧ ("}" : Str).cps.toList = [125] := by decide +kernel
/-! pairs -/
def prName (x y : Str) : Str := ("<" : Str) ++ x ++ ("/" : Str) ++ y ++ (">" : Str)
theorem prName_cps (x y : Str) : (prName x y).cps.toList = 60 :: (x.cps.toList ++ 47 :: (y.cps.toList ++ [62])) := by
  unfold prName
  rw [cps_app, cps_app, cps_app, cps_app, lits.1, lits.2.1, lits.2.2.1]
  simp
theorem prName_ok {x y : Str} (hx : okW x) (hy : okW y) : okW (prName x y) := by
  refine ⟨by rw [prName_cps]; exact List.cons_ne_nil _ _, ?_⟩
  rw [prName_cps]
  show scanW 1 _ = _
  rw [scan_app, show scanW 1 x.cps.toList = some 1 from scan_up _ _ _ 1 hx.2]
  show scanW 1 (47 :: (y.cps.toList ++ [62])) = _
  show scanW 1 (y.cps.toList ++ [62]) = _
  rw [scan_app, show scanW 1 y.cps.toList = some 1 from scan_up _ _ _ 1 hy.2]
  rfl
theorem prName_inj {x y x' y' : Str} (hx : okW x) (hy : okW y) (hx' : okW x') (hy' : okW y') (e : prName x y = prName x' y') : x = x' ∧ y = y' := by
  have e1 := congrArg (fun s : Str => s.cps.toList) e
  simp only [prName_cps] at e1
  obtain ⟨a, _, b⟩ := split_u _ _ 0 47 47 _ _ (.inr rfl) (.inr rfl) hx.2 hx'.2 (List.cons.inj e1).2
  obtain ⟨c, _, _⟩ := split_u _ _ 0 62 62 [] [] (.inl rfl) (.inl rfl) hy.2 hy'.2 b
  exact ⟨str_inj a, str_inj c⟩
theorem getD_inj {names : List Str} (nd : names.Nodup) {i j : Nat} (hi : i < names.length) (hj : j < names.length) (e : names.getD i ("" : Str) = names.getD j ("" : Str)) : i = j := by
  rw [List.getD_eq_getElem?_getD, List.getD_eq_getElem?_getD, List.getElem?_eq_getElem hi, List.getElem?_eq_getElem hj] at e
  exact (List.getElem_inj nd).mp e
theorem getD_ok {P : Str → Prop} {names : List Str} (h : ∀ nm ∈ names, P nm) {i : Nat} (hi : i < names.length) : P (names.getD i ("" : Str)) := by
  rw [List.getD_eq_getElem?_getD, List.getElem?_eq_getElem hi]
  exact h _ (List.getElem_mem hi)
theorem pair_word {d1 d2 : SD} (n1 : d1.names.Nodup) (n2 : d2.names.Nodup) (w1 : ∀ nm ∈ d1.names, okW nm) (w2 : ∀ nm ∈ d2.names, okW nm) : (pairNames d1 d2).Nodup ∧ ∀ nm ∈ pairNames d1 d2, okW nm := by
  have hl := pairNames_len d1 d2
  have key : ∀ k (hk : k < (pairNames d1 d2).length), k / d2.names.length < d1.names.length ∧ k % d2.names.length < d2.names.length ∧ (pairNames d1 d2)[k] = prName (d1.names.getD (k / d2.names.length) ("" : Str)) (d2.names.getD (k % d2.names.length) ("" : Str)) := fun k hk => by
    rw [hl] at hk
    have hp := pos_of_lt_mul hk
    have h1 : k / d2.names.length < d1.names.length := Nat.div_lt_of_lt_mul (by rw [Nat.mul_comm]; exact hk)
    have h2 : k % d2.names.length < d2.names.length := Nat.mod_lt _ hp
    have hg := flat_get (fun a b => prName (d1.names.getD a ("" : Str)) (d2.names.getD b ("" : Str))) d2.names.length d1.names.length (k / d2.names.length) (k % d2.names.length) h1 h2
    have e2 : k / d2.names.length * d2.names.length + k % d2.names.length = k := by rw [Nat.mul_comm]; exact Nat.div_add_mod k _
    rw [e2] at hg
    exact ⟨h1, h2, (List.getElem?_eq_some_iff.mp hg).2⟩
  refine ⟨?_, fun nm h => ?_⟩
  · unfold List.Nodup
    rw [List.pairwise_iff_getElem]
    intro i j hi hj hij e
    obtain ⟨a1, a2, a3⟩ := key i hi
    obtain ⟨b1, b2, b3⟩ := key j hj
    rw [a3, b3] at e
    obtain ⟨e1, e2⟩ := prName_inj (getD_ok w1 a1) (getD_ok w2 a2) (getD_ok w1 b1) (getD_ok w2 b2) e
    have q1 := getD_inj n1 a1 b1 e1
    have q2 := getD_inj n2 a2 b2 e2
    have z1 := Nat.div_add_mod i d2.names.length
    have z2 := Nat.div_add_mod j d2.names.length
    rw [q1, q2] at z1
    omega
  · obtain ⟨k, hk, rfl⟩ := List.mem_iff_getElem.mp h
    obtain ⟨a1, a2, a3⟩ := key k hk
    rw [a3]
    exact prName_ok (getD_ok w1 a1) (getD_ok w2 a2)
/-! heaps -/
def joinC : List Str → List Nat
  | [] => []
  | [a] => a.cps.toList
  | a :: b :: r => a.cps.toList ++ 44 :: joinC (b :: r)
theorem join_cps (ys : List Str) : (Txt.join ("," : Str) ys).cps.toList = joinC ys := by
  have e : Txt.join ("," : Str) ys = Str.join ("," : Str) ys := StrLaws.glued_eq_join _ _
  rw [e]
  clear e
  induction ys with
  | nil => rfl
  | cons a r ih =>
    cases r with
    | nil => rfl
    | cons b r =>
      show (a ++ ("," : Str) ++ Str.join ("," : Str) (b :: r)).cps.toList = a.cps.toList ++ 44 :: joinC (b :: r)
      rw [cps_app, cps_app, lits.2.2.2.2.1, ih]
      simp
theorem joinC_inj : ∀ (x y : List Str), (∀ a ∈ x, okW a) → (∀ a ∈ y, okW a) → joinC x ++ [125] = joinC y ++ [125] → x = y
  | [], [], _, _, _ => rfl
  | [], b :: r, _, hy, e => by
    exfalso
    obtain ⟨h1, h2⟩ := hy b List.mem_cons_self
    have e1 : ∃ t, [125] = b.cps.toList ++ t := by
      cases r with
      | nil => exact ⟨_, e⟩
      | cons c r => exact ⟨44 :: joinC (c :: r) ++ [125], by rw [← List.append_assoc]; exact e⟩
    obtain ⟨t, e1⟩ := e1
    cases hb : b.cps.toList with
    | nil => exact h1 hb
    | cons c l =>
      rw [hb] at e1 h2
      have := (List.cons.inj e1).1
      subst this
      rw [scan_end (.inl rfl)] at h2
      cases h2
  | b :: r, [], hx, _, e => by
    exfalso
    obtain ⟨h1, h2⟩ := hx b List.mem_cons_self
    have e1 : ∃ t, [125] = b.cps.toList ++ t := by
      cases r with
      | nil => exact ⟨_, e.symm⟩
      | cons c r => exact ⟨44 :: joinC (c :: r) ++ [125], by rw [← List.append_assoc]; exact e.symm⟩
    obtain ⟨t, e1⟩ := e1
    cases hb : b.cps.toList with
    | nil => exact h1 hb
    | cons c l =>
      rw [hb] at e1 h2
      have := (List.cons.inj e1).1
      subst this
      rw [scan_end (.inl rfl)] at h2
      cases h2
  | a :: x, b :: y, hx, hy, e => by
    have ha := hx a List.mem_cons_self
    have hb := hy b List.mem_cons_self
    have sh : ∀ (a : Str) (x : List Str), joinC (a :: x) ++ [125] = a.cps.toList ++ (if x = [] then 125 else 44) :: (if x = [] then [] else joinC x ++ [125]) := fun a x => by
      cases x with
      | nil => rfl
      | cons c r =>
        rw [if_neg (by simp), if_neg (by simp)]
        show (a.cps.toList ++ 44 :: joinC (c :: r)) ++ [125] = _
        simp
    rw [sh, sh] at e
    have en : ∀ x : List Str, endC (if x = [] then 125 else 44) := fun x => by
      by_cases h : x = []
      · rw [if_pos h]
        exact .inl rfl
      · rw [if_neg h]
        exact .inr rfl
    obtain ⟨e1, e2, e3⟩ := split_u _ _ 0 _ _ _ _ (en x) (en y) ha.2 hb.2 e
    rw [str_inj e1]
    by_cases h : x = []
    · by_cases h' : y = []
      · rw [h, h']
      · rw [if_pos h, if_neg h'] at e2
        cases e2
    · by_cases h' : y = []
      · rw [if_neg h, if_pos h'] at e2
        cases e2
      · rw [if_neg h, if_neg h'] at e3
        rw [joinC_inj x y (fun a h => hx a (List.mem_cons_of_mem _ h)) (fun a h => hy a (List.mem_cons_of_mem _ h)) e3]
theorem joinC_scan : ∀ (x : List Str), (∀ a ∈ x, okW a) → scanW 1 (joinC x) = some 1
  | [], _ => rfl
  | [a], h => scan_up _ _ _ 1 (h a List.mem_cons_self).2
  | a :: b :: r, h => by
    show scanW 1 (a.cps.toList ++ 44 :: joinC (b :: r)) = _
    rw [scan_app, show scanW 1 a.cps.toList = some 1 from scan_up _ _ _ 1 (h a List.mem_cons_self).2]
    show scanW 1 (joinC (b :: r)) = _
    exact joinC_scan (b :: r) fun x hx => h x (List.mem_cons_of_mem _ hx)
theorem heapName_cps (names : List Str) (a : Nat) : (heapName names a).cps.toList = 123 :: (joinC ((bitsOf names.length a).map fun k => names.getD k ("" : Str)) ++ [125]) := by
  unfold heapName
  rw [cps_app, cps_app, join_cps, lits.2.2.2.1, lits.2.2.2.2.2]
  rfl
theorem map_inj_on {α β : Type} {f : α → β} : ∀ {x y : List α}, (∀ a ∈ x, ∀ b ∈ y, f a = f b → a = b) → x.map f = y.map f → x = y
  | [], [], _, _ => rfl
  | [], b :: y, _, e => by cases e
  | a :: x, [], _, e => by cases e
  | a :: x, b :: y, h, e => by
    have e1 := (List.cons.inj e).1
    have e2 := (List.cons.inj e).2
    rw [h a List.mem_cons_self b List.mem_cons_self e1, map_inj_on (fun c hc d hd => h c (List.mem_cons_of_mem _ hc) d (List.mem_cons_of_mem _ hd)) e2]
theorem bits_inj {n a b : Nat} (ha : a < 2 ^ n) (hb : b < 2 ^ n) (e : bitsOf n a = bitsOf n b) : a = b := by
  refine Nat.eq_of_testBit_eq fun i => ?_
  by_cases hi : i < n
  · have h : ∀ c : Nat, (i ∈ bitsOf n c) ↔ c.testBit i = true := fun c => ⟨fun h => (mem_bits.mp h).2, fun h => mem_bits.mpr ⟨hi, h⟩⟩
    rw [Bool.eq_iff_iff, ← h a, ← h b, e]
  · have hn : ∀ {c : Nat}, c < 2 ^ n → c.testBit i = false := fun hc => Nat.testBit_lt_two_pow (Nat.lt_of_lt_of_le hc (Nat.pow_le_pow_right (by decide) (by omega)))
    rw [hn ha, hn hb]
theorem heap_word {names : List Str} (nd : names.Nodup) (w : ∀ nm ∈ names, okW nm) : (heapNames names).Nodup ∧ ∀ nm ∈ heapNames names, okW nm := by
  have ws : ∀ a, ∀ y ∈ (bitsOf names.length a).map (fun k => names.getD k ("" : Str)), okW y := fun a y hy => by
    obtain ⟨k, hk, rfl⟩ := List.mem_map.mp hy
    exact getD_ok w (bits_lt hk)
  refine ⟨?_, fun nm h => ?_⟩
  · unfold heapNames List.Nodup
    rw [List.pairwise_map]
    refine List.Pairwise.imp_of_mem (fun {x y} hx hy hne e => hne ?_) (List.nodup_range (n := 2 ^ names.length))
    have h1 := List.mem_range.mp hx
    have h2 := List.mem_range.mp hy
    have e1 := congrArg (fun s : Str => s.cps.toList) e
    simp only [heapName_cps] at e1
    have e2 := joinC_inj _ _ (ws x) (ws y) (List.cons.inj e1).2
    exact bits_inj h1 h2 (map_inj_on (fun a ha b hb e => getD_inj nd (bits_lt ha) (bits_lt hb) e) e2)
  · obtain ⟨a, _, rfl⟩ := List.mem_map.mp h
    refine ⟨by rw [heapName_cps]; exact List.cons_ne_nil _ _, ?_⟩
    rw [heapName_cps]
    show scanW 1 _ = _
    rw [scan_app, joinC_scan _ (ws a)]
    rfl
end L2.DS
/-! Scales around scales: all that is known of them. -/
namespace L2.DS
open PySem PySem.Spec PyProof.Rows
def nmB (n : Nat) : Nat := 20 * 8 ^ n
def lbB (n : Nat) : Nat := 100 * 3 ^ n
theorem nmB_s (n : Nat) : nmB (n + 1) = nmB n * 8 := by unfold nmB; rw [Nat.pow_succ, Nat.mul_assoc]
theorem lbB_s (n : Nat) : lbB (n + 1) = lbB n * 3 := by unfold lbB; rw [Nat.pow_succ, Nat.mul_assoc]
/-- all that is known of a scale that is n deep at most *above* a family -/
structure TrOk (n : Nat) (d : SD) : Prop where
  ok : SdOk d
  rg : Reg d
  wd : ∀ nm ∈ d.names, okW nm
  nl : ∀ nm ∈ d.names, nm.length ≤ nmB n
  ll : d.label.length ≤ lbB n
  d1 : 1 ≤ d.dep
  d2 : d.dep ≤ n + 1
theorem TrOk.up {n : Nat} {d : SD} (h : TrOk n d) : TrOk (n + 1) d := by
  have e := h.d2
  exact ⟨h.ok, h.rg, h.wd, fun nm m => Nat.le_trans (h.nl nm m) (by rw [nmB_s]; omega), Nat.le_trans h.ll (by rw [lbB_s]; omega), h.d1, by omega⟩
/-! families -/
theorem cnt_ok {t : Nat} (ht : t < 63) (up : Bool) : SdOk (cntSD t up) := by
  have hl : (cntSD t up).names.length = t + 2 := cwords_len t
  have h2 : (cntSD t up).label.length ≤ 100 := (clabel_len t (by omega) up).1
  refine ⟨cwords_nodup t (by omega), by omega, by omega, fun nm h => Nat.le_trans (cwords_short t (by omega) nm h) (by decide), by omega, ?_, ?_, fun a b ha hb => ?_, fun a b ha hb => ?_⟩
  · show (0 : Int) ≤ 0 ∧ (0 : Int) < ((cntSD t up).names.length : Nat)
    omega
  · show (0 : Int) ≤ 1 ∧ (1 : Int) < ((cntSD t up).names.length : Nat)
    omega
  · rw [hl] at ha hb ⊢
    show 0 ≤ cth (t : Nat) a b ∧ cth (t : Nat) a b < ((t + 2 : Nat) : Int)
    unfold cth cthen
    split
    · omega
    · split <;> omega
  · rw [hl] at ha hb ⊢
    show 0 ≤ cjn up a b ∧ cjn up a b < ((t + 2 : Nat) : Int)
    unfold cjn ceit
    split
    · omega
    · split <;> omega
theorem okW_cnt : ∀ t, t < 63 → ∀ nm ∈ (("never" : Str) :: cwords t), okW nm := by decide +kernel
theorem tr_cnt {t : Nat} (ht : t < 63) (up : Bool) : TrOk 0 (cntSD t up) :=
  ⟨cnt_ok ht up, count_reg t up, okW_cnt t ht, fun nm h => Nat.le_trans (cwords_short t (by omega) nm h) (by decide), (clabel_len t (by omega) up).1, Int.le_refl _, by show (1 : Int) ≤ 0 + 1; decide⟩
/-! scales around scales -/
theorem depL1b {d : SD} {n : Nat} (h1 : 1 ≤ d.dep) (h2 : d.dep ≤ (n : Nat) + 1) : 1 ≤ depL [d] ∧ depL [d] ≤ ((n + 1 : Nat) : Int) + 1 := by
  rw [depL1 h1]
  omega
theorem depL2b {d1 d2 : SD} {n : Nat} (h1 : 1 ≤ d1.dep) (h2 : d1.dep ≤ (n : Nat) + 1) (h3 : 1 ≤ d2.dep) (h4 : d2.dep ≤ (n : Nat) + 1) : 1 ≤ depL [d1, d2] ∧ depL [d1, d2] ≤ ((n + 1 : Nat) : Int) + 1 := by
  simp only [depL, List.foldl_cons, List.foldl_nil]
  split <;> split <;> omega
theorem getD_le {names : List Str} {L : Nat} (h : ∀ nm ∈ names, nm.length ≤ L) {i : Nat} (hi : i < names.length) : (names.getD i ("" : Str)).length ≤ L := getD_ok h hi
/-- some scale of that kind -/
def IsTr (K : PySem.W.Frag) (Cs : List Addr) (n : Nat) : HR := fun v G => ∃ d, IsScD K Cs d v G ∧ TrOk n d
instance (K Cs n) : Mon (IsTr K Cs n) := ⟨fun s ⟨d, a, b⟩ => ⟨d, Mon.mon s a, b⟩⟩
end L2.DS
/-! The rules of regular scales as sides; the first fault. -/
namespace L2.DS
open PySem PySem.Spec PyProof.Rows
/-! ### general -/
/-- a tuple of values -/
def IsTup (L : List V) : HR := fun v G => ∃ p, v = .ref p ∧ G p = some (.tup L)
instance (L) : Mon (IsTup L) := ⟨fun s ⟨p, e, h⟩ => ⟨p, e, s _ _ h⟩⟩
/-- a tuple of two data -/
def IsPd (K : PySem.W.Frag) (l r : PyData) : HR := fun v G => ∃ p u w, v = .ref p ∧ SqT K G p [u, w] ∧ Dp K G u l ∧ Dp K G w r
instance (K l r) : Mon (IsPd K l r) := ⟨fun s ⟨p, u, w, e, h, a, b⟩ => ⟨p, u, w, e, same_t s h, dp_mon s a, dp_mon s b⟩⟩
/-! ### sides -/
section
variable {S : SR} {n : Nat} {t0 ta tb : TE} {σ : L2.St} {G : Hp} {K : PySem.W.Frag} {Cs : List Addr} {d : SD} {x : Addr} {E : XK} {a b : Nat}
theorem SdOk.T {d : SD} (o : SdOk d) {a b : Nat} (ha : a < d.names.length) (hb : b < d.names.length) : ((d.T a b : Nat) : Int) = d.th a b ∧ d.T a b < d.names.length := by
  have := o.th a b ha hb
  unfold SD.T
  omega
theorem SdOk.J {d : SD} (o : SdOk d) {a b : Nat} (ha : a < d.names.length) (hb : b < d.names.length) : ((d.J a b : Nat) : Int) = d.jn a b ∧ d.J a b < d.names.length := by
  have := o.jn a b ha hb
  unfold SD.J
  omega
end
/-! ### the first worths for which two sides are not equal -/
def wordsF (i : Nat) : Str := (["join-same", "join-swap", "join-group", "join-never", "then-group", "then-still", "then-never", "spread-left", "spread-right"] : List Str).getD i ("" : Str)
def IsFn : Option (List Nat) → HR
  | none => IsV .non
  | some t => fun v G => ∃ p, v = .ref p ∧ G p = some (.tup (t.map fun k => V.int (k : Nat)))
instance : (o : Option (List Nat)) → Mon (IsFn o)
  | none => inferInstanceAs (Mon (IsV .non))
  | some t => ⟨fun s ⟨p, e, h⟩ => ⟨p, e, s _ _ h⟩⟩
def IsFt (K : PySem.W.Frag) (d : SD) : Option (Nat × List Nat) → HR
  | none => IsV .non
  | some (i, t) => fun v G => ∃ p q, v = .ref p ∧ SqT K G p [.str (wordsF i), .ref q] ∧ G q = some (.tup (t.map fun k => V.str (d.names.getD k ("" : Str))))
instance (K d) : (o : Option (Nat × List Nat)) → Mon (IsFt K d o)
  | none => inferInstanceAs (Mon (IsV .non))
  | some (i, t) => ⟨fun s ⟨p, q, e, h, h'⟩ => ⟨p, q, e, same_t s h, s _ _ h'⟩⟩
end L2.DS
/-! Scales that a law makes. -/
namespace L2.DS
open PySem PySem.Spec PyProof.Rows
/-- a scale of which P tells -/
def IsScP (K : PySem.W.Frag) (Cs : List Addr) (P : SD → Prop) : HR := fun v G => ∃ d, IsScD K Cs d v G ∧ P d
instance (K Cs P) : Mon (IsScP K Cs P) := ⟨fun s ⟨d, a, b⟩ => ⟨d, Mon.mon s a, b⟩⟩
abbrev ScOR (P : SD → Prop) : OR := fun _ _ fs' G' => ∃ d, P d ∧ ScI d fs' G' ∧ ∀ f ∈ metF, fs'.lookup f = none
section
variable {S : SR} {n ka kb : Nat} {te tk tl tr : TE} {t tks : TA} {σ : L2.St} {G : Hp} {K : PySem.W.Frag} {Cs : List Addr} {C : Addr} {E : XK} {P P1 P2 : SD → Prop} {Pm : Int → Prop} {Ps : Str → Prop} {R : OR} {RA RB : HRs} {v : V} {m1 m2 : Nat} {gV : List V → List V → List V}
theorem scp_of (hCs : C ∈ Cs) (hC : ClsOk K C) (h : IsO C (ScOR P) v G) : IsScP K Cs P v G := by
  obtain ⟨x, dx, fs, G', rfl, gx, s, d, hp, a, b⟩ := h
  have s' : Same G' G := fun c o e => s c o (by rw [upd_ne (ne_of_none e gx)]; exact e)
  have hx := s _ _ upd_same
  exact ⟨d, ⟨x, rfl, ScI.to hCs hC hx (a.mono' s') b⟩, hp⟩
theorem ea_1I (h : Ev S n ka te σ G (IsI Pm)) : EvA S n (ka + 0) (tCons te tNil) σ G (RCons (IsI Pm) RNil) := ea_cons h ea_nil
theorem one_I {vs : List V} (h : RCons (IsI Pm) RNil vs G) : ∃ i, vs = [.int i] ∧ Pm i := by
  obtain ⟨_, _, rfl, ⟨i, hi, rfl⟩, e⟩ := h
  obtain rfl := (show _ = [] from e)
  exact ⟨i, rfl, hi⟩
theorem ev_mkCount0 (st : Stab S) (iC : C ∈ Cs) (oC : ClsOk K C) (e : Ev S n ka te σ G (IsI Pm)) (hm : ∀ m, Pm m → 0 ≤ m ∧ m < 63) (hP : ∀ (m : Nat), Pm (m : Nat) → P (cntSD m true)) :
    Ev S n (ka + 0) (tMake C (spI (PCsI C)) [.str "up"] E (tCons te tNil)) σ G (IsScP K Cs P) :=
  (ev_makeW (R := ScOR P) st (ea_1I e) fun vs G' s' h => by
    obtain ⟨i, rfl, hi⟩ := one_I h
    have hb := hm i hi
    obtain ⟨m, rfl⟩ : ∃ m : Nat, i = (m : Nat) := ⟨i.toNat, by omega⟩
    exact ⟨_, ⟨rfl, rfl, m, true, by omega, rfl, rfl⟩, fun a b fs G h => ⟨cntSD m true, hP m hi, h.1, fun f hf => h.2 f (by revert f; decide +kernel) (by revert f; decide +kernel) (by revert f; decide +kernel)⟩⟩).imp fun v G' s' h => scp_of iC oC h
/-- .. the place any -/
theorem ev_wordP {ws : List Str} (st : Stab S) (hs : EvA S n ka t σ G (IsVs (ws.map V.str))) (hl : ws.length ≤ 1000) (e : Ev S (n + ka) kb te σ G (IsI fun i => 0 ≤ i ∧ i < ws.length)) : Ev S n (ka + kb) (tOp (rIxA K) (tLst t) te) σ G (IsS fun s => s ∈ ws) :=
  ev_op (Ra := IsNew G (.lst (ws.map V.str))) (Rb := IsI fun i => 0 ≤ i ∧ i < ws.length) (ev_lstN st hs (by rw [List.length_map]; omega)) e fun x y G' s' hx hy => by
    obtain ⟨p, rfl, _, g⟩ := hx
    obtain ⟨i, hi, rfl⟩ := hy
    obtain ⟨j, rfl⟩ : ∃ j : Nat, i = (j : Nat) := ⟨i.toNat, by omega⟩
    have hj : j < ws.length := by omega
    refine rv_imp (v_ixL st (SqL.of g) (atI_nat (v := .str ws[j]) (by rw [List.getElem?_map, List.getElem?_eq_getElem hj]; rfl))) fun v G' _ e => ?_
    obtain rfl := (show _ = _ from e)
    exact ⟨_, List.getElem_mem hj, rfl⟩
theorem ev_ScD {d : SD} {x : Addr} (h : ScD K Cs d x G) (e : Ev S n ka te σ G (IsV (.ref x))) : Ev S n ka te σ G (IsScP K Cs fun d' => d' = d) := e.imp fun v G' s' h' => ⟨d, ⟨x, h', h.mono s'⟩, rfl⟩
theorem ev_scpW (e : Ev S n ka te σ G (IsScP K Cs P1)) (i : ∀ d, P1 d → P d) : Ev S n ka te σ G (IsScP K Cs P) := e.imp fun v G' _ ⟨d, h, hp⟩ => ⟨d, h, i d hp⟩
end
end L2.DS
/-! Operators of own classes. -/
namespace L2.DS
open PySem PySem.Spec PyProof.Rows
/-! ### x != y by an own __eq__ -/
/-! ### rules -/
/-! ### own errors without an own __init__ -/
/-- .. over ValueError -/
structure Ex0C (K : PySem.W.Frag) (C : Addr) : Prop where
  q : PySem.W.excIn K C (eTail "ValueError") "ValueError.__new__" = true
  kC : PySem.W.keepIn K (.ref C) = true
  b : PySem.W.subIn K (.ref C) (.type "BaseException") = some true
  t : PySem.W.typeIn K (.ref C) = some (.type "type")
/-- raise C() -/
def tRaise0 (C : Addr) (W : WX) : TS := fun _ σ H => W (.ref C) none σ H
theorem q_raise0 {W : WX} {C : Addr} {u : TS} {σ : L2.St} {H : Hp} {nx bk ct : L2.St → Hp → Prop} {rt : VK} (h : W (.ref C) none σ H) : tSeq (tRaise0 C W) u (Ends.mk nx rt bk ct) σ H := h
/-! ### while -/
/-! ### errors that go on -/
theorem passE {X : Cx} {E : XK} (tk : Takes X (fun cls d _ H => E cls d H)) : Passes (L2.CX X.prog X.w) X E := fun pins σ H s e s' I c => passAt tk σ pins H s e s' I c
end L2.DS
/-! Worths: what their defs promise; powers and stars. -/
namespace L2.DS
open PySem PySem.Spec PyProof.Rows
def wtF : List Str := ["scale", "place", "name"]
/-- a worth p of the scale d stands at w -/
def WtAt (K : PySem.W.Frag) (Cs : List Addr) (CW : Addr) (d : SD) (p : Nat) (w : Addr) (G : Hp) : Prop := ∃ dx fs x, G w = some (.ins CW dx fs) ∧ fs.lookup ("scale" : Str) = some (.ref x) ∧ fs.lookup ("place" : Str) = some (.int (p : Nat)) ∧ fs.lookup ("name" : Str) = some (.str (d.names.getD p ("" : Str))) ∧
  ScD K Cs d x G ∧ p < d.names.length ∧ ∀ f, f ∉ wtF → fs.lookup f = none
theorem WtAt.mono {K : PySem.W.Frag} {Cs : List Addr} {CW : Addr} {d : SD} {p : Nat} {w : Addr} {G G' : Hp} (h : WtAt K Cs CW d p w G) (s : Same G G') : WtAt K Cs CW d p w G' := by
  obtain ⟨dx, fs, x, a, b, c, e, f, g⟩ := h
  exact ⟨dx, fs, x, s _ _ a, b, c, e, f.mono s, g⟩
def IsWt (K : PySem.W.Frag) (Cs : List Addr) (CW : Addr) (d : SD) (p : Nat) : HR := fun v G => ∃ w, v = .ref w ∧ WtAt K Cs CW d p w G
instance (K Cs CW d p) : Mon (IsWt K Cs CW d p) := ⟨fun s ⟨w, e, h⟩ => ⟨w, e, h.mono s⟩⟩
section
variable {S : SR} {n k ka kb : Nat} {te ta tb : TE} {t : TA} {σ : L2.St} {G : Hp} {K : PySem.W.Frag} {Cs : List Addr} {CW : Addr} {d : SD} {p : Nat} {w : Addr} {E : XK}
theorem WtAt.at (h : WtAt K Cs CW d p w G) : ∃ dx fs, G w = some (.ins CW dx fs) := by
  obtain ⟨dx, fs, x, a, _⟩ := h
  exact ⟨dx, fs, a⟩
end
/-! ### promises -/
/-! ### powers -/
def pw (d : SD) (p : Nat) : Nat → Nat
  | 0 => d.sl.toNat
  | n + 1 => d.T (pw d p n) p
theorem SdOk.sl' {d : SD} (o : SdOk d) : d.sl.toNat < d.names.length := by have := o.sl; omega
theorem pw_lt {d : SD} (o : SdOk d) {p : Nat} (hp : p < d.names.length) : ∀ n, pw d p n < d.names.length
  | 0 => o.sl'
  | n + 1 => (o.T (pw_lt o hp n) hp).2
/-- the first L powers are told apart -/
def Dst (d : SD) (p L : Nat) : Prop := ∀ i j, i < j → j < L → pw d p i ≠ pw d p j
/-- .. and the next one is among them, at b -/
structure Orb (d : SD) (p L b : Nat) : Prop where
  ds : Dst d p L
  lt : b < L
  eq : pw d p L = pw d p b
def pwL (d : SD) (p L : Nat) : List Nat := (List.range L).map (pw d p)
theorem pwL_len (d : SD) (p L : Nat) : (pwL d p L).length = L := by unfold pwL; rw [List.length_map, List.length_range]
theorem pwL_mem {d : SD} {p L x : Nat} : x ∈ pwL d p L ↔ ∃ i, i < L ∧ pw d p i = x := by
  unfold pwL
  rw [List.mem_map]
  constructor
  · rintro ⟨i, hi, e⟩
    exact ⟨i, List.mem_range.mp hi, e⟩
  · rintro ⟨i, hi, e⟩
    exact ⟨i, List.mem_range.mpr hi, e⟩
/-- boxes and pigeons -/
theorem pig : ∀ (n : Nat) (l : List Nat), l.Nodup → (∀ x ∈ l, x < n) → l.length ≤ n
  | 0, [], _, _ => Nat.le_refl 0
  | 0, a :: _, _, h => absurd (h a List.mem_cons_self) (Nat.not_lt_zero _)
  | n + 1, l, nd, h => by
    have z := pig n (l.erase n) (nd.erase n) fun x hx => by
      have h1 := h x (List.mem_of_mem_erase hx)
      have h2 : x ≠ n := ((List.Nodup.mem_erase_iff nd).mp hx).1
      omega
    by_cases hm : n ∈ l
    · rw [List.length_erase_of_mem hm] at z
      omega
    · rw [List.erase_of_not_mem hm] at z
      omega
theorem Dst.len {d : SD} {p L : Nat} (o : SdOk d) (hp : p < d.names.length) (h : Dst d p L) : L ≤ d.names.length := by
  have z := pig d.names.length (pwL d p L) ?_ fun x hx => by
    obtain ⟨i, _, rfl⟩ := pwL_mem.mp hx
    exact pw_lt o hp i
  · rw [pwL_len] at z
    exact z
  · unfold pwL List.Nodup
    rw [List.pairwise_map]
    refine List.Pairwise.imp_of_mem (fun {x y} hx hy hxy => h x y hxy (List.mem_range.mp hy)) (List.pairwise_lt_range (n := L))
/-! ### stars -/
/-- the join of the powers 0 to n -/
def stj (d : SD) (p : Nat) : Nat → Nat
  | 0 => d.sl.toNat
  | n + 1 => d.J (stj d p n) (pw d p (n + 1))
/-- a.star -/
def IsStar (K : PySem.W.Frag) (Cs : List Addr) (CW : Addr) (d : SD) (p : Nat) : HR := fun v G => ∃ L b, Orb d p L b ∧ IsWt K Cs CW d (stj d p (L - 1)) v G
instance (K Cs CW d p) : Mon (IsStar K Cs CW d p) := ⟨fun s ⟨L, b, o, h⟩ => ⟨L, b, o, Mon.mon s h⟩⟩
/-! ### lists of places -/
abbrev nVs (l : List Nat) : List V := l.map fun k => V.int (k : Nat)
/-! ### operators by values -/
/-- many to draw of -/
theorem ev_pickW {st cl : Addr} {n ka : Nat} {t : TA} {σ : L2.St} {G : Hp} {many : Int} {E : XK} (h : EvA (Src st cl) n ka t σ G (IsVs [.ref st, .int many])) (h1 : 1 ≤ many) (h2 : many < 2 ^ 2000) (hn : n + ka < 2 ^ 60) : Ev (Src st cl) n (ka + 1) (tCall sp_pick [] E t) σ G (IsI fun r => 0 ≤ r ∧ r < many) :=
  (ev_callSV (kb := 1) (R := IsI fun r => 0 ≤ r ∧ (r < many ∨ (many < 2 ∧ r = 0))) (ws := [.ref st, .int many]) h fun G' s' => ⟨many, rfl, h2, fun _ => hn, rfl, rfl⟩).imp fun v G' s' ⟨r, hr, e⟩ => ⟨r, by omega, e⟩
end L2.DS
/-! The laws' own tables of places, and the table scale made of them. -/
namespace L2.DS
open PySem PySem.Spec PyProof.Rows
/-- the scale that a table of places makes -/
def tabSD (names : List Str) (nv sl : Nat) (th jn : Nat → Nat → Int) : SD := ⟨tbLab names (names.getD nv ("" : Str)) (names.getD sl ("" : Str)) (rowsS names jn) (rowsS names th), names, (nv : Nat), (sl : Nat), 1, th, jn⟩
/-- what is known of such tables -/
structure TbIs (names : List Str) (nv sl : Nat) (th jn : Nat → Nat → Int) : Prop where
  l1 : 1 ≤ names.length
  l2 : names.length ≤ 16
  nd : names.Nodup
  ok : ∀ nm ∈ names, okNm nm = true
  so : ∀ nm ∈ names, PyData.strOk nm = true
  nv : nv < names.length
  sl : sl < names.length
  th : ∀ a b, a < names.length → b < names.length → 0 ≤ th a b ∧ th a b < names.length
  jn : ∀ a b, a < names.length → b < names.length → 0 ≤ jn a b ∧ jn a b < names.length
section
variable {names : List Str} {nv sl : Nat} {th jn : Nat → Nat → Int}
theorem TbIs.tb (h : TbIs names nv sl th jn) : TbOk names (rowsS names jn) (rowsS names th) (names.getD nv ("" : Str)) (names.getD sl ("" : Str)) := by
  have rj := rowsS_ok h.jn
  have rt := rowsS_ok h.th
  exact ⟨h.l1, h.l2, h.nd, h.ok, (idx_getD h.nd h.nv).1, (idx_getD h.nd h.sl).1, rj.1, rj.2, rt.1, rt.2⟩
theorem TbIs.sd (h : TbIs names nv sl th jn) : SdOk (tabSD names nv sl th jn) ∧ (tabSD names nv sl th jn).label.length ≤ 20000 := by
  have z := tbl_sd h.tb h.sl h.th
  have l2 := h.l2
  refine ⟨⟨h.nd, h.l1, by show names.length ≤ 64; omega, fun nm m => by have := okNm_len (h.ok nm m); omega, Nat.le_trans z.2 (by decide), ?_, ?_, h.th, h.jn⟩, z.2⟩
  · have := h.nv
    show (0 : Int) ≤ (nv : Nat) ∧ ((nv : Nat) : Int) < ((names.length : Nat) : Int)
    omega
  · have := h.sl
    show (0 : Int) ≤ (sl : Nat) ∧ ((sl : Nat) : Int) < ((names.length : Nat) : Int)
    omega
theorem ScIs.congr {label : Str} {nv sl dep : Int} {th jn th' jn' : Nat → Nat → Int} {fs : List (Str × V)} {G : Hp} (h : ScIs label names nv sl dep th jn fs G) (e1 : ∀ a b, a < names.length → b < names.length → th a b = th' a b) (e2 : ∀ a b, a < names.length → b < names.length → jn a b = jn' a b) : ScIs label names nv sl dep th' jn' fs G := by
  have tab : ∀ {p : Addr} {f g : Nat → Nat → Int}, (∀ a b, a < names.length → b < names.length → f a b = g a b) → Tab G p names.length f → Tab G p names.length g := by
    intro p f g e ⟨q, ys, e0, gp, l, r⟩
    refine ⟨q, ys, e0, gp, l, fun i y hi => ?_⟩
    obtain ⟨q2, zs, e3, g2, l2, r2⟩ := r i y hi
    refine ⟨q2, zs, e3, g2, l2, fun j z hj => ?_⟩
    have hi' : i < names.length := by have := (List.getElem?_eq_some_iff.mp hi).1; omega
    have hj' : j < names.length := by have := (List.getElem?_eq_some_iff.mp hj).1; omega
    have := r2 j z hj
    rw [show z = _ from this, e i j hi' hj']
    rfl
  obtain ⟨a, b, c, d, e, f, g, ⟨p, hp, hpt⟩, ⟨q, hq, hqt⟩⟩ := h
  exact ⟨a, b, c, d, e, f, g, ⟨p, hp, tab e1 hpt⟩, ⟨q, hq, tab e2 hqt⟩⟩
theorem ScD.congr {K : PySem.W.Frag} {Cs : List Addr} {d d' : SD} {x : Addr} {G : Hp} (h : ScD K Cs d x G) (e1 : d.label = d'.label) (e2 : d.names = d'.names) (e3 : d.nv = d'.nv) (e4 : d.sl = d'.sl) (e5 : d.dep = d'.dep) (e6 : ∀ a b, a < d.names.length → b < d.names.length → d.th a b = d'.th a b) (e7 : ∀ a b, a < d.names.length → b < d.names.length → d.jn a b = d'.jn a b) : ScD K Cs d' x G := by
  obtain ⟨C, hC, oC, dx, fs, gx, hs, hm⟩ := h
  refine ⟨C, hC, oC, dx, fs, gx, ?_, hm⟩
  rw [← e1, ← e2, ← e3, ← e4, ← e5]
  exact hs.congr e6 e7
theorem TbIs.scd {K : PySem.W.Frag} {Cs : List Addr} {x : Addr} {G : Hp} (h : TbIs names nv sl th jn) (s : ScD K Cs ⟨tbLab names (names.getD nv ("" : Str)) (names.getD sl ("" : Str)) (rowsS names jn) (rowsS names th), names, (names.idxOf (names.getD nv ("" : Str)) : Nat), (names.idxOf (names.getD sl ("" : Str)) : Nat), 1, idxT names (rowsS names th), idxT names (rowsS names jn)⟩ x G) : ScD K Cs (tabSD names nv sl th jn) x G :=
  s.congr rfl rfl (by show ((names.idxOf (names.getD nv ("" : Str)) : Nat) : Int) = (nv : Nat); rw [(idx_getD h.nd h.nv).2]) (by show ((names.idxOf (names.getD sl ("" : Str)) : Nat) : Int) = (sl : Nat); rw [(idx_getD h.nd h.sl).2]) rfl (fun a b ha hb => idxT_rows h.nd h.th ha hb) fun a b ha hb => idxT_rows h.nd h.jn ha hb
end
/-- the laws' rows of a table scale: names, joins, products, never, still, the scale -/
def TbAt (K : PySem.W.Frag) (Cs : List Addr) (names : List Str) (nv sl : Nat) (th jn : Nat → Nat → Int) (p : Addr) (G : Hp) : Prop := ∃ pn pj pp x, G p = some (.lst [.ref pn, .ref pj, .ref pp, .int (nv : Nat), .int (sl : Nat), .ref x]) ∧ G pn = some (.lst (names.map V.str)) ∧ TabN G pj names.length jn ∧ TabN G pp names.length th ∧ ScD K Cs (tabSD names nv sl th jn) x G
theorem TbAt.mono {K : PySem.W.Frag} {Cs : List Addr} {names : List Str} {nv sl : Nat} {th jn : Nat → Nat → Int} {p : Addr} {G G' : Hp} (h : TbAt K Cs names nv sl th jn p G) (s : Same G G') : TbAt K Cs names nv sl th jn p G' := by
  obtain ⟨pn, pj, pp, x, a, b, c, d, e⟩ := h
  exact ⟨pn, pj, pp, x, s _ _ a, s _ _ b, c.mono s, d.mono s, e.mono s⟩
def IsTb (K : PySem.W.Frag) (Cs : List Addr) (P : SD → Prop) : HR := fun v G => ∃ (p : Addr) (names : List Str) (nv sl : Nat) (th jn : Nat → Nat → Int), v = .ref p ∧ TbAt K Cs names nv sl th jn p G ∧ TbIs names nv sl th jn ∧ P (tabSD names nv sl th jn)
instance (K Cs P) : Mon (IsTb K Cs P) := ⟨fun s ⟨p, names, nv, sl, th, jn, e, a, b, c⟩ => ⟨p, names, nv, sl, th, jn, e, a.mono s, b, c⟩⟩
section
variable {S : SR} {n m ka kb : Nat} {te tn tj tp t1 t2 el : TE} {t : TA} {σ : L2.St} {G : Hp} {K : PySem.W.Frag} {Cs : List Addr} {CT : Addr} {E : XK} {names : List Str} {i r c ja jb : Nat} {p pn pt : Addr} {ff : Nat → Nat → Int} {nv sl : Nat} {th jn : Nat → Nat → Int}
/-- TableScale(names, joins, products, never = .., still = ..) -/
theorem ev_mkTab (st : Stab S) (iT : CT ∈ Cs) (oT : ClsOk K CT) (T : TbIs names nv sl th jn) (en : Ev S n 0 tn σ G (IsNew G (.lst (names.map V.str)))) (ej : Ev S n 0 tj σ G (fun v G' => ∃ p, v = .ref p ∧ TabS G' p (rowsS names jn))) (ep : Ev S n 0 tp σ G (fun v G' => ∃ p, v = .ref p ∧ TabS G' p (rowsS names th)))
    (e1 : Ev S n 0 t1 σ G (IsV (.str (names.getD nv ("" : Str))))) (e2 : Ev S n 0 t2 σ G (IsV (.str (names.getD sl ("" : Str))))) :
    Ev S n 0 (tMakeK CT 3 2 (spI (PTbI CT)) (fun vs zs => vs ++ zs) E (tCons tn (tCons tj (tCons tp tNil))) (tCons t1 (tCons t2 tNil))) σ G (fun v G' => ∃ x, v = .ref x ∧ ScD K Cs (tabSD names nv sl th jn) x G') := by
  have mj : Mon (fun v G' => ∃ p, v = V.ref p ∧ TabS G' p (rowsS names jn)) := ⟨fun s ⟨p, e, h⟩ => ⟨p, e, h.mono s⟩⟩
  have mp : Mon (fun v G' => ∃ p, v = V.ref p ∧ TabS G' p (rowsS names th)) := ⟨fun s ⟨p, e, h⟩ => ⟨p, e, h.mono s⟩⟩
  have ms : Mons (RCons (IsNew G (.lst (names.map V.str))) (RCons (fun v G' => ∃ p, v = V.ref p ∧ TabS G' p (rowsS names jn)) (RCons (fun v G' => ∃ p, v = V.ref p ∧ TabS G' p (rowsS names th)) RNil))) := inferInstance
  refine (ev_makeKR (ka := 0) (kb := 0) (R := fun _ _ fs' G' => ScIs (tbLab names (names.getD nv ("" : Str)) (names.getD sl ("" : Str)) (rowsS names jn) (rowsS names th)) names (names.idxOf (names.getD nv ("" : Str)) : Nat) (names.idxOf (names.getD sl ("" : Str)) : Nat) 1 (idxT names (rowsS names th)) (idxT names (rowsS names jn)) fs' G' ∧ (∀ f, f ∉ scF → f ∉ tbF → fs'.lookup f = none)) (RA := RCons (IsNew G (.lst (names.map V.str))) (RCons (fun v G' => ∃ p, v = V.ref p ∧ TabS G' p (rowsS names jn)) (RCons (fun v G' => ∃ p, v = V.ref p ∧ TabS G' p (rowsS names th)) RNil))) (zs := [.str (names.getD nv ("" : Str)), .str (names.getD sl ("" : Str))]) st (ea_cons en (ea_cons ej (ea_cons ep ea_nil))) (ea_consV e1 (ea_consV e2 ea_nilV)) (fun vs G' h => ?_) rfl fun vs G' s' h => ?_).imp fun v G' s' h => ?_
  · obtain ⟨_, _, rfl, _, _, _, rfl, _, _, _, rfl, _, e⟩ := h
    obtain rfl := (show _ = [] from e)
    rfl
  · obtain ⟨_, _, rfl, ⟨a, rfl, _, ga⟩, _, _, rfl, ⟨b, rfl, tb⟩, _, _, rfl, ⟨c, rfl, tc⟩, e⟩ := h
    obtain rfl := (show _ = [] from e)
    exact ⟨_, fun x => rfl, rfl, rfl, a, b, c, names, rowsS names jn, rowsS names th, _, _, rfl, ga, tb, tc, T.tb, rfl⟩
  · obtain ⟨x, e, hx⟩ := ScC.of h fun a b fs' G2 h => ⟨h.1, fun f hf => h.2 f (by revert f; decide +kernel) (by revert f; decide +kernel)⟩
    exact ⟨x, e, T.scd ⟨CT, iT, oT, hx⟩⟩
end
/-! ### the five sorts of regular tables -/
/-! ### a list that was newly made is changed -/
/-- a row newly made -/
def IsIRn (F : Hp) (n : Nat) (f : Nat → Int) : HR := IsNew F (.lst ((List.range n).map fun b => V.int (f b)))
instance (F n f) : Mon (IsIRn F n f) := inferInstanceAs (Mon (IsNew _ _))
/-! ### rows told apart -/
end L2.DS
/-! Residuals and stars on regular scales; joins of lists of places. -/
/-! Lists of things of one kind that grow; the values of and, or, not of worths. -/
namespace L2.DS
open PySem PySem.Spec PyProof.Rows
/-- n things of one kind -/
def AllR (R : HR) (n : Nat) : HRs := fun xs G => ∃ ss : List Nat, RL (fun _ => R) ss xs G ∧ ss.length = n
instance (R : HR) [Mon R] (n : Nat) : Mons (AllR R n) := ⟨fun s ⟨ss, r, l⟩ => ⟨ss, rl_mon s r, l⟩⟩
theorem AllR.len {R : HR} {n : Nat} {xs : List V} {G : Hp} (h : AllR R n xs G) : xs.length = n := by
  obtain ⟨ss, r, l⟩ := h
  rw [rl_len r, l]
theorem AllR.get {R : HR} {n i : Nat} {xs : List V} {G : Hp} (h : AllR R n xs G) (hi : i < n) : ∃ v, xs[i]? = some v ∧ R v G := by
  obtain ⟨ss, r, l⟩ := h
  exact rl_get r (List.getElem?_eq_getElem (by omega))
/-- a list newly made of things that stood before it -/
def IsNXF (S : SR) (G0 : Hp) (RA : HRs) : HR := fun v G => ∃ F p xs m J, S m F J ∧ v = .ref p ∧ Same G0 F ∧ F p = none ∧ Same F G ∧ RA xs F ∧ G p = some (.lst xs)
instance (S G0 RA) : Mon (IsNXF S G0 RA) := ⟨fun s ⟨F, p, xs, m, J, z, e, a, b, c, d, g⟩ => ⟨F, p, xs, m, J, z, e, a, b, c.trans s, d, s _ _ g⟩⟩
section
variable {S : SR} {n k ka kb m i : Nat} {te to : TE} {t : TA} {σ : L2.St} {G : Hp} {K : PySem.W.Frag} {R : HR} {p q : Addr} {xs ys : List V}
theorem ev_IP {Pm : Int → Prop} {j : Int} (e : Ev S n k te σ G (IsV (.int j))) (h : Pm j) : Ev S n k te σ G (IsI Pm) := e.imp fun v G' s' e => ⟨j, h, e⟩
theorem Fr.new {S : SR} {G H F G1 H1 : Hp} {D : Addr} {o : HO} (f : Fr S G H G1 H1) (a : Same G F) (hF : F D = none) (hD : G1 D = some o) : H D = none := (f.n D o hD).resolve_left fun z => by rw [a _ _ z] at hF; cases hF
end
/-! ### worths of one scale -/
/-- some worth of d -/
def IsWtA (K : PySem.W.Frag) (Cs : List Addr) (CW : Addr) (d : SD) : HR := fun v G => ∃ (w : Addr) (p : Nat), v = .ref w ∧ WtAt K Cs CW d p w G
instance (K Cs CW d) : Mon (IsWtA K Cs CW d) := ⟨fun s ⟨w, p, e, h⟩ => ⟨w, p, e, h.mono s⟩⟩
section
variable {S : SR} {n k ka kb kc : Nat} {te ta tb tc : TE} {t : TA} {σ : L2.St} {G : Hp} {K : PySem.W.Frag} {Cs : List Addr} {CW CM : Addr} {d : SD} {p q r : Nat} {a b x : Addr} {E : XK} {res : SD → Nat → Nat → HR}
theorem ev_andT (st : Stab S) (h1 : Ev S n ka ta σ G (IsV (.bl true))) (h2 : Ev S (n + ka) kb tb σ G (IsV (.bl true))) : Ev S n (ka + kb) (tAndV ta tb) σ G (IsV (.bl true)) := ev_andV st h1 fun _ => h2
end
end L2.DS
/-! Texts cut into words; lists of lists that grow and are closed. -/
namespace L2.DS
open PySem PySem.Spec PyProof.Rows
/-! ### a def in which a token is out -/
section
variable {X : Cx} {o e : Expr} {to te : TE}
theorem pmk_ownS {C : Addr} {m x : Str} {j : Nat} {p p2 pos : Pos} (e : Ex0C X.K C) (gC : X.mg x = some (.ref C)) (hg : Gl X x := by rfl) (hdb : (x == ("__debug__" : Str)) = false := by decide) : L2.PMk X (.Call (.Name x p) [.Constant (.str m) j p2] [] pos) (fun _ H Q => Q (.ref C) none H) :=
  pmk_own PySem.F.excBase_ValueError e.q gC e.kC (raises_own e.b e.t) hg hdb
end
/-- raise C('..') -/
theorem ps_raiseS {X : Cx} {W : WX} {C : Addr} {m x : Str} {j : Nat} {p p2 pos pos2 : Pos} (hc : X.calm = true) (e : Ex0C X.K C) (gC : X.mg x = some (.ref C)) (tk : Takes X W) (hg : Gl X x := by rfl) (hdb : (x == ("__debug__" : Str)) = false := by decide) : PS X (.Raise (some (.Call (.Name x p) [.Constant (.str m) j p2] [] pos)) none pos2) (tRaise0 C W) :=
  ps_raise hc tk (pmk_ownS e gC hg hdb)
/-! ### words in lists -/
inductive Wd where
  | w (s : Str)
  | l (ws : List Wd)
mutual
def WdAt : Wd → V → Hp → Prop
  | .w s, v, _ => v = .str s
  | .l ws, v, G => ∃ p xs, v = .ref p ∧ G p = some (.lst xs) ∧ WdsAt ws xs G
def WdsAt : List Wd → List V → Hp → Prop
  | [], xs, _ => xs = []
  | a :: r, xs, G => ∃ x ys, xs = x :: ys ∧ WdAt a x G ∧ WdsAt r ys G
end
mutual
theorem WdAt.mono : ∀ {a : Wd} {v : V} {G G' : Hp}, WdAt a v G → Same G G' → WdAt a v G'
  | .w _, _, _, _, h, _ => by
    unfold WdAt at h ⊢
    exact h
  | .l ws, _, _, _, h, s => by
    unfold WdAt at h ⊢
    obtain ⟨p, xs, e, g, h⟩ := h
    exact ⟨p, xs, e, s _ _ g, WdsAt.mono h s⟩
theorem WdsAt.mono : ∀ {a : List Wd} {v : List V} {G G' : Hp}, WdsAt a v G → Same G G' → WdsAt a v G'
  | [], _, _, _, h, _ => by
    unfold WdsAt at h ⊢
    exact h
  | a :: r, _, _, _, h, s => by
    unfold WdsAt at h ⊢
    obtain ⟨x, ys, e, h1, h2⟩ := h
    exact ⟨x, ys, e, WdAt.mono h1 s, WdsAt.mono h2 s⟩
end
theorem WdsAt.nil {G : Hp} : WdsAt [] [] G := by
  unfold WdsAt
  rfl
theorem WdsAt.cons {a : Wd} {r : List Wd} {x : V} {ys : List V} {G : Hp} (h : WdAt a x G) (h' : WdsAt r ys G) : WdsAt (a :: r) (x :: ys) G := by
  unfold WdsAt
  exact ⟨x, ys, rfl, h, h'⟩
theorem WdsAt.of_nil {xs : List V} {G : Hp} (h : WdsAt [] xs G) : xs = [] := by
  unfold WdsAt at h
  exact h
theorem WdsAt.of_cons {a : Wd} {r : List Wd} {xs : List V} {G : Hp} (h : WdsAt (a :: r) xs G) : ∃ x ys, xs = x :: ys ∧ WdAt a x G ∧ WdsAt r ys G := by
  unfold WdsAt at h
  exact h
theorem WdsAt.len : ∀ {a : List Wd} {xs : List V} {G : Hp}, WdsAt a xs G → xs.length = a.length
  | [], _, _, h => by rw [h.of_nil]; rfl
  | a :: r, _, _, h => by
    obtain ⟨x, ys, rfl, _, h2⟩ := h.of_cons
    rw [List.length_cons, List.length_cons, h2.len]
theorem WdsAt.get : ∀ {a : List Wd} {xs : List V} {G : Hp} {i : Nat} {b : Wd}, WdsAt a xs G → a[i]? = some b → ∃ x, xs[i]? = some x ∧ WdAt b x G
  | [], _, _, _, _, _, e => by simp at e
  | a :: r, _, _, 0, _, h, e => by
    obtain ⟨x, ys, rfl, h1, h2⟩ := h.of_cons
    obtain rfl : a = _ := by simpa using e
    exact ⟨x, rfl, h1⟩
  | a :: r, _, _, i + 1, _, h, e => by
    obtain ⟨x, ys, rfl, h1, h2⟩ := h.of_cons
    exact h2.get (i := i) (by simpa using e)
theorem WdAt.w {s : Str} {G : Hp} : WdAt (.w s) (.str s) G := by
  unfold WdAt
  rfl
theorem WdAt.l {ws : List Wd} {p : Addr} {xs : List V} {G : Hp} (g : G p = some (.lst xs)) (h : WdsAt ws xs G) : WdAt (.l ws) (.ref p) G := by
  unfold WdAt
  exact ⟨p, xs, rfl, g, h⟩
/-! ### parentheses -/
def nwOp (t : Str) (st : List (List Wd)) : Option (List (List Wd)) :=
  if t = ("(" : Str) then some ([] :: st) else if t = (")" : Str) then (match st with | a :: b :: r => some ((b ++ [.l a]) :: r) | _ => none) else if t = ("" : Str) then some st else match st with | a :: r => some ((a ++ [.w t]) :: r) | [] => none
def nwStep (D : Nat) (t : Str) (st : List (List Wd)) : Option (List (List Wd)) := (nwOp t st).bind fun s => if s.length ≤ D then some s else none
def nwRun (D : Nat) : List Str → List (List Wd) → Option (List (List Wd))
  | [], st => some st
  | t :: r, st => (nwStep D t st).bind (nwRun D r)
def nwEnd : List (List Wd) → Option (List Wd)
  | [ws] => some ws
  | _ => none
def nw (D : Nat) (ts : List Str) : Option (List Wd) := (nwRun D ts [[]]).bind nwEnd
def toks (x : Str) : List Str := Txt.split (Txt.replace (Txt.replace x ("(" : Str) (" ( " : Str)) (")" : Str) (" ) " : Str)) (" " : Str)
def Opn (H G : Hp) : List Addr → List (List Wd) → Prop
  | [], [] => True
  | r :: rs, ws :: st => (∃ xs, H r = some (.lst xs) ∧ WdsAt ws xs G) ∧ Opn H G rs st
  | _, _ => False
theorem Opn.len {H G : Hp} : ∀ {rs : List Addr} {st : List (List Wd)}, Opn H G rs st → rs.length = st.length
  | [], [], _ => rfl
  | _ :: rs, _ :: st, h => by rw [List.length_cons, List.length_cons, h.2.len]
  | [], _ :: _, h => h.elim
  | _ :: _, [], h => h.elim
theorem Opn.go {H G H' G' : Hp} : ∀ {rs : List Addr} {st : List (List Wd)}, Opn H G rs st → Same G G' → (∀ r ∈ rs, ∀ xs, H r = some (.lst xs) → H' r = some (.lst xs)) → Opn H' G' rs st
  | [], [], _, _, _ => trivial
  | r :: rs, _ :: st, h, s, k => by
    obtain ⟨⟨xs, hx, hw⟩, h⟩ := h
    exact ⟨⟨xs, k r List.mem_cons_self _ hx, hw.mono s⟩, h.go s fun r' hr => k r' (List.mem_cons_of_mem _ hr)⟩
  | [], _ :: _, h, _, _ => h.elim
  | _ :: _, [], h, _, _ => h.elim
theorem Opn.some {H G : Hp} : ∀ {rs : List Addr} {st : List (List Wd)}, Opn H G rs st → ∀ r ∈ rs, ∃ xs, H r = some (.lst xs)
  | [], [], _, r, hr => by cases hr
  | a :: rs, _ :: st, h, r, hr => by
    rcases List.mem_cons.mp hr with rfl | hr
    · exact ⟨_, h.1.choose_spec.1⟩
    · exact h.2.some r hr
  | [], _ :: _, h, _, _ => h.elim
  | _ :: _, [], h, _, _ => h.elim
/-- the open lists at L, in the heap H; G tells of what stands still -/
structure NwI (G0 H0 G H : Hp) (L : Addr) (rs : List Addr) (st : List (List Wd)) : Prop where
  s : Grow G0 H0 G H
  l : H L = some (.lst (rs.reverse.map V.ref))
  o : Opn H G rs st
  n : (L :: rs).Nodup
  h0 : ∀ r ∈ L :: rs, H0 r = none
  g : ∀ r ∈ L :: rs, G r = none
section
variable {G0 H0 G H J : Hp} {L r : Addr} {rs : List Addr} {st : List (List Wd)} {K : PySem.W.Frag}
theorem NwI.sp (h : NwI G0 H0 G H L rs st) : (SP0 G0 H0).s 0 G H := h.s
theorem NwI.pub (hs : Same G0 H0) (h : NwI G0 H0 G H L rs st) : (SP0 G0 H0).s 0 (upd G L (.lst (rs.reverse.map V.ref))) H :=
  (stab0 G0 H0).pub (n := 0) (m := 0) (Grow.refl hs) (h.h0 L List.mem_cons_self) h.sp (h.g L List.mem_cons_self) h.l
theorem NwI.same (h : NwI G0 H0 G H L rs st) : Same G (upd G L (.lst (rs.reverse.map V.ref))) := fun b o e => by
  rw [upd_ne (ne_of_none e (h.g L List.mem_cons_self))]
  exact e
theorem NwI.k (h : NwI G0 H0 G H L rs st) (k : Kp (SP0 G0 H0) H J) (s : Grow G0 H0 G J) : NwI G0 H0 G J L rs st :=
  ⟨s, k.k _ _ (fun z => z) h.l, h.o.go (Same.refl _) fun r hr xs e => k.k _ _ (fun z => z) e, h.n, h.h0, h.g⟩
theorem NwI.grow {n : Nat} {G2 H2 : Hp} (h : NwI G0 H0 G H L rs st) (s : Stp (SP0 G0 H0) n G H G2 H2) : NwI G0 H0 G2 H2 L rs st := by
  refine ⟨s.s, s.k.k _ _ (fun z => z) h.l, h.o.go s.g fun r hr xs e => s.k.k _ _ (fun z => z) e, h.n, h.h0, fun r hr => ?_⟩
  cases hz : G2 r with
  | none => rfl
  | some o =>
    rcases s.n r o hz with e | e
    · rw [h.g r hr] at e
      cases e
    · rcases List.mem_cons.mp hr with rfl | hr
      · rw [h.l] at e
        cases e
      · obtain ⟨xs, e'⟩ := h.o.some r hr
        rw [e'] at e
        cases e
/-- a list more -/
theorem NwI.push (h : NwI G0 H0 G H L rs st) (k : Kp (SP0 G0 H0) H J) (hr : J r = some (.lst [])) (hr0 : H r = none) (gr : G r = none) (s : Grow G0 H0 G (upd J L (.lst (rs.reverse.map V.ref ++ [.ref r])))) : NwI G0 H0 G (upd J L (.lst (rs.reverse.map V.ref ++ [.ref r]))) L (r :: rs) ([] :: st) := by
  have hl : H L ≠ none := by rw [h.l]; simp
  have rL : r ≠ L := fun e => hl (e ▸ hr0)
  have rr : r ∉ rs := fun hm => by
    obtain ⟨xs, e⟩ := h.o.some r hm
    rw [hr0] at e
    cases e
  have nL : L ∉ rs := (List.nodup_cons.mp h.n).1
  refine ⟨s, ?_, ⟨⟨[], by rw [upd_ne rL]; exact hr, .nil⟩, h.o.go (Same.refl _) fun r' hr' xs e => ?_⟩, ?_, fun r' hm => ?_, fun r' hm => ?_⟩
  · rw [upd_same, List.reverse_cons, List.map_append]
    rfl
  · rw [upd_ne (show r' ≠ L from fun z => nL (z ▸ hr'))]
    exact k.k _ _ (fun z => z) e
  · refine List.nodup_cons.mpr ⟨fun hm => ?_, List.nodup_cons.mpr ⟨rr, (List.nodup_cons.mp h.n).2⟩⟩
    rcases List.mem_cons.mp hm with e | hm
    · exact rL e.symm
    · exact nL hm
  · rcases List.mem_cons.mp hm with rfl | hm
    · exact h.h0 _ List.mem_cons_self
    rcases List.mem_cons.mp hm with rfl | hm
    · cases hz : H0 r' with
      | none => rfl
      | some o =>
        have := h.s.h _ _ hz
        rw [hr0] at this
        cases this
    · exact h.h0 _ (List.mem_cons_of_mem _ hm)
  · rcases List.mem_cons.mp hm with rfl | hm
    · exact h.g _ List.mem_cons_self
    rcases List.mem_cons.mp hm with rfl | hm
    · exact gr
    · exact h.g _ (List.mem_cons_of_mem _ hm)
end
end L2.DS
/-! The words of a label (plain law). -/
namespace L2.DS
open PySem PySem.Spec PyProof.Rows _root_.TL
/-! ### signs -/
def g1S (k : Nat) : List Nat := if k = 40 then [32, 40, 32] else [k]
def g2S (k : Nat) : List Nat := if k = 41 then [32, 41, 32] else [k]
def gS (k : Nat) : List Nat := if k = 40 then [32, 40, 32] else if k = 41 then [32, 41, 32] else [k]
theorem repl_one {c : Nat} {z : List Nat} : ∀ l : List Nat, StrLaws.replL [c] z l = l.flatMap fun k => if k = c then z else [k]
  | [] => StrLaws.replL_nil
  | k :: r => by
    rw [List.flatMap_cons]
    by_cases h : k = c
    · subst h
      rw [StrLaws.replL_hit (by simp) (by simp), if_pos rfl]
      show z ++ StrLaws.replL [k] z r = _
      rw [repl_one r]
    · rw [StrLaws.replL_miss (by simpa using h), if_neg h, repl_one r]
      rfl
theorem gS_is (l : List Nat) : (l.flatMap g1S).flatMap g2S = l.flatMap gS := by
  rw [List.flatMap_assoc]
  congr 1
  funext k
  unfold g1S gS
  by_cases h : k = 40
  · rw [if_pos h, if_pos h]
    decide
  · rw [if_neg h, if_neg h]
    show g2S k ++ [] = _
    rw [List.append_nil]
    rfl
theorem toks_tl (x : Str) : (toks x).map tl = TL.spl [32] 0 [] ((tl x).flatMap gS) := by
  unfold toks
  have a1 : tl (Txt.replace x ("(" : Str) (" ( " : Str)) = (tl x).flatMap g1S := by
    rw [show tl (Txt.replace x ("(" : Str) (" ( " : Str)) = _ from StrLaws.replace_list (by decide +kernel), show ("(" : Str).cps.toList = [40] from by decide +kernel, show (" ( " : Str).cps.toList = [32, 40, 32] from by decide +kernel, repl_one]
    rfl
  have a2 : tl (Txt.replace (Txt.replace x ("(" : Str) (" ( " : Str)) (")" : Str) (" ) " : Str)) = (tl x).flatMap gS := by
    rw [show tl (Txt.replace (Txt.replace x ("(" : Str) (" ( " : Str)) (")" : Str) (" ) " : Str)) = _ from StrLaws.replace_list (by decide +kernel), show (")" : Str).cps.toList = [41] from by decide +kernel, show (" ) " : Str).cps.toList = [32, 41, 32] from by decide +kernel, repl_one]
    show (tl (Txt.replace x ("(" : Str) (" ( " : Str))).flatMap g2S = _
    rw [a1, gS_is]
  have sp : tl (" " : Str) = [32] := by decide +kernel
  rw [split_spl _ _ (by rw [sp]; simp) (by
    have : Builtin.Str.strKind (" " : Str) = 1 := by decide +kernel
    rw [this]
    unfold Builtin.Str.strKind
    split
    · omega
    · split <;> omega), a2, sp]
/-- the words of a text that are not empty -/
def TLw (l : List Nat) : List (List Nat) := (TL.spl [32] 0 [] (l.flatMap gS)).filter (· ≠ [])
def Tk (x : Str) : List Str := (toks x).filter (· ≠ ("" : Str))
theorem tl_nil {x : Str} : x = ("" : Str) ↔ tl x = [] := ⟨fun h => by rw [h]; decide +kernel, fun h => ext_tl (by rw [h]; decide +kernel)⟩
theorem Tk_tl (x : Str) : (Tk x).map tl = TLw (tl x) := by
  unfold Tk TLw
  rw [← toks_tl, List.filter_map]
  congr 1
  apply List.filter_congr
  intro a _
  show decide (a ≠ ("" : Str)) = decide (tl a ≠ [])
  exact decide_eq_decide.mpr (not_congr tl_nil)
theorem spl_app {b : List Nat} : ∀ (a acc : List Nat), TL.spl [32] 0 acc (a ++ 32 :: b) = TL.spl [32] 0 acc a ++ TL.spl [32] 0 [] b
  | [], acc => by
    rw [List.nil_append, spl_hit (by simp [pre]), spl_nil]
    rfl
  | c :: r, acc => by
    by_cases h : c = 32
    · subst h
      rw [List.cons_append, spl_hit (by simp [pre]), spl_hit (by simp [pre])]
      show acc :: TL.spl [32] 0 [] (r ++ 32 :: b) = acc :: TL.spl [32] 0 [] r ++ _
      rw [spl_app r]
      rfl
    · have hp : ∀ q, pre [32] (c :: q) = false := fun q => by simp [pre, h]
      rw [List.cons_append, spl_miss (hp _), spl_miss (hp _), spl_app r]
theorem TLw_sp (a b : List Nat) : TLw (a ++ 32 :: b) = TLw a ++ TLw b := by
  unfold TLw
  rw [List.flatMap_append, List.flatMap_cons, show gS 32 = [32] from by decide]
  show (TL.spl [32] 0 [] (a.flatMap gS ++ 32 :: b.flatMap gS)).filter _ = _
  rw [spl_app, List.filter_append]
theorem TLw_par {c : Nat} (hc : c = 40 ∨ c = 41) (a b : List Nat) : TLw (a ++ c :: b) = TLw a ++ [c] :: TLw b := by
  unfold TLw
  have e : gS c = [32, c, 32] := by rcases hc with rfl | rfl <;> decide
  rw [List.flatMap_append, List.flatMap_cons, e]
  show (TL.spl [32] 0 [] (a.flatMap gS ++ 32 :: ([c] ++ 32 :: b.flatMap gS))).filter _ = _
  rw [spl_app, spl_app, show TL.spl [32] 0 [] [c] = [[c]] from by rcases hc with rfl | rfl <;> decide, List.filter_append]
  rfl
theorem TLw_nil : TLw [] = [] := by decide
/-- no blank, no parenthesis -/
def plW (l : List Nat) : Prop := l ≠ [] ∧ ∀ k ∈ l, k ≠ 32 ∧ k ≠ 40 ∧ k ≠ 41
theorem TLw_word {l : List Nat} (h : plW l) : TLw l = [l] := by
  have e : l.flatMap gS = l := by
    have : ∀ l : List Nat, (∀ k ∈ l, k ≠ 32 ∧ k ≠ 40 ∧ k ≠ 41) → l.flatMap gS = l := fun l => by
      induction l with
      | nil => exact fun _ => rfl
      | cons k r ih =>
        intro h
        have hk := h k List.mem_cons_self
        rw [List.flatMap_cons, ih fun x hx => h x (List.mem_cons_of_mem _ hx)]
        unfold gS
        rw [if_neg hk.2.1, if_neg hk.2.2]
        rfl
    exact this l h.2
  unfold TLw
  rw [e, spl_last1 (s := 32) (S := []) fun m => (h.2 32 m).1 rfl, List.nil_append]
  simp [h.1]
/-! ### texts -/
theorem Tk_sp (a b : Str) : Tk (a ++ (" " : Str) ++ b) = Tk a ++ Tk b := map_tl_inj (by
  rw [List.map_append, Tk_tl, Tk_tl, Tk_tl, tl_append, tl_append, show tl (" " : Str) = [32] from by decide +kernel, List.append_assoc]
  exact TLw_sp _ _)
theorem Tk_lp (a b : Str) : Tk (a ++ ("(" : Str) ++ b) = Tk a ++ ("(" : Str) :: Tk b := map_tl_inj (by
  rw [List.map_append, List.map_cons, Tk_tl, Tk_tl, Tk_tl, tl_append, tl_append, show tl ("(" : Str) = [40] from by decide +kernel, List.append_assoc]
  exact TLw_par (.inl rfl) _ _)
theorem Tk_rp (a b : Str) : Tk (a ++ (")" : Str) ++ b) = Tk a ++ (")" : Str) :: Tk b := map_tl_inj (by
  rw [List.map_append, List.map_cons, Tk_tl, Tk_tl, Tk_tl, tl_append, tl_append, show tl (")" : Str) = [41] from by decide +kernel, List.append_assoc]
  exact TLw_par (.inr rfl) _ _)
theorem Tk_nil : Tk ("" : Str) = [] := map_tl_inj (by
  rw [Tk_tl, show tl ("" : Str) = [] from by decide +kernel]
  exact TLw_nil)
def PlW (s : Str) : Prop := plW (tl s)
theorem Tk_word {s : Str} (h : PlW s) : Tk s = [s] := map_tl_inj (by rw [Tk_tl, TLw_word h]; rfl)
theorem Tk_join : ∀ {ws : List Str}, (∀ s ∈ ws, PlW s) → Tk (Txt.join (" " : Str) ws) = ws
  | [], _ => Tk_nil
  | [a], h => Tk_word (h a List.mem_cons_self)
  | a :: b :: r, h => by
    have e : Txt.join (" " : Str) (a :: b :: r) = a ++ (" " : Str) ++ Txt.join (" " : Str) (b :: r) := by
      show Builtin.Str.glued _ _ = _ ++ _ ++ Builtin.Str.glued _ _
      rw [StrLaws.glued_eq_join, StrLaws.glued_eq_join]
      rfl
    rw [e, Tk_sp, Tk_word (h a List.mem_cons_self), Tk_join fun s hs => h s (List.mem_cons_of_mem _ hs)]
    rfl
theorem Tk_joins : ∀ ws : List Str, Tk (Txt.join (" " : Str) ws) = ws.flatMap Tk
  | [] => Tk_nil
  | [a] => by
    show Tk a = Tk a ++ []
    rw [List.append_nil]
  | a :: b :: r => by
    have e : Txt.join (" " : Str) (a :: b :: r) = a ++ (" " : Str) ++ Txt.join (" " : Str) (b :: r) := by
      show Builtin.Str.glued _ _ = _ ++ _ ++ Builtin.Str.glued _ _
      rw [StrLaws.glued_eq_join, StrLaws.glued_eq_join]
      rfl
    rw [e, Tk_sp, Tk_joins (b :: r)]
    rfl
/-! ### words in lists, written -/
mutual
def tkW : Wd → List Str
  | .w s => [s]
  | .l ws => ("(" : Str) :: (tkWs ws ++ [(")" : Str)])
def tkWs : List Wd → List Str
  | [] => []
  | a :: r => tkW a ++ tkWs r
end
mutual
def dpW : Wd → Nat
  | .w _ => 0
  | .l ws => dpWs ws + 1
def dpWs : List Wd → Nat
  | [] => 0
  | a :: r => max (dpW a) (dpWs r)
end
mutual
def PlWd : Wd → Prop
  | .w s => PlW s
  | .l ws => PlWds ws
def PlWds : List Wd → Prop
  | [] => True
  | a :: r => PlWd a ∧ PlWds r
end
theorem PlW.ne {s : Str} (h : PlW s) : s ≠ ("(" : Str) ∧ s ≠ (")" : Str) ∧ s ≠ ("" : Str) := by
  refine ⟨fun e => ?_, fun e => ?_, fun e => ?_⟩
  · have := h.2 40 (by rw [e]; decide +kernel)
    exact this.2.1 rfl
  · have := h.2 41 (by rw [e]; decide +kernel)
    exact this.2.2 rfl
  · exact h.1 (by rw [e]; decide +kernel)
mutual
theorem run_tkW {D : Nat} {rest : List Str} : ∀ {w : Wd} {a : List Wd} {st : List (List Wd)}, PlWd w → dpW w + st.length + 1 ≤ D → nwRun D (tkW w ++ rest) (a :: st) = nwRun D rest ((a ++ [w]) :: st)
  | .w s, a, st, h, hd => by
    unfold PlWd at h
    unfold dpW at hd
    obtain ⟨h1, h2, h3⟩ := h.ne
    unfold tkW
    show (nwStep D s (a :: st)).bind (nwRun D rest) = _
    unfold nwStep nwOp
    rw [if_neg h1, if_neg h2, if_neg h3]
    show ((if ((a ++ [.w s]) :: st).length ≤ D then some ((a ++ [.w s]) :: st) else none).bind _) = _
    rw [if_pos (by rw [List.length_cons]; omega)]
    rfl
  | .l ws, a, st, h, hd => by
    unfold PlWd at h
    unfold dpW at hd
    unfold tkW
    rw [List.cons_append, List.append_assoc]
    show (nwStep D ("(" : Str) (a :: st)).bind (nwRun D (tkWs ws ++ ([(")" : Str)] ++ rest))) = _
    unfold nwStep nwOp
    rw [if_pos rfl]
    show ((if ([] :: a :: st).length ≤ D then some ([] :: a :: st) else none).bind _) = _
    rw [if_pos (by rw [List.length_cons, List.length_cons]; omega)]
    show nwRun D (tkWs ws ++ ([(")" : Str)] ++ rest)) ([] :: a :: st) = _
    rw [run_tkWs h (by rw [List.length_cons]; omega), List.nil_append]
    show (nwStep D (")" : Str) (ws :: a :: st)).bind (nwRun D rest) = _
    unfold nwStep nwOp
    rw [if_neg (by decide +kernel), if_pos rfl]
    show ((if ((a ++ [.l ws]) :: st).length ≤ D then some ((a ++ [.l ws]) :: st) else none).bind _) = _
    rw [if_pos (by rw [List.length_cons]; omega)]
    rfl
theorem run_tkWs {D : Nat} {rest : List Str} : ∀ {ws : List Wd} {a : List Wd} {st : List (List Wd)}, PlWds ws → dpWs ws + st.length + 1 ≤ D → nwRun D (tkWs ws ++ rest) (a :: st) = nwRun D rest ((a ++ ws) :: st)
  | [], a, st, _, _ => by
    unfold tkWs
    rw [List.nil_append, List.append_nil]
  | w :: r, a, st, h, hd => by
    unfold PlWds at h
    unfold dpWs at hd
    unfold tkWs
    rw [List.append_assoc, run_tkW h.1 (by omega), run_tkWs h.2 (by omega), List.append_assoc]
    rfl
end
theorem nwRun_filter {D : Nat} : ∀ (ts : List Str) (st : List (List Wd)), st.length ≤ D → nwRun D ts st = nwRun D (ts.filter (· ≠ ("" : Str))) st
  | [], _, _ => rfl
  | t :: r, st, h => by
    by_cases e : t = ("" : Str)
    · rw [List.filter_cons_of_neg (by simpa using e)]
      show (nwStep D t st).bind _ = _
      unfold nwStep nwOp
      rw [if_neg (by rw [e]; decide +kernel), if_neg (by rw [e]; decide +kernel), if_pos e]
      show ((if st.length ≤ D then some st else none).bind _) = _
      rw [if_pos h]
      exact nwRun_filter r st h
    · rw [List.filter_cons_of_pos (by simpa using e)]
      show (nwStep D t st).bind _ = (nwStep D t st).bind _
      cases hz : nwStep D t st with
      | none => rfl
      | some s2 =>
        have hl : s2.length ≤ D := by
          unfold nwStep at hz
          cases hy : nwOp t st with
          | none =>
            rw [hy] at hz
            cases hz
          | some s3 =>
            rw [hy] at hz
            replace hz : (if s3.length ≤ D then some s3 else none) = some s2 := hz
            split at hz
            · rw [← Option.some.inj hz]
              assumption
            · cases hz
        exact nwRun_filter r s2 hl
theorem nw_of {D : Nat} {x : Str} {ws : List Wd} (h : Tk x = tkWs ws) (p : PlWds ws) (hd : dpWs ws + 1 ≤ D) : nw D (toks x) = some ws := by
  unfold nw
  rw [nwRun_filter _ _ (by simp; omega)]
  show (nwRun D (Tk x) [[]]).bind _ = _
  rw [h, ← List.append_nil (tkWs ws), run_tkWs p (by simpa using hd)]
  rfl
theorem tkWs_map (l : List Str) : tkWs (l.map Wd.w) = l := by
  induction l with
  | nil => unfold tkWs; rfl
  | cons a r ih =>
    rw [List.map_cons]
    unfold tkWs tkW
    rw [ih]
    rfl
theorem PlWds_map {l : List Str} (h : ∀ s ∈ l, PlW s) : PlWds (l.map Wd.w) := by
  induction l with
  | nil => unfold PlWds; trivial
  | cons a r ih =>
    rw [List.map_cons]
    unfold PlWds PlWd
    exact ⟨h a List.mem_cons_self, ih fun s hs => h s (List.mem_cons_of_mem _ hs)⟩
theorem dpWs_map (l : List Str) : dpWs (l.map Wd.w) = 0 := by
  induction l with
  | nil => unfold dpWs; rfl
  | cons a r ih =>
    rw [List.map_cons]
    unfold dpWs dpW
    rw [ih]
    rfl
/-! ### the label of a table -/
def wdTb (names : List Str) (never still : Str) (joins products : List (List Str)) : Wd := .l [.w ("table" : Str), .l (names.map Wd.w), .w never, .w still, .l (joins.flatten.map Wd.w), .l (products.flatten.map Wd.w)]
theorem Tk_joinR {rows : List (List Str)} (h : ∀ r ∈ rows, ∀ s ∈ r, PlW s) : Tk (joinR rows) = rows.flatten := by
  unfold joinR
  rw [Tk_joins, List.flatMap_map]
  induction rows with
  | nil => rfl
  | cons a r ih =>
    rw [List.flatMap_cons, List.flatten_cons, ih fun x hx => h x (List.mem_cons_of_mem _ hx), Tk_join (h a List.mem_cons_self)]
theorem Tk_tbLab {names : List Str} {never still : Str} {joins products : List (List Str)} (hn : ∀ s ∈ names, PlW s) (h1 : PlW never) (h2 : PlW still) (hj : ∀ r ∈ joins, ∀ s ∈ r, PlW s) (hp : ∀ r ∈ products, ∀ s ∈ r, PlW s) : Tk (tbLab names never still joins products) = tkWs [wdTb names never still joins products] := map_tl_inj (by
  have eN : TLw (tl (Txt.join (" " : Str) names)) = names.map tl := by rw [← Tk_tl, Tk_join hn]
  have eJ : TLw (tl (joinR joins)) = joins.flatten.map tl := by rw [← Tk_tl, Tk_joinR hj]
  have eP : TLw (tl (joinR products)) = products.flatten.map tl := by rw [← Tk_tl, Tk_joinR hp]
  have e1 : TLw (tl never) = [tl never] := TLw_word h1
  have e2 : TLw (tl still) = [tl still] := TLw_word h2
  have e3 : TLw [116, 97, 98, 108, 101] = [[116, 97, 98, 108, 101]] := TLw_word (by constructor <;> decide)
  have lit : tl ("(table (" : Str) = [40, 116, 97, 98, 108, 101, 32, 40] ∧ tl (") " : Str) = [41, 32] ∧ tl (" " : Str) = [32] ∧ tl (" (" : Str) = [32, 40] ∧ tl (") (" : Str) = [41, 32, 40] ∧ tl ("))" : Str) = [41, 41] ∧ tl ("(" : Str) = [40] ∧ tl (")" : Str) = [41] ∧ tl ("table" : Str) = [116, 97, 98, 108, 101] := by decide +kernel
  obtain ⟨l1, l2, l3, l4, l5, l6, l7, l8, l9⟩ := lit
  rw [Tk_tl]
  unfold tbLab
  simp only [tl_append, l1, l2, l3, l4, l5, l6, List.append_assoc, List.cons_append, List.nil_append]
  show TLw ([] ++ 40 :: ([116, 97, 98, 108, 101] ++ 32 :: ([] ++ 40 :: (tl (Txt.join (" " : Str) names) ++ 41 :: ([] ++ 32 :: (tl never ++ 32 :: (tl still ++ 32 :: ([] ++ 40 :: (tl (joinR joins) ++ 41 :: ([] ++ 32 :: ([] ++ 40 :: (tl (joinR products) ++ 41 :: ([] ++ 41 :: []))))))))))))) = _
  rw [TLw_par (.inl rfl), TLw_sp, TLw_par (.inl rfl), TLw_par (.inr rfl), TLw_sp, TLw_sp, TLw_sp, TLw_par (.inl rfl), TLw_par (.inr rfl), TLw_sp, TLw_par (.inl rfl), TLw_par (.inr rfl), TLw_par (.inr rfl), TLw_nil, eN, eJ, eP, e1, e2, e3]
  unfold wdTb
  simp only [tkWs, tkW, tkWs_map, List.map_append, List.map_cons, List.map_nil, List.append_nil, List.nil_append, List.cons_append, List.append_assoc, l7, l8, l9])
end L2.DS
/-! Rows cut from a list; tables read. -/
namespace L2.DS
open PySem PySem.Spec PyProof.Rows
theorem sgn_no : sgn 32 = false ∧ sgn 40 = false ∧ sgn 41 = false := by decide +kernel
theorem okNm_pl {nm : Str} (h : okNm nm = true) : PlW nm := by
  obtain ⟨h1, h2⟩ := okNm_len h
  unfold okNm at h
  rw [Bool.and_eq_true] at h
  have ha := List.all_eq_true.mp h.2
  refine ⟨fun e => ?_, fun k hk => ?_⟩
  · have : nm.length = 0 := by rw [_root_.TL.len_tl, e]; rfl
    omega
  · have := ha (sgn k) (List.mem_map_of_mem hk)
    refine ⟨fun e => ?_, fun e => ?_, fun e => ?_⟩
    · rw [e, sgn_no.1] at this
      cases this
    · rw [e, sgn_no.2.1] at this
      cases this
    · rw [e, sgn_no.2.2] at this
      cases this
def IsTabS (rows : List (List Str)) : HR := fun v G' => ∃ q, v = .ref q ∧ TabS G' q rows
instance (rows) : Mon (IsTabS rows) := ⟨fun s ⟨q, e, h⟩ => ⟨q, e, h.mono s⟩⟩
/-! ### promises -/
/-- the words of a table -/
def wdT (names : List Str) (nv sl : Nat) (th jn : Nat → Nat → Int) : List Wd := [.l (names.map Wd.w), .w (names.getD nv ("" : Str)), .w (names.getD sl ("" : Str)), .l ((rowsS names jn).flatten.map Wd.w), .l ((rowsS names th).flatten.map Wd.w)]
def IsWd (a : Wd) : HR := fun v G => WdAt a v G
instance (a) : Mon (IsWd a) := ⟨fun s h => WdAt.mono h s⟩
end L2.DS
/-! A def that a try watches. -/
namespace L2.DS
open PySem PySem.Spec PyProof.Rows
/-! ### two lists that grow and a list of two numbers, all newly made -/
structure Mu (S : SR) (n : Nat) (H0 G J : Hp) (D : Addr) (Fs : Nat → Addr) (d : Nat → Nat) (l : Nat → List Bool) : Prop where
  s : S n G J
  d : J D = some (.lst [.int (d 0 : Nat), .int (d 1 : Nat)])
  f : ∀ i, i < 2 → J (Fs i) = some (.lst ((l i).map V.bl))
  nd : ∀ i, i < 2 → D ≠ Fs i
  nf : Fs 0 ≠ Fs 1
  hD : H0 D = none
  hF : ∀ i, i < 2 → H0 (Fs i) = none
  gD : G D = none
  gF : ∀ i, i < 2 → G (Fs i) = none
section
variable {S : SR} {n m n0 : Nat} {G0 H0 G J G' J' : Hp} {D : Addr} {Fs : Nat → Addr} {d : Nat → Nat} {l : Nat → List Bool}
theorem Mu.k (h : Mu S n H0 G J D Fs d l) (st : Stab S) (s0 : S n0 G0 H0) (k : Kp S J J') (s : S m G J') : Mu S m H0 G J' D Fs d l :=
  ⟨s, k.k _ _ (st.fre s0 h.hD) h.d, fun i hi => k.k _ _ (st.fre s0 (h.hF i hi)) (h.f i hi), h.nd, h.nf, h.hD, h.hF, h.gD, h.gF⟩
theorem Mu.grow (h : Mu S n H0 G J D Fs d l) (st : Stab S) (s0 : S n0 G0 H0) (s : Stp S m G J G' J') : Mu S m H0 G' J' D Fs d l := by
  have gn : ∀ {b : Addr} {o : HO}, G b = none → J b = some o → G' b = none := fun {b o} g j => by
    cases hz : G' b with
    | none => rfl
    | some o' =>
      rcases s.n b o' hz with e | e
      · rw [g] at e
        cases e
      · rw [j] at e
        cases e
  exact ⟨s.s, s.k.k _ _ (st.fre s0 h.hD) h.d, fun i hi => s.k.k _ _ (st.fre s0 (h.hF i hi)) (h.f i hi), h.nd, h.nf, h.hD, h.hF, gn h.gD h.d, fun i hi => gn (h.gF i hi) (h.f i hi)⟩
theorem Mu.ne (h : Mu S n H0 G J D Fs d l) {i j : Nat} (hi : i < 2) (hj : j < 2) (e : i ≠ j) : Fs i ≠ Fs j := by
  have : (i = 0 ∧ j = 1) ∨ (i = 1 ∧ j = 0) := by omega
  rcases this with ⟨rfl, rfl⟩ | ⟨rfl, rfl⟩
  · exact h.nf
  · exact h.nf.symm
theorem Mu.set (h : Mu S n H0 G J D Fs d l) {i v : Nat} (hi : i < 2) (s : S m G (upd J D (.lst ([V.int (d 0 : Nat), .int (d 1 : Nat)].set i (.int (v : Nat)))))) : Mu S m H0 G (upd J D (.lst ([V.int (d 0 : Nat), .int (d 1 : Nat)].set i (.int (v : Nat))))) D Fs (fun j => if j = i then v else d j) l := by
  refine ⟨s, ?_, fun j hj => ?_, h.nd, h.nf, h.hD, h.hF, h.gD, h.gF⟩
  · rw [upd_same]
    have : i = 0 ∨ i = 1 := by omega
    rcases this with rfl | rfl <;> rfl
  · rw [upd_ne (h.nd j hj).symm]
    exact h.f j hj
theorem Mu.pub (h : Mu S n H0 G J D Fs d l) (st : Stab S) (s0 : S n0 G0 H0) : S n (upd G D (.lst [.int (d 0 : Nat), .int (d 1 : Nat)])) J := st.pub s0 h.hD h.s h.gD h.d
theorem Mu.same (h : Mu S n H0 G J D Fs d l) {o : HO} : Same G (upd G D o) := fun b o e => by
  rw [upd_ne (ne_of_none e h.gD)]
  exact e
end
theorem Mu.congr {S : SR} {n : Nat} {H0 G J : Hp} {D : Addr} {Fs : Nat → Addr} {d d' : Nat → Nat} {l l' : Nat → List Bool} (h : Mu S n H0 G J D Fs d l) (e : ∀ i, i < 2 → d' i = d i) (e' : ∀ i, i < 2 → l' i = l i) : Mu S n H0 G J D Fs d' l' :=
  ⟨h.s, by rw [e 0 (by decide), e 1 (by decide)]; exact h.d, fun i hi => by rw [e' i hi]; exact h.f i hi, h.nd, h.nf, h.hD, h.hF, h.gD, h.gF⟩
/-! ### what before and behind of a table look for (plain law) -/
end L2.DS
/-! Worths of scales that are told by a property; labels told apart; the lists of a turn published. -/
namespace L2.DS
open PySem PySem.Spec PyProof.Rows
section
variable {S : SR} {n m n0 : Nat} {G0 H0 G J G' J' : Hp} {D : Addr} {Fs : Nat → Addr} {d : Nat → Nat} {l : Nat → List Bool}
theorem Mu.all (h : Mu S n H0 G J D Fs d l) (st : Stab S) (s0 : S n0 G0 H0) : ∃ G', Same G G' ∧ S n G' J ∧ G' D = some (.lst [.int (d 0 : Nat), .int (d 1 : Nat)]) ∧ ∀ i, i < 2 → G' (Fs i) = some (.lst ((l i).map V.bl)) := by
  have a := h.pub st s0
  have n0 := h.nd 0 (by decide)
  have n1 := h.nd 1 (by decide)
  have g0 : upd G D (.lst [.int (d 0 : Nat), .int (d 1 : Nat)]) (Fs 0) = none := by rw [upd_ne n0.symm]; exact h.gF 0 (by decide)
  have b := st.pub s0 (h.hF 0 (by decide)) a g0 (h.f 0 (by decide))
  have g1 : upd (upd G D (.lst [.int (d 0 : Nat), .int (d 1 : Nat)])) (Fs 0) (.lst ((l 0).map V.bl)) (Fs 1) = none := by rw [upd_ne h.nf.symm, upd_ne n1.symm]; exact h.gF 1 (by decide)
  have c := st.pub s0 (h.hF 1 (by decide)) b g1 (h.f 1 (by decide))
  refine ⟨_, fun x o e => ?_, c, ?_, fun i hi => ?_⟩
  · rw [upd_ne (ne_of_none e (h.gF 1 (by decide))), upd_ne (ne_of_none e (h.gF 0 (by decide))), upd_ne (ne_of_none e h.gD)]
    exact e
  · rw [upd_ne n1, upd_ne n0, upd_same]
  · rcases (show i = 0 ∨ i = 1 by omega) with rfl | rfl
    · rw [upd_ne h.nf, upd_same]
    · rw [upd_same]
end
/-! labels told apart by their beginnings -/
theorem str_assoc (a b c : Str) : a ++ b ++ c = a ++ (b ++ c) := str_inj (by rw [cps_app, cps_app, cps_app, cps_app, List.append_assoc])
end L2.DS
/-! Operators of own classes that a try watches; ==, str of own classes; classmethods that raise. -/
namespace L2.DS
open PySem PySem.Spec PyProof.Rows
section
variable {X : Cx} {CX : CXT} {k : Nat} {C : Addr} {m : Str} {ps : List Str} {sp : Sp} {E : L2.St → XK} {E0 : XK} {a b e o : Expr} {es : List Expr} {ta tb : TE} {t : TA} {pos apos : Pos} {pins : List (Addr × Obj)} {σ : L2.St} {H : Hp} {s : Shared} {x y : V} {v u : Value} {Q : VK}
/-! ### C.m(..) in a try -/
/-! ### == with a text or a number -/
/-! ### str -/
/-- isinstance(e, c), e an error without fields that the suite holds -/
theorem call_isE0 {K : PySem.W.Frag} {a D : Addr} {cls : Value} {d : Option Addr} {oe : Obj} {pn : List (Addr × Obj)} (hK : X.K = K) (c : ExcC K D) (hz : Zc cls d oe) (hf : ∃ vs, oe.data = .fields vs) : CallR (X.suite a ((a, oe) :: pn)) (.builtin "isinstance") (fun xs H Q => cls = .ref D ∧ d = none ∧ rIsE K D a xs H Q) := by
  intro pins s σ H xs us Q I r h
  obtain ⟨rfl, rfl, q⟩ := h
  subst hK
  exact call_isE c hz hf pins s σ H xs us Q I r q
end
/-! ### what they give -/
section
variable {S : SR} {n k ka kb : Nat} {ta tb : TE} {t : TA} {σ : L2.St} {G H : Hp} {K : PySem.W.Frag} {Cs : List Addr} {CW CM C a b : Addr} {d e : SD} {p q : Nat} {E : L2.St → XK} {E0 : XK} {res : SD → Nat → Nat → HR} {c : V} {cv : Value} {bb : Bool} {R : HR} {z : Str} {P : List V → Hp → HR → Prop}
theorem c_isE (st : Stab S) (hc : ∀ w, RelV c w → w = cv) (hk : PySem.W.kitOne K (.ref C) cv = some bb) : RC S (fun xs H Q => Value.ref C = .ref C ∧ (none : Option Addr) = none ∧ rIsE K C a xs H Q) [.ref a, c] G (IsV (.bl bb)) :=
  rc_val (fun H s Q q => ⟨rfl, rfl, c, cv, bb, rfl, hc, hk, q⟩) st
end
/-! ### promises -/
end L2.DS
/-! Two tables newly made, one of them changed. -/
namespace L2.DS
open PySem PySem.Spec PyProof.Rows
/-- two tables newly made, the second one behind the first -/
def TwoN (G : Hp) (n : Nat) (fj ft : Nat → Nat → Int) : HRs := fun vs G2 => ∃ (p q : Addr) (ys zs : List V) (G1 : Hp), vs = [.ref p, .ref q] ∧ Same G G1 ∧ Same G1 G2 ∧ G p = none ∧ G1 p = some (.lst ys) ∧ RL (fun a => IsIRn G n (fj a)) (List.range n) ys G1 ∧ ys.Nodup ∧
  G1 q = none ∧ G2 q = some (.lst zs) ∧ RL (fun a => IsIRn G1 n (ft a)) (List.range n) zs G2 ∧ zs.Nodup
instance (G n fj ft) : Mons (TwoN G n fj ft) := ⟨fun s ⟨p, q, ys, zs, G1, e, a, b, c, d, f, g, h, i, j, k⟩ => ⟨p, q, ys, zs, G1, e, a, b.trans s, c, d, f, g, h, s _ _ i, rl_mon s j, k⟩⟩
theorem rl_row {F G : Hp} {n : Nat} {f : Nat → Nat → Int} : ∀ {l : List Nat} {vs : List V}, RL (fun a => IsIRn F n (f a)) l vs G → RL (fun a => IsIRow n (f a)) l vs G
  | [], _, h => h
  | _ :: _, _, ⟨v, w, e, ⟨q, e2, _, g⟩, r⟩ => ⟨v, w, e, ⟨q, e2, g⟩, rl_row r⟩
end L2.DS
/-! Labels of scales of any family, read (plain law). -/
namespace L2.DS
open PySem PySem.Spec PyProof.Rows _root_.TL
def dig (c : Nat) : Bool := !(Builtin.Str.occurrences ("0123456789" : Str) ⟨#[c]⟩ 0 ("0123456789" : Str).length 1).isEmpty
/-- the words of small numbers -/
theorem num_ok : ∀ m : Nat, m < 64 → PySem.intText? (toString ((m : Nat) : Int) : Str) = some ((m : Nat) : Int) ∧ 1 ≤ (toString ((m : Nat) : Int) : Str).length ∧ (toString ((m : Nat) : Int) : Str).length ≤ 60 ∧ (∀ c ∈ (toString ((m : Nat) : Int) : Str).cps.toList, dig c = true) := by decide +kernel
theorem num_pl : ∀ m : Nat, m < 64 → tl (toString ((m : Nat) : Int) : Str) ≠ [] ∧ ∀ k ∈ tl (toString ((m : Nat) : Int) : Str), k ≠ 32 ∧ k ≠ 40 ∧ k ≠ 41 := by decide +kernel
theorem heads_pl : ∀ s ∈ (["count", "span", "set", "watch", "pair", "turned", "heap", "table", "up", "down", "may", "must"] : List Str), tl s ≠ [] ∧ ∀ k ∈ tl s, k ≠ 32 ∧ k ≠ 40 ∧ k ≠ 41 := by decide +kernel
theorem ordS_pl (up : Bool) : PlW (ordS up) := by cases up <;> exact heads_pl _ (by decide)
theorem joinS_pl (may : Bool) : PlW (joinS may) := by cases may <;> exact heads_pl _ (by decide)
theorem app_nil (a : Str) : a ++ ("" : Str) = a := str_inj (by rw [cps_app, show ("" : Str).cps.toList = [] from by decide +kernel, List.append_nil])
theorem nil_app (a : Str) : ("" : Str) ++ a = a := str_inj (by rw [cps_app, show ("" : Str).cps.toList = [] from by decide +kernel, List.nil_append])
/-- (h b) -/
theorem Tk_frm {h : Str} (b : Str) (hw : PlW h) : Tk (("(" : Str) ++ h ++ (" " : Str) ++ b ++ (")" : Str)) = ("(" : Str) :: h :: (Tk b ++ [(")" : Str)]) := by
  have e1 := Tk_rp (("(" : Str) ++ h ++ (" " : Str) ++ b) ("" : Str)
  rw [app_nil, Tk_nil] at e1
  have e2 := Tk_lp ("" : Str) h
  rw [nil_app, Tk_nil, Tk_word hw] at e2
  rw [e1, Tk_sp, e2]
  rfl
inductive Rdb : Nat → SD → Wd → Prop
  | tab {n : Nat} {names : List Str} {nv sl : Nat} {th jn : Nat → Nat → Int} (T : TbIs names nv sl th jn) : Rdb n (tabSD names nv sl th jn) (.l (.w ("table" : Str) :: wdT names nv sl th jn))
  | cnt {n m : Nat} {up : Bool} (h : m < 63) : Rdb n (cntSD m up) (.l [.w ("count" : Str), .w (toString ((m : Nat) : Int) : Str), .w (ordS up)])
  | span {n m : Nat} (h : m < 10) : Rdb n (spanSD m) (.l [.w ("span" : Str), .w (toString ((m : Nat) : Int) : Str)])
  | set {n c : Nat} {may : Bool} (h0 : 1 ≤ c) (h : c < 6) : Rdb n (stSD c may) (.l [.w ("set" : Str), .w (toString ((c : Nat) : Int) : Str), .w (joinS may)])
  | watch {n s : Nat} (h0 : 1 ≤ s) (h : s < 3) : Rdb n (wtSD s) (.l [.w ("watch" : Str), .w (toString ((s : Nat) : Int) : Str)])
  | turn {n : Nat} {d : SD} {w : Wd} (h : Rdb n d w) (o : SdOk d) (hd : depL [d] ≤ 10) : Rdb (n + 1) (turnSD d) (.l [.w ("turned" : Str), w])
  | heap {n : Nat} {d : SD} {w : Wd} (h : Rdb n d w) (o : SdOk d) (l6 : d.names.length ≤ 6) (hd : depL [d] ≤ 10) (nd : (heapNames d.names).Nodup) : Rdb (n + 1) (heapSD d) (.l [.w ("heap" : Str), w])
  | pair {n : Nat} {d1 d2 : SD} {w1 w2 : Wd} (h1 : Rdb n d1 w1) (h2 : Rdb n d2 w2) (o1 : SdOk d1) (o2 : SdOk d2) (l64 : d1.names.length * d2.names.length ≤ 64) (hd : depL [d1, d2] ≤ 10) (nd : (pairNames d1 d2).Nodup) : Rdb (n + 1) (pairSD d1 d2) (.l [.w ("pair" : Str), w1, w2])
theorem Rdb.up {n : Nat} {d : SD} {w : Wd} (h : Rdb n d w) : Rdb (n + 1) d w := by
  induction h with
  | tab T => exact .tab T
  | cnt h => exact .cnt h
  | span h => exact .span h
  | set h0 h => exact .set h0 h
  | watch h0 h => exact .watch h0 h
  | turn h o hd ih => exact .turn ih o hd
  | heap h o l6 hd nd ih => exact .heap ih o l6 hd nd
  | pair h1 h2 o1 o2 l64 hd nd ih1 ih2 => exact .pair ih1 ih2 o1 o2 l64 hd nd
theorem tb_pl {names : List Str} {nv sl : Nat} {th jn : Nat → Nat → Int} (T : TbIs names nv sl th jn) : Tk (tabSD names nv sl th jn).label = tkW (.l (.w ("table" : Str) :: wdT names nv sl th jn)) ∧ PlWd (.l (.w ("table" : Str) :: wdT names nv sl th jn)) := by
  have tb := T.tb
  have hn : ∀ s ∈ names, PlW s := fun s h => okNm_pl (T.ok s h)
  have fl : ∀ {rows : List (List Str)}, (∀ r ∈ rows, ∀ s ∈ r, PlW s) → ∀ s ∈ rows.flatten, PlW s := fun h s hs => by
    obtain ⟨r, hr, hs⟩ := List.mem_flatten.mp hs
    exact h r hr s hs
  have hj : ∀ r ∈ rowsS names jn, ∀ s ∈ r, PlW s := fun r hr s hs => hn s ((tb.jr r hr).2 s hs)
  have hp : ∀ r ∈ rowsS names th, ∀ s ∈ r, PlW s := fun r hr s hs => hn s ((tb.pr r hr).2 s hs)
  refine ⟨?_, ?_⟩
  · have e := Tk_tbLab hn (hn _ tb.nv) (hn _ tb.sl) hj hp
    show Tk (tbLab _ _ _ _ _) = _
    rw [e]
    unfold wdTb wdT
    simp only [tkWs, List.append_nil]
  · unfold wdT
    simp only [PlWds, PlWd]
    exact ⟨heads_pl _ (by decide), PlWds_map hn, hn _ tb.nv, hn _ tb.sl, PlWds_map (fl hj), PlWds_map (fl hp), trivial⟩
/-- what a label's words are -/
theorem Rdb.tok {n : Nat} {d : SD} {w : Wd} (h : Rdb n d w) : Tk d.label = tkW w ∧ PlWd w ∧ dpW w ≤ n + 2 := by
  induction h with
  | tab T =>
    refine ⟨(tb_pl T).1, (tb_pl T).2, ?_⟩
    unfold wdT
    simp only [dpW, dpWs, dpWs_map]
    omega
  | @cnt n m up h =>
    have pm : PlW (toString ((m : Nat) : Int) : Str) := num_pl m (by omega)
    have e : (cntSD m up).label = ("(" : Str) ++ ("count" : Str) ++ (" " : Str) ++ ((toString ((m : Nat) : Int) : Str) ++ (" " : Str) ++ ordS up) ++ (")" : Str) := by
      show clabel _ _ = _
      unfold clabel
      rw [show ("(count " : Str) = ("(" : Str) ++ ("count" : Str) ++ (" " : Str) from by decide +kernel]
      simp only [str_assoc]
    refine ⟨?_, ?_, ?_⟩
    · rw [e, Tk_frm _ (heads_pl _ (by decide)), Tk_sp, Tk_word pm, Tk_word (ordS_pl up)]
      rfl
    · simp only [PlWd, PlWds]
      exact ⟨heads_pl _ (by decide), pm, ordS_pl up, trivial⟩
    · simp only [dpW, dpWs]
      omega
  | @span n m h =>
    have pm : PlW (toString ((m : Nat) : Int) : Str) := num_pl m (by omega)
    have e : (spanSD m).label = ("(" : Str) ++ ("span" : Str) ++ (" " : Str) ++ (toString ((m : Nat) : Int) : Str) ++ (")" : Str) := by
      show slabel _ = _
      unfold slabel
      rw [show ("(span " : Str) = ("(" : Str) ++ ("span" : Str) ++ (" " : Str) from by decide +kernel]
    refine ⟨?_, ?_, ?_⟩
    · rw [e, Tk_frm _ (heads_pl _ (by decide)), Tk_word pm]
      rfl
    · simp only [PlWd, PlWds]
      exact ⟨heads_pl _ (by decide), pm, trivial⟩
    · simp only [dpW, dpWs]
      omega
  | @set n c may h0 h =>
    have pm : PlW (toString ((c : Nat) : Int) : Str) := num_pl c (by omega)
    have e : (stSD c may).label = ("(" : Str) ++ ("set" : Str) ++ (" " : Str) ++ ((toString ((c : Nat) : Int) : Str) ++ (" " : Str) ++ joinS may) ++ (")" : Str) := by
      show tlabel _ _ = _
      unfold tlabel
      rw [show ("(set " : Str) = ("(" : Str) ++ ("set" : Str) ++ (" " : Str) from by decide +kernel]
      simp only [str_assoc]
    refine ⟨?_, ?_, ?_⟩
    · rw [e, Tk_frm _ (heads_pl _ (by decide)), Tk_sp, Tk_word pm, Tk_word (joinS_pl may)]
      rfl
    · simp only [PlWd, PlWds]
      exact ⟨heads_pl _ (by decide), pm, joinS_pl may, trivial⟩
    · simp only [dpW, dpWs]
      omega
  | @watch n s h0 h =>
    have pm : PlW (toString ((s : Nat) : Int) : Str) := num_pl s (by omega)
    have e : (wtSD s).label = ("(" : Str) ++ ("watch" : Str) ++ (" " : Str) ++ (toString ((s : Nat) : Int) : Str) ++ (")" : Str) := by
      show wlabel _ = _
      unfold wlabel
      rw [show ("(watch " : Str) = ("(" : Str) ++ ("watch" : Str) ++ (" " : Str) from by decide +kernel]
    refine ⟨?_, ?_, ?_⟩
    · rw [e, Tk_frm _ (heads_pl _ (by decide)), Tk_word pm]
      rfl
    · simp only [PlWd, PlWds]
      exact ⟨heads_pl _ (by decide), pm, trivial⟩
    · simp only [dpW, dpWs]
      omega
  | @turn n d w h o hd ih =>
    have e : (turnSD d).label = ("(" : Str) ++ ("turned" : Str) ++ (" " : Str) ++ d.label ++ (")" : Str) := by
      show ("(turned " : Str) ++ d.label ++ (")" : Str) = _
      rw [show ("(turned " : Str) = ("(" : Str) ++ ("turned" : Str) ++ (" " : Str) from by decide +kernel]
    refine ⟨?_, ?_, ?_⟩
    · rw [e, Tk_frm _ (heads_pl _ (by decide)), ih.1]
      simp only [tkW, tkWs, List.append_nil, List.cons_append, List.nil_append]
    · simp only [PlWd, PlWds]
      exact ⟨heads_pl _ (by decide), ih.2.1, trivial⟩
    · simp only [dpW, dpWs]
      have := ih.2.2
      omega
  | @heap n d w h o l6 hd nd ih =>
    have e : (heapSD d).label = ("(" : Str) ++ ("heap" : Str) ++ (" " : Str) ++ d.label ++ (")" : Str) := by
      show ("(heap " : Str) ++ d.label ++ (")" : Str) = _
      rw [show ("(heap " : Str) = ("(" : Str) ++ ("heap" : Str) ++ (" " : Str) from by decide +kernel]
    refine ⟨?_, ?_, ?_⟩
    · rw [e, Tk_frm _ (heads_pl _ (by decide)), ih.1]
      simp only [tkW, tkWs, List.append_nil, List.cons_append, List.nil_append]
    · simp only [PlWd, PlWds]
      exact ⟨heads_pl _ (by decide), ih.2.1, trivial⟩
    · simp only [dpW, dpWs]
      have := ih.2.2
      omega
  | @pair n d1 d2 w1 w2 h1 h2 o1 o2 l64 hd nd ih1 ih2 =>
    have e : (pairSD d1 d2).label = ("(" : Str) ++ ("pair" : Str) ++ (" " : Str) ++ (d1.label ++ (" " : Str) ++ d2.label) ++ (")" : Str) := by
      show ("(pair " : Str) ++ d1.label ++ (" " : Str) ++ d2.label ++ (")" : Str) = _
      rw [show ("(pair " : Str) = ("(" : Str) ++ ("pair" : Str) ++ (" " : Str) from by decide +kernel]
      simp only [str_assoc]
    refine ⟨?_, ?_, ?_⟩
    · rw [e, Tk_frm _ (heads_pl _ (by decide)), Tk_sp, ih1.1, ih2.1]
      simp only [tkW, tkWs, List.append_nil, List.cons_append, List.nil_append, List.append_assoc]
    · simp only [PlWd, PlWds]
      exact ⟨heads_pl _ (by decide), ih1.2.1, ih2.2.1, trivial⟩
    · simp only [dpW, dpWs]
      have a := ih1.2.2
      have b := ih2.2.2
      omega
theorem Rdb.nw {n : Nat} {d : SD} {w : Wd} (h : Rdb n d w) (hn : n ≤ 9) : nw 12 (toks d.label) = some [w] := by
  obtain ⟨a, b, c⟩ := h.tok
  refine nw_of (ws := [w]) ?_ ?_ ?_
  · rw [a]
    simp only [tkWs, List.append_nil]
  · simp only [PlWds]
    exact ⟨b, trivial⟩
  · simp only [dpWs]
    omega
/-! promises -/
end L2.DS
/-! Lists of texts and tuples of numbers compared; comprehensions over tuples; maps of worths. -/
namespace L2.DS
open PySem PySem.Spec PyProof.Rows
/-! ### maps -/
def mpF : List Str := ["source", "target", "image_places"]
/-- a map of worths from d to e, im the places of the images -/
def MpAt (K : PySem.W.Frag) (Cs : List Addr) (CM : Addr) (d e : SD) (im : List Nat) (m : Addr) (G : Hp) : Prop := ∃ dx fs x y p, G m = some (.ins CM dx fs) ∧ fs.lookup ("source" : Str) = some (.ref x) ∧ fs.lookup ("target" : Str) = some (.ref y) ∧ fs.lookup ("image_places" : Str) = some (.ref p) ∧
  ScD K Cs d x G ∧ ScD K Cs e y G ∧ G p = some (.tup (nVs im)) ∧ im.length = d.names.length ∧ (∀ i ∈ im, i < e.names.length) ∧ ∀ f, f ∉ mpF → fs.lookup f = none
theorem MpAt.mono {K : PySem.W.Frag} {Cs : List Addr} {CM : Addr} {d e : SD} {im : List Nat} {m : Addr} {G G' : Hp} (h : MpAt K Cs CM d e im m G) (s : Same G G') : MpAt K Cs CM d e im m G' := by
  obtain ⟨dx, fs, x, y, p, a, b, c, f, g, h, i, j, k, l⟩ := h
  exact ⟨dx, fs, x, y, p, s _ _ a, b, c, f, g.mono s, h.mono s, s _ _ i, j, k, l⟩
def IsMp (K : PySem.W.Frag) (Cs : List Addr) (CM : Addr) (d e : SD) (im : List Nat) : HR := fun v G => ∃ m, v = .ref m ∧ MpAt K Cs CM d e im m G
instance (K Cs CM d e im) : Mon (IsMp K Cs CM d e im) := ⟨fun s ⟨w, e, h⟩ => ⟨w, e, h.mono s⟩⟩
/-- the names of images -/
def imN (e : SD) (im : List Nat) : List Str := im.map fun i => e.names.getD i ("" : Str)
section
variable {S : SR} {n k : Nat} {te : TE} {σ : L2.St} {G : Hp} {K : PySem.W.Frag} {Cs : List Addr} {CM m : Addr} {d e : SD} {im : List Nat}
theorem MpAt.at (h : MpAt K Cs CM d e im m G) : ∃ dx fs, G m = some (.ins CM dx fs) := by
  obtain ⟨dx, fs, x, y, p, a, _⟩ := h
  exact ⟨dx, fs, a⟩
end
end L2.DS
/-! Small scales of all sorts, that a law makes. -/
namespace L2.DS
open PySem PySem.Spec PyProof.Rows
/-! ### six relations on two states -/
/-! ### one worth alone -/
theorem one_is : TbIs [("a" : Str)] 0 0 (fun _ _ => 0) (fun _ _ => 0) where
  l1 := by decide +kernel
  l2 := by decide +kernel
  nd := by decide +kernel
  ok := by decide +kernel
  so := by decide +kernel
  nv := by decide +kernel
  sl := by decide +kernel
  th := fun a b ha hb => by show (0 : Int) ≤ 0 ∧ (0 : Int) < ((1 : Nat) : Int); omega
  jn := fun a b ha hb => by show (0 : Int) ≤ 0 ∧ (0 : Int) < ((1 : Nat) : Int); omega
def oneSD : SD := tabSD [("a" : Str)] 0 0 (fun _ _ => 0) (fun _ _ => 0)
/-! ### in the opposite order -/
/-- a small scale that is read back from its label -/
structure Smk (d : SD) : Prop where
  o : SdOk d
  r : ∃ w, Rdb 2 d w
  ll : d.label.length ≤ 20000
  n6 : d.names.length ≤ 6
  so : ∀ nm ∈ d.names, PyData.strOk nm = true
theorem smk_tab {names : List Str} {nv sl : Nat} {th jn : Nat → Nat → Int} (T : TbIs names nv sl th jn) (h : names.length ≤ 6) : Smk (tabSD names nv sl th jn) := ⟨T.sd.1, ⟨_, .tab T⟩, T.sd.2, h, T.so⟩
theorem smk_one : Smk oneSD := smk_tab one_is (by decide +kernel)
/-! promises -/
end L2.DS
/-! Maps that a law makes of drawn names. -/
namespace L2.DS
open PySem PySem.Spec PyProof.Rows
/-- a name -/
def IsNm (d : SD) : HR := fun v _ => ∃ i, i < d.names.length ∧ v = .str (d.names.getD i ("" : Str))
instance (d) : Mon (IsNm d) := ⟨fun _ h => h⟩
/-- a map and its list of names, in a list -/
def IsMN (K : PySem.W.Frag) (Cs : List Addr) (CM : Addr) (d e : SD) (im : List Nat) : HR := fun v G => ∃ p m pn, v = .ref p ∧ G p = some (.lst [.ref m, .ref pn]) ∧ MpAt K Cs CM d e im m G ∧ G pn = some (.lst ((imN e im).map V.str))
instance (K Cs CM d e im) : Mon (IsMN K Cs CM d e im) := ⟨fun s ⟨p, m, pn, a, b, c, g⟩ => ⟨p, m, pn, a, s _ _ b, c.mono s, s _ _ g⟩⟩
def IsMNs (K : PySem.W.Frag) (Cs : List Addr) (CM : Addr) (d e : SD) : HR := fun v G => ∃ im, IsMN K Cs CM d e im v G
instance (K Cs CM d e) : Mon (IsMNs K Cs CM d e) := ⟨fun s ⟨im, a⟩ => ⟨im, Mon.mon s a⟩⟩
end L2.DS
/-! A label tells the names. -/
namespace L2.DS
open PySem PySem.Spec PyProof.Rows
def hdW : Wd → Str
  | .l (.w s :: _) => s
  | _ => ""
def tlW : Wd → List Wd
  | .l (_ :: r) => r
  | _ => []
def wS : Wd → Str
  | .w s => s
  | _ => ""
def wL : Wd → List Wd
  | .l ws => ws
  | _ => []
theorem num_inj {m k : Nat} (hm : m < 64) (hk : k < 64) (h : (toString ((m : Nat) : Int) : Str) = (toString ((k : Nat) : Int) : Str)) : m = k := by
  have a := (num_ok m hm).1
  rw [h, (num_ok k hk).1] at a
  have := Option.some.inj a
  omega
theorem ordS_inj : ∀ {u v : Bool}, ordS u = ordS v → u = v := by decide +kernel
theorem joinS_inj : ∀ {u v : Bool}, joinS u = joinS v → u = v := by decide +kernel
theorem mapw_inj : ∀ {a b : List Str}, a.map Wd.w = b.map Wd.w → a = b
  | [], [], _ => rfl
  | [], _ :: _, h => nomatch h
  | _ :: _, [], h => nomatch h
  | x :: a, y :: b, h => by
    obtain ⟨h1, h2⟩ := List.cons.inj h
    rw [Wd.w.inj h1, mapw_inj h2]
theorem Rdb.names {n : Nat} {d : SD} {w : Wd} (h : Rdb n d w) : ∀ {m : Nat} {d' : SD} {w' : Wd}, Rdb m d' w' → w = w' → d.names = d'.names := by
  induction h with
  | tab T =>
    intro m d' w' h' e
    cases h' with
    | tab T' =>
      have t := congrArg tlW e
      exact mapw_inj (congrArg wL (List.cons.inj t).1)
    | _ => exact absurd (congrArg hdW e) (by first | exact (show ¬ (("table" : Str) = ("count" : Str)) by decide +kernel) | exact (show ¬ (("table" : Str) = ("span" : Str)) by decide +kernel) | exact (show ¬ (("table" : Str) = ("set" : Str)) by decide +kernel) | exact (show ¬ (("table" : Str) = ("watch" : Str)) by decide +kernel) | exact (show ¬ (("table" : Str) = ("turned" : Str)) by decide +kernel) | exact (show ¬ (("table" : Str) = ("heap" : Str)) by decide +kernel) | exact (show ¬ (("table" : Str) = ("pair" : Str)) by decide +kernel))
  | cnt hm =>
    intro m d' w' h' e
    cases h' with
    | cnt hk =>
      obtain ⟨t1, t2⟩ := List.cons.inj (congrArg tlW e)
      have e1 := num_inj (by omega) (by omega) (congrArg wS t1)
      have e2 := ordS_inj (congrArg wS (List.cons.inj t2).1)
      rw [e1, e2]
    | _ => exact absurd (congrArg hdW e) (by first | exact (show ¬ (("count" : Str) = ("table" : Str)) by decide +kernel) | exact (show ¬ (("count" : Str) = ("span" : Str)) by decide +kernel) | exact (show ¬ (("count" : Str) = ("set" : Str)) by decide +kernel) | exact (show ¬ (("count" : Str) = ("watch" : Str)) by decide +kernel) | exact (show ¬ (("count" : Str) = ("turned" : Str)) by decide +kernel) | exact (show ¬ (("count" : Str) = ("heap" : Str)) by decide +kernel) | exact (show ¬ (("count" : Str) = ("pair" : Str)) by decide +kernel))
  | span hm =>
    intro m d' w' h' e
    cases h' with
    | span hk =>
      obtain ⟨t1, t2⟩ := List.cons.inj (congrArg tlW e)
      have e1 := num_inj (by omega) (by omega) (congrArg wS t1)
      rw [e1]
    | _ => exact absurd (congrArg hdW e) (by first | exact (show ¬ (("span" : Str) = ("table" : Str)) by decide +kernel) | exact (show ¬ (("span" : Str) = ("count" : Str)) by decide +kernel) | exact (show ¬ (("span" : Str) = ("set" : Str)) by decide +kernel) | exact (show ¬ (("span" : Str) = ("watch" : Str)) by decide +kernel) | exact (show ¬ (("span" : Str) = ("turned" : Str)) by decide +kernel) | exact (show ¬ (("span" : Str) = ("heap" : Str)) by decide +kernel) | exact (show ¬ (("span" : Str) = ("pair" : Str)) by decide +kernel))
  | set h0 hm =>
    intro m d' w' h' e
    cases h' with
    | set h1 hk =>
      obtain ⟨t1, t2⟩ := List.cons.inj (congrArg tlW e)
      have e1 := num_inj (by omega) (by omega) (congrArg wS t1)
      have e2 := joinS_inj (congrArg wS (List.cons.inj t2).1)
      rw [e1, e2]
    | _ => exact absurd (congrArg hdW e) (by first | exact (show ¬ (("set" : Str) = ("table" : Str)) by decide +kernel) | exact (show ¬ (("set" : Str) = ("count" : Str)) by decide +kernel) | exact (show ¬ (("set" : Str) = ("span" : Str)) by decide +kernel) | exact (show ¬ (("set" : Str) = ("watch" : Str)) by decide +kernel) | exact (show ¬ (("set" : Str) = ("turned" : Str)) by decide +kernel) | exact (show ¬ (("set" : Str) = ("heap" : Str)) by decide +kernel) | exact (show ¬ (("set" : Str) = ("pair" : Str)) by decide +kernel))
  | watch h0 hm =>
    intro m d' w' h' e
    cases h' with
    | watch h1 hk =>
      obtain ⟨t1, t2⟩ := List.cons.inj (congrArg tlW e)
      have e1 := num_inj (by omega) (by omega) (congrArg wS t1)
      rw [e1]
    | _ => exact absurd (congrArg hdW e) (by first | exact (show ¬ (("watch" : Str) = ("table" : Str)) by decide +kernel) | exact (show ¬ (("watch" : Str) = ("count" : Str)) by decide +kernel) | exact (show ¬ (("watch" : Str) = ("span" : Str)) by decide +kernel) | exact (show ¬ (("watch" : Str) = ("set" : Str)) by decide +kernel) | exact (show ¬ (("watch" : Str) = ("turned" : Str)) by decide +kernel) | exact (show ¬ (("watch" : Str) = ("heap" : Str)) by decide +kernel) | exact (show ¬ (("watch" : Str) = ("pair" : Str)) by decide +kernel))
  | turn h o hd ih =>
    intro m d' w' h' e
    cases h' with
    | turn h2 o2 hd2 =>
      have := ih h2 (List.cons.inj (congrArg tlW e)).1
      exact this
    | _ => exact absurd (congrArg hdW e) (by first | exact (show ¬ (("turned" : Str) = ("table" : Str)) by decide +kernel) | exact (show ¬ (("turned" : Str) = ("count" : Str)) by decide +kernel) | exact (show ¬ (("turned" : Str) = ("span" : Str)) by decide +kernel) | exact (show ¬ (("turned" : Str) = ("set" : Str)) by decide +kernel) | exact (show ¬ (("turned" : Str) = ("watch" : Str)) by decide +kernel) | exact (show ¬ (("turned" : Str) = ("heap" : Str)) by decide +kernel) | exact (show ¬ (("turned" : Str) = ("pair" : Str)) by decide +kernel))
  | heap h o l6 hd nd ih =>
    intro m d' w' h' e
    cases h' with
    | heap h2 o2 l2 hd2 nd2 => exact congrArg heapNames (ih h2 (List.cons.inj (congrArg tlW e)).1)
    | _ => exact absurd (congrArg hdW e) (by first | exact (show ¬ (("heap" : Str) = ("table" : Str)) by decide +kernel) | exact (show ¬ (("heap" : Str) = ("count" : Str)) by decide +kernel) | exact (show ¬ (("heap" : Str) = ("span" : Str)) by decide +kernel) | exact (show ¬ (("heap" : Str) = ("set" : Str)) by decide +kernel) | exact (show ¬ (("heap" : Str) = ("watch" : Str)) by decide +kernel) | exact (show ¬ (("heap" : Str) = ("turned" : Str)) by decide +kernel) | exact (show ¬ (("heap" : Str) = ("pair" : Str)) by decide +kernel))
  | pair h1 h2 o1 o2 l hd nd ih1 ih2 =>
    intro m d' w' h' e
    cases h' with
    | pair h3 h4 o3 o4 l' hd' nd' =>
      obtain ⟨t1, t2⟩ := List.cons.inj (congrArg tlW e)
      have e1 := ih1 h3 t1
      have e2 := ih2 h4 (List.cons.inj t2).1
      show pairNames _ _ = pairNames _ _
      unfold pairNames
      rw [e1, e2]
    | _ => exact absurd (congrArg hdW e) (by first | exact (show ¬ (("pair" : Str) = ("table" : Str)) by decide +kernel) | exact (show ¬ (("pair" : Str) = ("count" : Str)) by decide +kernel) | exact (show ¬ (("pair" : Str) = ("span" : Str)) by decide +kernel) | exact (show ¬ (("pair" : Str) = ("set" : Str)) by decide +kernel) | exact (show ¬ (("pair" : Str) = ("watch" : Str)) by decide +kernel) | exact (show ¬ (("pair" : Str) = ("turned" : Str)) by decide +kernel) | exact (show ¬ (("pair" : Str) = ("heap" : Str)) by decide +kernel))
theorem Rdb.lab {n m : Nat} {d d' : SD} {w w' : Wd} (h : Rdb n d w) (h' : Rdb m d' w') (hn : n ≤ 9) (hm : m ≤ 9) (e : d.label = d'.label) : d.names = d'.names := by
  have a := h.nw hn
  rw [e, h'.nw hm] at a
  exact h.names h' (List.cons.inj (Option.some.inj a)).1.symm
theorem Smk.lab {d d' : SD} (h : Smk d) (h' : Smk d') (e : d.label = d'.label) : d.names = d'.names := by
  obtain ⟨w, a⟩ := h.r
  obtain ⟨w', a'⟩ := h'.r
  exact a.lab a' (by decide) (by decide) e
end L2.DS
/-! The law's own search for a fault. -/
namespace L2.DS
open PySem PySem.Spec PyProof.Rows
/-- the law's tables of a scale: joins, products, never, still -/
def LTb (d : SD) (p : Addr) (G : Hp) : Prop := ∃ pj pp, G p = some (.lst [.ref pj, .ref pp, .int (d.nv.toNat : Nat), .int (d.sl.toNat : Nat)]) ∧ TabN G pj d.names.length d.jn ∧ TabN G pp d.names.length d.th
theorem LTb.mono {d : SD} {p : Addr} {G G' : Hp} (h : LTb d p G) (s : Same G G') : LTb d p G' := let ⟨a, b, c, e, f⟩ := h; ⟨a, b, s _ _ c, e.mono s, f.mono s⟩
/-! promises -/
/-- tables of m places -/
def LTn (m nv sl : Nat) (th jn : Nat → Nat → Int) (p : Addr) (G : Hp) : Prop := ∃ pj pp, G p = some (.lst [.ref pj, .ref pp, .int (nv : Nat), .int (sl : Nat)]) ∧ TabN G pj m jn ∧ TabN G pp m th
theorem LTn.mono {m nv sl : Nat} {th jn : Nat → Nat → Int} {p : Addr} {G G' : Hp} (h : LTn m nv sl th jn p G) (s : Same G G') : LTn m nv sl th jn p G' := let ⟨a, b, c, e, f⟩ := h; ⟨a, b, s _ _ c, e.mono s, f.mono s⟩
structure LTok (m nv sl : Nat) (th jn : Nat → Nat → Int) : Prop where
  nv : nv < m
  sl : sl < m
  th : ∀ a b, a < m → b < m → 0 ≤ th a b ∧ th a b < m
  jn : ∀ a b, a < m → b < m → 0 ≤ jn a b ∧ jn a b < m
theorem LTn.tab {names : List Str} {nv sl : Nat} {th jn : Nat → Nat → Int} {p : Addr} {G : Hp} (h : LTn names.length nv sl th jn p G) : LTb (tabSD names nv sl th jn) p G := h
theorem LTok.tab {names : List Str} {nv sl : Nat} {th jn : Nat → Nat → Int} (h : LTok names.length nv sl th jn) (l1 : 1 ≤ names.length) (l2 : names.length ≤ 16) (nd : names.Nodup) (ok : ∀ nm ∈ names, okNm nm = true) (so : ∀ nm ∈ names, PyData.strOk nm = true) : TbIs names nv sl th jn := ⟨l1, l2, nd, ok, so, h.nv, h.sl, h.th, h.jn⟩
def IsLT (m : Nat) : HR := fun v G => ∃ p nv sl th jn, v = .ref p ∧ LTn m nv sl th jn p G ∧ LTok m nv sl th jn
instance (m) : Mon (IsLT m) := ⟨fun s ⟨p, nv, sl, th, jn, e, a, b⟩ => ⟨p, nv, sl, th, jn, e, a.mono s, b⟩⟩
def IsLTF (F : Hp) (m : Nat) : HR := fun v G => ∃ p, v = .ref p ∧ F p = none ∧ IsLT m v G
instance (F m) : Mon (IsLTF F m) := ⟨fun s ⟨p, e, f, h⟩ => ⟨p, e, f, Mon.mon s h⟩⟩
/-! ### tables whose lists are new -/
def TabF (F G : Hp) (p : Addr) (n : Nat) (f : Nat → Nat → Int) : Prop := F p = none ∧ ∃ vs, G p = some (.lst vs) ∧ RL (fun a => IsIRn F n (f a)) (List.range n) vs G
theorem TabF.mono {F G G' : Hp} {p : Addr} {n : Nat} {f : Nat → Nat → Int} (h : TabF F G p n f) (s : Same G G') : TabF F G' p n f := ⟨h.1, h.2.choose, s _ _ h.2.choose_spec.1, rl_mon s h.2.choose_spec.2⟩
theorem TabF.tab {F G : Hp} {p : Addr} {n : Nat} {f : Nat → Nat → Int} (h : TabF F G p n f) : TabN G p n f := ⟨_, h.2.choose_spec.1, rl_row h.2.choose_spec.2⟩
/-! ### lists that a def writes into, handed over by its caller -/
/-! ### the answers as data -/
end L2.DS
/-! Lists that grow in one another; joined ways; the rows of a pair and of a heap as the law makes them. -/
namespace L2.DS
open PySem PySem.Spec PyProof.Rows
section
variable {α : Type} {R : α → HR} {S : SR} {n n0 m k c1 : Nat} {te el : TE} {t ta tb : TA} {u t1 t2 : TS} {tt : TT} {σ : L2.St} {G H G1 H1 G3 J G4 H4 : Hp} {nx bk ct : L2.St → Hp → Prop} {rt : VK} {i j : Nat} {K : PySem.W.Frag} {D p : Addr} {ss : List α} {x : α} {acc xs : List V}
/-- the list at D grows; G3 tells all else -/
structure LcO (S : SR) (G1 H1 : Hp) (n : Nat) (D : Addr) (R : α → HR) (ss : List α) (G3 J : Hp) : Prop where
  s : Stp S n G1 H1 G3 J
  d : G3 D = none
  a : ∃ acc, J D = some (.lst acc) ∧ RL R ss acc G3
theorem LcO.q (h : LcO S G1 H1 n D R ss G3 J) : LcQ S G1 H1 n D R ss J := let ⟨acc, a, b⟩ := h.a; ⟨G3, acc, h.s, h.d, a, b⟩
theorem LcQ.o (h : LcQ S G1 H1 n D R ss J) : ∃ G3, LcO S G1 H1 n D R ss G3 J := let ⟨G3, acc, a, b, c, d⟩ := h; ⟨G3, a, b, acc, c, d⟩
theorem LcO.go (st : Stab S) [∀ a, Mon (R a)] (a : S n0 G1 H1) (hD : H1 D = none) (h : LcO S G1 H1 n D R ss G3 J) (s4 : Stp S m G3 J G4 H4) : LcO S G1 H1 m D R ss G4 H4 := by
  obtain ⟨s3, c, acc, d, r⟩ := h
  refine ⟨s3.trans s4, ?_, acc, s4.k.k D _ (st.fre a hD) d, rl_mon s4.g r⟩
  cases e : G4 D with
  | none => rfl
  | some o =>
    rcases s4.n D o e with q | q
    · rw [c] at q
      cases q
    · rw [d] at q
      cases q
theorem LcO.pub (st : Stab S) [∀ a, Mon (R a)] (a : S n0 G1 H1) (hn : n0 ≤ n) (hD : H1 D = none) (h : LcO S G1 H1 n D R ss G3 J) : ∃ G', Stp S n G1 H1 G' J ∧ Same G3 G' ∧ IsNX G1 (RL R ss) (.ref D) G' := by
  obtain ⟨s3, c, acc, d, r⟩ := h
  obtain ⟨b1, b2⟩ := st_pub st a hD s3.s c d
  refine ⟨upd G3 D (.lst acc), ⟨s3.g.trans b2, s3.k, b1, fun b o e => ?_⟩, b2, D, acc, rfl, (st.sub a).free hD, upd_same, rl_mon b2 r⟩
  by_cases hb : b = D
  · rw [hb]
    exact .inr hD
  · rw [upd_ne hb] at e
    exact s3.n b o e
/-- two ways that meet -/
theorem q_ifB {P : Bool → Prop} (st : Stab S) (Jn : L2.St → Hp → Prop) (s : S n G H) (e : EvT S n k tt σ G P) (hu : ∀ σ' H', Jn σ' H' → u (Ends.mk nx rt bk ct) σ' H')
    (h1 : ∀ H', (∀ σ' H', Jn σ' H' → u (Ends.mk nx rt bk ct) σ' H') → P true → Kp S H H' → S (n + k) G H' → t1 (Ends.mk (u (Ends.mk nx rt bk ct)) rt bk ct) σ H')
    (h2 : ∀ H', (∀ σ' H', Jn σ' H' → u (Ends.mk nx rt bk ct) σ' H') → P false → Kp S H H' → S (n + k) G H' → t2 (Ends.mk (u (Ends.mk nx rt bk ct)) rt bk ct) σ H') : tSeq (tIfS tt t1 t2) u (Ends.mk nx rt bk ct) σ H :=
  q_if st s e (fun H' p k s => h1 H' hu p k s) (fun H' p k s => h2 H' hu p k s)
end
def IsTbN (n : Nat) (f : Nat → Nat → Int) : HR := fun v G => ∃ p, v = .ref p ∧ TabN G p n f
instance (n f) : Mon (IsTbN n f) := ⟨fun s ⟨p, e, h⟩ => ⟨p, e, h.mono s⟩⟩
/-! the tables behind the changes -/
end L2.DS
/-! Regular maps: their growing, worth by worth. -/
namespace L2.DS
open PySem PySem.Spec PyProof.Rows
/-! ### plain -/
def rF (d : SD) (w : Bool) (a b : Nat) : Nat := if w then d.J a b else d.T a b
theorem SdOk.r {d : SD} (o : SdOk d) {w : Bool} {a b : Nat} (ha : a < d.names.length) (hb : b < d.names.length) : rF d w a b < d.names.length := by
  unfold rF
  split
  · exact (o.J ha hb).2
  · exact (o.T ha hb).2
/-! ### tuples of places -/
def IsTI (K : PySem.W.Frag) (im : List Nat) : HR := IsT K (nVs im)
instance (K im) : Mon (IsTI K im) := inferInstanceAs (Mon (IsT K (nVs im)))
/-! ### lists of lists of places -/
/-! ### promises -/
end L2.DS
/-! New instances whose making a try watches; makers that raise. -/
namespace L2.DS
open PySem PySem.Spec PyProof.Rows
def tMakeS (C : Addr) (sp : Sp) (dvs : List V) (E : L2.St → XK) (t : TA) : TE := fun σ H Q => tMake C sp dvs (E σ) t σ H Q
def tMakeKS (C : Addr) (m1 m2 : Nat) (sp : Sp) (gV : List V → List V → List V) (E : L2.St → XK) (t tk : TA) : TE := fun σ H Q => tMakeK C m1 m2 sp gV (E σ) t tk σ H Q
section
variable {X : Cx} {CX : CXT} {k n m : Nat} {f C : Addr} {fd : FuncData} {ps ks : List Str} {sp : Sp} {dvs : List V} {ds : List Value} {E : L2.St → XK} {x : Str} {p pos : Pos} {e : Expr} {es : List Expr} {t tk : TA} {kws : List Keyword} {gV : List V → List V → List V} {g : List Value → List Value → List Value}
theorem run_mkS {pins : List (Addr × Obj)} {σ : L2.St} {H : Hp} {s : Shared} {Q : VK} {us : List Value} {vs : List V} (mk : Mk X.K C f) (fn : FnOk X.prog X.w X.K X.mg X.base CX k f fd ps sp) (room : Room (k + 1) X.A) (bd : Binds X.K fd ps ds) (dv : Vals dvs ds)
    (ps_ : PassesAt CX X σ (E σ)) (I : Inv X pins σ H s) (r : Vals vs us) (h : tMake C sp dvs (E σ) (fun _ H' Q' => Q' vs H') σ H Q) :
    wpAny (model X.prog X.w) X.A (call (.ref C) us) (EP X pins σ Q) X.xe s := by
  have start := h _ _ (I.hok.fresh (Nat.le_succ s.heap.objs.size)) (I.hok.fresh (Nat.le_refl s.heap.objs.size)) (Nat.ne_of_lt (Nat.lt_succ_self s.heap.objs.size))
  have made := Inv.made (C := C) I
  have vals : Vals (V.ref (s.heap.objs.size + 1) :: (vs ++ dvs)) (Value.ref (s.heap.objs.size + 1) :: (us ++ ds)) := .cons rfl (r.append dv)
  have len : (Value.ref (s.heap.objs.size + 1) :: us ++ ds).length = ps.length := (vals.length.symm.trans (fn.len _ _ _ _ start))
  have ran := fn.run _ X.stack _ _ ⟨Value.ref (s.heap.objs.size + 1) :: us, []⟩ (Value.ref (s.heap.objs.size + 1) :: (us ++ ds)) _ _ (E σ) (room.make C us []) (made.env0.make C us []) (bd _ (Value.ref (s.heap.objs.size + 1) :: us) made.kIn len) vals start
  refine wpAny_call (make_map (f := f) I.kIn mk.makes mk.init (beq_iff_eq.mp mk.fn) (codeAny_mono ran fun out s' post => ?_))
  match out, post with
  | .error u, post => exact ps_ pins _ _ u s' made post
  | .ok (.ret u), post =>
    obtain ⟨v, J, I', rel, rfl, fin⟩ := made.after post
    exact ⟨rel, V.ref (s.heap.objs.size + 1), J, I', rfl, fin⟩
  | .ok .next, post => exact post.elim
  | .ok .brk, post => exact post.elim
  | .ok .cont, post => exact post.elim
theorem pe_makeSC (c : Maker X.prog X.w X.K X.mg X.base x C CX k ps dvs sp) (hr : Room (k + 1) X.A) (hx : ∀ σ, PassesAt CX X σ (E σ)) (ha : PA X (e :: es) t) (hg : Gl X x := by rfl) (hdb : (x == ("__debug__" : Str)) = false := by decide)
    (he : starEach (e :: es) X.env = (false, eval e X.env) :: starEach es X.env := by rfl) (hpl : (backTo pos (starEach es X.env)).any (·.1) = false := by rfl) : PE X (.Call (.Name x p) (e :: es) [] pos) (tMakeS C sp dvs E t) := by
  obtain ⟨f, fd, ds, h1, h2, h3, h4, h5⟩ := c
  refine ⟨fun pins s σ H Q I h => wpAny_Call_Name_kw (ld_glob I hg h1 ?_ hdb)⟩
  exact PySem.W.callWith_K (h₀ := X.base) I.ok.mod.kin h2.kp (thn (ha.run pos pins s σ H _ I h) fun us s1 ⟨vs, H1, I1, r, q⟩ => ⟨I1.kIn, run_mkS h2 h3 hr h4 h5 (hx σ) I1 r q⟩) he hpl
theorem run_mkKS {pins : List (Addr × Obj)} {σ : L2.St} {H : Hp} {s : Shared} {Q : VK} {us ws : List Value} {vs zs : List V} (mk : Mk X.K C f) (fn : FnOk X.prog X.w X.K X.mg X.base CX k f fd ps sp) (room : Room (k + 1) X.A) (bd : KBn X.K fd ps (n + 1) ks g gV)
    (ps_ : PassesAt CX X σ (E σ)) (I : Inv X pins σ H s) (r : Vals vs us) (rk : Vals zs ws) (h : tMakeK C n ks.length sp gV (E σ) (fun _ H' Q' => Q' vs H') (fun _ H' Q' => Q' zs H') σ H Q) :
    wpAny (model X.prog X.w) X.A (call (.ref C) us (ks.zip ws)) (EP X pins σ Q) X.xe s := by
  obtain ⟨c1, c2, h⟩ := h
  have start := h _ _ (I.hok.fresh (Nat.le_succ s.heap.objs.size)) (I.hok.fresh (Nat.le_refl s.heap.objs.size)) (Nat.ne_of_lt (Nat.lt_succ_self s.heap.objs.size))
  have made := Inv.made (C := C) I
  have all : Vals (V.ref (s.heap.objs.size + 1) :: vs) (Value.ref (s.heap.objs.size + 1) :: us) := .cons rfl r
  have many : (Value.ref (s.heap.objs.size + 1) :: us).length = n + 1 := by rw [List.length_cons, ← r.length, c1]
  have more : ws.length = ks.length := by rw [← rk.length, c2]
  have ran := fn.run _ X.stack _ _ ⟨Value.ref (s.heap.objs.size + 1) :: us, ks.zip ws⟩ (g (Value.ref (s.heap.objs.size + 1) :: us) ws) _ _ (E σ) (room.make C us (ks.zip ws)) (made.env0.make C us (ks.zip ws)) (bd.to _ (Value.ref (s.heap.objs.size + 1) :: us) ws made.kIn many more) (bd.rel all rk) start
  refine wpAny_call (make_map (f := f) I.kIn mk.makes mk.init (beq_iff_eq.mp mk.fn) (codeAny_mono ran fun out s' post => ?_))
  match out, post with
  | .error u, post => exact ps_ pins _ _ u s' made post
  | .ok (.ret u), post =>
    obtain ⟨v, J, I', rel, rfl, fin⟩ := made.after post
    exact ⟨rel, V.ref (s.heap.objs.size + 1), J, I', rfl, fin⟩
  | .ok .next, post => exact post.elim
  | .ok .brk, post => exact post.elim
  | .ok .cont, post => exact post.elim
theorem pe_makeKSC (c : MakerK X.prog X.w X.K X.mg X.base x C CX k ps n ks gV sp) (room : Room (k + 1) X.A) (through : ∀ σ, PassesAt CX X σ (E σ)) (ha : PA X (e :: es) t) (hkw : PK X kws tk) (hg : Gl X x := by rfl)
    (named : (backToKw pos (keywordEach kws X.env)).all (·.1.isSome) = true := by rfl) (hks : (backToKw pos (keywordEach kws X.env)).filterMap (·.1) = ks := by rfl) (hdb : (x == ("__debug__" : Str)) = false := by decide)
    (he : starEach (e :: es) X.env = (false, eval e X.env) :: starEach es X.env := by rfl) (plain : ((backTo pos (starEach (e :: es) X.env)).any (·.1) || (backToKw pos (keywordEach kws X.env)).any (·.1.isNone)) = false := by rfl) :
    PE X (.Call (.Name x p) (e :: es) kws pos) (tMakeKS C n ks.length sp gV E t tk) := by
  obtain ⟨f, fd, g, h1, h2, h3, h4⟩ := c
  refine ⟨fun pins s σ H Q I h => wpAny_Call_Name_kw (ld_glob I hg h1 ?_ hdb)⟩
  refine PySem.W.callWith_KW (h₀ := X.base) I.ok.mod.kin h2.kp named (thn (ha.run pos pins s σ H _ I h) fun us t1 got => ?_) plain he
  obtain ⟨vs, H1, I1, r, q⟩ := got
  refine thn (hkw.run pos pins t1 σ H1 _ I1 q) fun ws t2 kept => ?_
  obtain ⟨zs, H2, I2, rk, q2⟩ := kept
  refine ⟨I2.kIn, ?_⟩
  rw [hks]
  exact run_mkKS h2 h3 room h4 (through σ) I2 r rk q2
end
/-! ### makers that raise -/
/-- C(..) raises U, as PB tells of the arguments -/
def spXI (U : Addr) (PB : List V → Hp → Prop) : Sp := fun vs H Q E => ∃ x C dx rest G, vs = .ref x :: rest ∧ H x = some (.ins C dx []) ∧ Same G H ∧ G x = none ∧ PB rest G ∧ ∀ fs' G' H', Own G H x (.ins C dx fs') 0 G' H' → E (.ref U) none H'
section
variable {S : SR} {n ka kb : Nat} {t tk : TA} {σ : L2.St} {G H : Hp} {C U : Addr} {E : L2.St → XK} {dvs ws zs : List V} {m1 m2 : Nat} {gV : List V → List V → List V} {RA RB : HRs} {P : Addr → List (Str × V) → List V → Hp → OR → Prop} {PB : List V → Hp → Prop} {Q : VK} {R : OR}
/-- what a maker of either kind does -/
def tMk2 (C : Addr) (sp : Sp) (E : XK) (H3 : Hp) (Q : VK) (all : V → List V) : Prop := ∀ x dx, H3 x = none → H3 dx = none → dx ≠ x → sp (all (.ref x)) (upd (upd H3 dx (.own x)) x (.ins C dx [])) (fun v H4 => v = .non ∧ Q (.ref x) H4) E
theorem mk2_ok (st : Stab S) {H3 : Hp} {all : V → List V} {rest : List V} {E1 : XK} (s3 : S n G H3) (hg : ∀ x, all (.ref x) = .ref x :: rest) (hP : P C [] rest G R) (q : ∀ v G' H', Stp S n G H3 G' H' → IsO C R v G' → Q v H') : tMk2 C (spE (spI P) (spXI U PB)) E1 H3 Q all := fun x dx hx hd nd => by
  obtain ⟨a, b⟩ := made_start (C := C) (x := x) (dx := dx) st s3 hx hd
  refine .inl ⟨x, C, dx, [], rest, G, R, hg x, upd_same, a, b, hP, fun fs' G' H' w r => ⟨rfl, ?_⟩⟩
  exact q (.ref x) _ H' (made_stp st s3 hx hd nd w) ⟨x, dx, fs', G', rfl, w.2.1, Same.refl _, r⟩
theorem mk2_bad (st : Stab S) {H3 : Hp} {all : V → List V} {rest : List V} {E1 : XK} (s3 : S n G H3) (hg : ∀ x, all (.ref x) = .ref x :: rest) (hP : PB rest G) (q : ∀ H', Kp S H3 H' → S n G H' → E1 (.ref U) none H') : tMk2 C (spE (spI P) (spXI U PB)) E1 H3 Q all := fun x dx hx hd nd => by
  obtain ⟨a, b⟩ := made_start (C := C) (x := x) (dx := dx) st s3 hx hd
  refine .inr ⟨x, C, dx, rest, G, hg x, upd_same, a, b, hP, fun fs' G' H' w => ?_⟩
  have z := made_stp st s3 hx hd nd w
  exact q H' z.k (st.anti s3 z.s z.g)
/-- C(..) within a try, all told: what is made, or what is raised -/
theorem run_mk2 (st : Stab S) (s : S n G H) (h : EvA S n ka t σ G RA) (q : ∀ vs G' H', Stp S (n + ka) G H G' H' → RA vs G' → tMk2 C (spE (spI P) (spXI U PB)) (E σ) H' Q fun x => x :: (vs ++ dvs)) : tMakeS C (spE (spI P) (spXI U PB)) dvs E t σ H Q :=
  h G H (Same.refl _) s _ fun vs G2 H2 s2 e => fun x dx hx hd nd => q vs G2 H2 s2 e x dx hx hd nd
theorem run_mk2K (st : Stab S) (s : S n G H) (h : EvA S n ka t σ G RA) (hk : ∀ G', Same G G' → EvA S (n + ka) kb tk σ G' RB) (l1 : ∀ vs G', RA vs G' → vs.length = m1) (l2 : ∀ vs G', RB vs G' → vs.length = m2)
    (q : ∀ vs zs G1 G' H', Stp S (n + ka + kb) G H G' H' → Same G1 G' → RA vs G1 → RB zs G' → tMk2 C (spE (spI P) (spXI U PB)) (E σ) H' Q fun x => gV (x :: vs) zs) : tMakeKS C m1 m2 (spE (spI P) (spXI U PB)) gV E t tk σ H Q :=
  h G H (Same.refl _) s _ fun vs G2 H2 s2 e => hk G2 s2.g G2 H2 (Same.refl _) s2.s _ fun zs G3 H3 s3 e' => ⟨l1 vs G2 e, l2 zs G3 e', fun x dx hx hd nd => q vs zs G2 G3 H3 (s2.trans s3) s3.g e e' x dx hx hd nd⟩
variable {i : Nat} {u : TS} {nx bk ct : L2.St → Hp → Prop} {rt : VK}
/-- name = C(..) within a try -/
theorem q_mk2 {E : L2.St → XK} (st : Stab S) (s : S n G H) (h : EvA S n ka t σ G RA) (q : ∀ vs G' H', Stp S (n + ka) G H G' H' → RA vs G' → tMk2 C (spE (spI P) (spXI U PB)) (E σ) H' (fun v J => u (Ends.mk nx rt bk ct) (σ.set i (some v)) J) fun x => x :: (vs ++ dvs)) :
    tSeq (tAsg (tMakeS C (spE (spI P) (spXI U PB)) dvs E t) (gName i)) u (Ends.mk nx rt bk ct) σ H := run_mk2 st s h q
/-- name = [C(..).f] within a try -/
theorem q_mk2F {K : PySem.W.Frag} {f : Str} {E : L2.St → XK} (st : Stab S) (s : S n G H) (h : EvA S n ka t σ G RA) (q : ∀ vs G' H', Stp S (n + ka) G H G' H' → RA vs G' → tMk2 C (spE (spI P) (spXI U PB)) (E σ) H' (fun v J => tSeq (tAsg (tLst (tCons (tFld K (tC v) f) tNil)) (gName i)) u (Ends.mk nx rt bk ct) σ J) fun x => x :: (vs ++ dvs)) :
    tSeq (tAsg (tLst (tCons (tFld K (tMakeS C (spE (spI P) (spXI U PB)) dvs E t) f) tNil)) (gName i)) u (Ends.mk nx rt bk ct) σ H := run_mk2 st s h q
/-- name = [C(.., k = v).f] within a try -/
theorem q_mk2KF {K : PySem.W.Frag} {f : Str} {E : L2.St → XK} (st : Stab S) (s : S n G H) (h : EvA S n ka t σ G RA) (hk : ∀ G', Same G G' → EvA S (n + ka) kb tk σ G' RB) (l1 : ∀ vs G', RA vs G' → vs.length = m1) (l2 : ∀ vs G', RB vs G' → vs.length = m2)
    (q : ∀ vs zs G1 G' H', Stp S (n + ka + kb) G H G' H' → Same G1 G' → RA vs G1 → RB zs G' → tMk2 C (spE (spI P) (spXI U PB)) (E σ) H' (fun v J => tSeq (tAsg (tLst (tCons (tFld K (tC v) f) tNil)) (gName i)) u (Ends.mk nx rt bk ct) σ J) fun x => gV (x :: vs) zs) :
    tSeq (tAsg (tLst (tCons (tFld K (tMakeKS C m1 m2 (spE (spI P) (spXI U PB)) gV E t tk) f) tNil)) (gName i)) u (Ends.mk nx rt bk ct) σ H := run_mk2K st s h hk l1 l2 q
/-- a call that always raises, as what stands tells -/
theorem ev_callF {sp : Sp} {E1 : XK} {RA : HRs} {R1 : HR} (h : EvA S n ka t σ G RA) (q : ∀ vs G' H' Q', S (n + ka) G' H' → Same G G' → RA vs G' → sp (vs ++ dvs) H' Q' E1) : Ev S n ka (tCall sp dvs E1 t) σ G R1 := fun G1 H1 s0 s Q _ =>
  h G1 H1 s0 s _ fun vs G2 H2 s2 e => q vs G2 H2 Q s2.s (s0.trans s2.g) e
end
end L2.DS
/-! Scales around each other up to ten deep; the sizes that are due. -/
namespace L2.DS
open PySem PySem.Spec PyProof.Rows
/-- a scale around others, each around one of one worth -/
structure DpT (d : SD) : Prop where
  ok : SdOk d
  wd : ∀ nm ∈ d.names, okW nm
  d1 : 1 ≤ d.dep
  d2 : d.dep ≤ 10
  nl : ∀ nm ∈ d.names, nm.length ≤ d.names.length * (20 + 4 * d.dep.toNat)
  ll : d.label.length + 50 ≤ 200 * d.dep.toNat
theorem one_dep : oneSD.dep = 1 ∧ oneSD.names.length = 1 ∧ oneSD.label.length ≤ 100 ∧ ∀ nm ∈ oneSD.names, okW nm ∧ nm.length ≤ 1 := by decide +kernel
theorem dpt_one : DpT oneSD := by
  obtain ⟨a, b, c, d⟩ := one_dep
  exact ⟨smk_one.o, fun nm h => (d nm h).1, by omega, by omega, fun nm h => Nat.le_trans (d nm h).2 (by rw [a, b]; decide), by rw [a]; show _ ≤ 200; omega⟩
theorem dpt_cnt : DpT (cntSD 62 true) := by
  have t := tr_cnt (t := 62) (by decide) true
  have hd : (cntSD 62 true).dep = 1 := rfl
  have hl : (cntSD 62 true).names.length = 64 := cwords_len 62
  exact ⟨t.ok, t.wd, by omega, by omega, fun nm h => Nat.le_trans (t.nl nm h) (by rw [hd, hl]; decide), by have q := t.ll; rw [hd]; show _ ≤ 200; unfold lbB at q; omega⟩
theorem dep_turn {d : SD} (h : 1 ≤ d.dep) : (turnSD d).dep = d.dep + 1 := depL1 h
theorem dep_heap {d : SD} (h : 1 ≤ d.dep) : (heapSD d).dep = d.dep + 1 := depL1 h
theorem dep_pairL {d : SD} (h : 1 ≤ d.dep) : depL [d, oneSD] = d.dep + 1 := by
  have e := one_dep.1
  simp only [depL, List.foldl_cons, List.foldl_nil]
  rw [e, if_pos (show d.dep ≥ 1 from h), if_neg (by omega)]
theorem dep_pairR {d : SD} (h : 1 ≤ d.dep) : depL [oneSD, d] = d.dep + 1 := by
  have e := one_dep.1
  simp only [depL, List.foldl_cons, List.foldl_nil]
  rw [e, if_pos (show (1 : Int) ≥ 1 by decide)]
  split <;> omega
theorem dpt_turn {d : SD} (h : DpT d) (hd : d.dep ≤ 9) : DpT (turnSD d) := by
  have c1 : ("(turned " : Str).length = 8 ∧ (")" : Str).length = 1 := by decide +kernel
  have e := dep_turn h.d1
  have ll := h.ll
  have d1 := h.d1
  have en : (turnSD d).names = d.names := rfl
  refine ⟨h.ok.turn (by omega), h.wd, by omega, by omega, fun nm m => Nat.le_trans (h.nl nm m) (by rw [e, en]; exact Nat.mul_le_mul_left _ (by omega)), ?_⟩
  rw [e]
  show (("(turned " : Str) ++ d.label ++ (")" : Str)).length + 50 ≤ _
  rw [Str.length_append, Str.length_append]
  omega
theorem dpt_pairG {d1 d2 : SD} (h1 : DpT d1) (h2 : DpT d2) (hd1 : d1.dep ≤ 9) (hd : depL [d1, d2] ≤ 10) (he : (depL [d1, d2]).toNat = d1.dep.toNat + d2.dep.toNat) (h64 : d1.names.length * d2.names.length ≤ 64)
    (nl : ∀ nm ∈ pairNames d1 d2, nm.length ≤ (d1.names.length * d2.names.length) * (20 + 4 * (depL [d1, d2]).toNat)) (hp : 1 ≤ depL [d1, d2]) (hdd : d2.dep ≤ 9) : DpT (pairSD d1 d2) := by
  have c1 : ("(pair " : Str).length = 6 ∧ (" " : Str).length = 1 ∧ (")" : Str).length = 1 := by decide +kernel
  obtain ⟨nd, wd⟩ := pair_word h1.ok.nd h2.ok.nd h1.wd h2.wd
  have l1 := h1.ll
  have l2 := h2.ll
  have hl : (pairSD d1 d2).names.length = d1.names.length * d2.names.length := pairNames_len d1 d2
  have de : (pairSD d1 d2).dep = depL [d1, d2] := rfl
  have p1 := h1.d1
  have p2 := h2.d1
  refine ⟨h1.ok.pair h2.ok h64 nd (fun nm h => Nat.le_trans (nl nm h) ?_) (by omega) (by omega), wd, by omega, by omega, fun nm m => by rw [hl, de]; exact nl nm m, ?_⟩
  · exact Nat.le_trans (Nat.mul_le_mul h64 (show 20 + 4 * (depL [d1, d2]).toNat ≤ 60 by omega)) (by decide)
  · rw [de, he]
    show (("(pair " : Str) ++ d1.label ++ (" " : Str) ++ d2.label ++ (")" : Str)).length + 50 ≤ _
    rw [Str.length_append, Str.length_append, Str.length_append, Str.length_append]
    omega
theorem dpt_pairL {d : SD} (h : DpT d) (hd : d.dep ≤ 9) : DpT (pairSD d oneSD) ∧ (pairSD d oneSD).dep = d.dep + 1 ∧ (pairSD d oneSD).names.length = d.names.length := by
  obtain ⟨a, b, c, o⟩ := one_dep
  have e := dep_pairL h.d1
  have p1 := h.d1
  have l1 := h.ok.l1
  have l2 := h.ok.l2
  have hl : (pairSD d oneSD).names.length = d.names.length * oneSD.names.length := pairNames_len d oneSD
  refine ⟨dpt_pairG h dpt_one hd (by omega) (by omega) (by rw [b]; omega) (fun nm hm => ?_) (by omega) (by omega), e, by rw [hl, b]; omega⟩
  unfold pairNames at hm
  obtain ⟨i, hi, hm⟩ := List.mem_flatMap.mp hm
  obtain ⟨j, hj, rfl⟩ := List.mem_map.mp hm
  have c1 : ("<" : Str).length = 1 ∧ ("/" : Str).length = 1 ∧ (">" : Str).length = 1 := by decide +kernel
  have z1 := getD_le h.nl (List.mem_range.mp hi)
  have z2 := getD_le (fun nm h => (o nm h).2) (List.mem_range.mp hj)
  rw [Str.length_append, Str.length_append, Str.length_append, Str.length_append, b, Nat.mul_one, e, show (d.dep + 1).toNat = d.dep.toNat + 1 by omega, show 20 + 4 * (d.dep.toNat + 1) = (20 + 4 * d.dep.toNat) + 4 by omega, Nat.mul_add]
  omega
theorem dpt_pairR {d : SD} (h : DpT d) (hd : d.dep ≤ 9) : DpT (pairSD oneSD d) ∧ (pairSD oneSD d).dep = d.dep + 1 ∧ (pairSD oneSD d).names.length = d.names.length := by
  obtain ⟨a, b, c, o⟩ := one_dep
  have e := dep_pairR h.d1
  have p1 := h.d1
  have l1 := h.ok.l1
  have l2 := h.ok.l2
  have hl : (pairSD oneSD d).names.length = oneSD.names.length * d.names.length := pairNames_len oneSD d
  refine ⟨dpt_pairG dpt_one h (by omega) (by omega) (by omega) (by rw [b]; omega) (fun nm hm => ?_) (by omega) (by omega), e, by rw [hl, b]; omega⟩
  unfold pairNames at hm
  obtain ⟨i, hi, hm⟩ := List.mem_flatMap.mp hm
  obtain ⟨j, hj, rfl⟩ := List.mem_map.mp hm
  have c1 : ("<" : Str).length = 1 ∧ ("/" : Str).length = 1 ∧ (">" : Str).length = 1 := by decide +kernel
  have z1 := getD_le (fun nm h => (o nm h).2) (List.mem_range.mp hi)
  have z2 := getD_le h.nl (List.mem_range.mp hj)
  rw [Str.length_append, Str.length_append, Str.length_append, Str.length_append, b, Nat.one_mul, e, show (d.dep + 1).toNat = d.dep.toNat + 1 by omega, show 20 + 4 * (d.dep.toNat + 1) = (20 + 4 * d.dep.toNat) + 4 by omega, Nat.mul_add]
  omega
theorem dpt_heap {d : SD} (h : DpT d) (hd : d.dep ≤ 9) (hs : d.names.length = 1 ∨ d.names.length = 2 ∨ d.names.length = 4) : DpT (heapSD d) := by
  have c1 : ("{" : Str).length = 1 ∧ ("}" : Str).length = 1 := by decide +kernel
  obtain ⟨nd, wd⟩ := heap_word h.ok.nd h.wd
  have o := h.ok
  have e := dep_heap h.d1
  have p1 := h.d1
  have l2 := h.ll
  have ln : (heapSD d).names.length = 2 ^ d.names.length := heapNames_len d.names
  have p6 : 2 ^ d.names.length ≤ 16 := by rcases hs with q | q | q <;> rw [q] <;> decide
  have l0 : 1 ≤ 2 ^ d.names.length := Nat.one_le_two_pow
  have nl : ∀ nm ∈ heapNames d.names, nm.length ≤ 2 ^ d.names.length * (20 + 4 * (d.dep.toNat + 1)) := by
    intro nm hm
    obtain ⟨a, ha, rfl⟩ := List.mem_map.mp hm
    obtain ⟨L, hL⟩ : ∃ L, L = d.names.length * (20 + 4 * d.dep.toNat) := ⟨_, rfl⟩
    have z := (joinC_len ((bitsOf d.names.length a).map fun k => d.names.getD k ("" : Str)) L (fun y hy => by
      obtain ⟨k, hk, rfl⟩ := List.mem_map.mp hy
      rw [hL]
      exact getD_le h.nl (bits_lt hk))).2
    have z2 := bits_len d.names.length a
    rw [List.length_map] at z
    have z4 : (bitsOf d.names.length a).length * (L + 1) ≤ d.names.length * (L + 1) := Nat.mul_le_mul_right _ z2
    unfold heapName
    rw [Str.length_append, Str.length_append]
    have key : d.names.length * (L + 1) + 2 ≤ 2 ^ d.names.length * (20 + 4 * (d.dep.toNat + 1)) := by
      rcases hs with q | q | q <;> rw [q] at hL ⊢
      · show _ ≤ 2 * _
        omega
      · show _ ≤ 4 * _
        omega
      · show _ ≤ 16 * _
        omega
    omega
  have hsl := o.sl
  have esl : (heapSD d).sl = ((2 ^ d.sl.toNat : Nat) : Int) := by
    show (1 : Int) * 2 ^ d.sl.toNat = _
    rw [Int.one_mul, Int.natCast_pow]
    rfl
  refine ⟨⟨nd, by omega, by omega, fun nm h => Nat.le_trans (nl nm h) (Nat.le_trans (Nat.mul_le_mul p6 (show 20 + 4 * (d.dep.toNat + 1) ≤ 60 by omega)) (by decide)), by rw [heap_label]; omega, ?_, ?_, fun a b ha hb => ?_, fun a b ha hb => ?_⟩, wd, by omega, by omega, fun nm m => ?_, by rw [heap_label, e]; omega⟩
  · show (0 : Int) ≤ 0 ∧ (0 : Int) < ((heapSD d).names.length : Nat)
    omega
  · rw [esl, ln]
    have : 2 ^ d.sl.toNat < 2 ^ d.names.length := Nat.pow_lt_pow_right (by decide) (by omega)
    exact ⟨Int.natCast_nonneg _, Int.ofNat_lt.mpr this⟩
  · rw [ln]
    have := orL_lt (prod_lt (a := a) (b := b) o.th)
    show 0 ≤ hth d.names.length d.th a b ∧ hth d.names.length d.th a b < _
    rw [hth_is]
    omega
  · rw [ln] at ha hb ⊢
    show 0 ≤ Builtin.bitOr (a : Nat) (b : Nat) ∧ Builtin.bitOr (a : Nat) (b : Nat) < _
    rw [bor_nat]
    have := Nat.or_lt_two_pow ha hb
    omega
  · rw [ln, e, show (d.dep + 1).toNat = d.dep.toNat + 1 by omega]
    exact nl nm m
/-! ### what is refused -/
def PCsX : List V → Hp → Prop := fun rest _ => ∃ (m : Int) (o : Str), rest = [.int m, .str o] ∧ ((o ≠ "up" ∧ o ≠ "down") ∨ m < 0 ∨ 62 < m)
def PSpX : List V → Hp → Prop := fun rest _ => ∃ m : Int, rest = [.int m] ∧ m < 2 ^ 300 ∧ (m < 0 ∨ 9 < m)
def PStX : List V → Hp → Prop := fun rest _ => ∃ (m : Int) (o : Str), rest = [.int m, .str o] ∧ ((o ≠ "may" ∧ o ≠ "must") ∨ m < 1 ∨ 5 < m)
def PWtX : List V → Hp → Prop := fun rest _ => ∃ m : Int, rest = [.int m] ∧ m ≠ 1 ∧ m ≠ 2
def PPrX (K : PySem.W.Frag) (Cs : List Addr) : List V → Hp → Prop := fun rest G => ∃ (l r : Addr) (d1 d2 : SD), rest = [.ref l, .ref r] ∧ ScD K Cs d1 l G ∧ ScD K Cs d2 r G ∧ d1.names.length ≤ 64 ∧ d2.names.length ≤ 64 ∧ (64 < d1.names.length * d2.names.length ∨ 10 < depL [d1, d2])
def PTuX (K : PySem.W.Frag) (Cs : List Addr) : List V → Hp → Prop := fun rest G => ∃ (l : Addr) (d : SD), rest = [.ref l] ∧ ScD K Cs d l G ∧ 10 < depL [d]
def PHpX (K : PySem.W.Frag) (Cs : List Addr) : List V → Hp → Prop := fun rest G => ∃ (l : Addr) (d : SD), rest = [.ref l] ∧ ScD K Cs d l G ∧ d.names.length ≤ 64 ∧ (6 < d.names.length ∨ 10 < depL [d])
/-! ### what C(..) gives, or that it is refused -/
/-- the sizes that the law expects, -1 where a scale is refused -/
def famSz (kd m : Int) (s : Str) : Int :=
  if kd = 0 then (if (0 ≤ m ∧ m ≤ 62) ∧ (s = "up" ∨ s = "down") then m + 2 else -1)
  else if kd = 1 then (if 0 ≤ m ∧ m ≤ 9 then (m + 1) * (m + 2) / 2 + 1 else -1)
  else if kd = 2 then (if (1 ≤ m ∧ m ≤ 5) ∧ (s = "may" ∨ s = "must") then 1 * 2 ^ m.toNat + 1 else -1)
  else if m = 1 then 2 else if m = 2 then 16 else -1
/-- a list told by its size -/
def famL (z : Int) : List V := if z < 0 then [.int (-1), .bl true] else [.int z]
def PNum6 (sa : Addr) (vs : List V) (n k : Nat) (G : Hp) (R : HR) : Prop := ∃ a b : Int, vs = [.ref sa, .int a, .int b] ∧ -10 ≤ a ∧ a ≤ b ∧ b ≤ 100 ∧ n < 2 ^ 50 ∧ k = 2 ∧ R = IsI fun z => -(10 ^ 60) ≤ z ∧ z < 10 ^ 60
def PFsz (K : PySem.W.Frag) : List V → Hp → HR → Prop := fun vs _ R => ∃ (kd m : Int) (s : Str), vs = [.int kd, .int m, .str s] ∧ 0 ≤ kd ∧ kd < 4 ∧ -(10 ^ 60) ≤ m ∧ m < 10 ^ 60 ∧ R = IsV (.int (famSz kd m s))
def PFam (K : PySem.W.Frag) : List V → Hp → HR → Prop := fun vs G R => ∃ (kd m : Int) (s : Str), vs = [.int kd, .int m, .str s] ∧ 0 ≤ kd ∧ kd < 4 ∧ -(10 ^ 60) ≤ m ∧ m < 10 ^ 60 ∧ R = IsBl (famL (famSz kd m s))
def PDue : List V → Hp → HR → Prop := fun vs G R => ∃ z : Int, vs = [.int z] ∧ (z < 0 → z = -1) ∧ R = IsBl (famL z)
/-- PairScale(..), TurnedScale(..), HeapScale(..), or None -/
def PArd (K : PySem.W.Frag) (Cs : List Addr) : List V → Hp → HR → Prop := fun vs G R => ∃ (l : Addr) (d : SD), ScD K Cs d l G ∧ SdOk d ∧
  ((∃ (r : Addr) (d2 : SD), vs = [.int 0, .ref l, .ref r] ∧ ScD K Cs d2 r G ∧ SdOk d2 ∧ ((d.names.length * d2.names.length ≤ 64 ∧ depL [d, d2] ≤ 10 ∧ (pairNames d d2).Nodup ∧ R = IsScP K Cs fun d' => d' = pairSD d d2) ∨ ((64 < d.names.length * d2.names.length ∨ 10 < depL [d, d2]) ∧ R = IsV .non))) ∨
  (∃ y, vs = [.int 1, .ref l, y] ∧ ((depL [d] ≤ 10 ∧ R = IsScP K Cs fun d' => d' = turnSD d) ∨ (10 < depL [d] ∧ R = IsV .non))) ∨
  (∃ y, vs = [.int 2, .ref l, y] ∧ ((d.names.length ≤ 6 ∧ depL [d] ≤ 10 ∧ (heapNames d.names).Nodup ∧ R = IsScP K Cs fun d' => d' = heapSD d) ∨ ((6 < d.names.length ∨ 10 < depL [d]) ∧ R = IsV .non))))
theorem IsO.imp {C : Addr} {R R' : OR} {v : V} {G : Hp} (h : IsO C R v G) (i : ∀ a b fs G', R a b fs G' → R' a b fs G') : IsO C R' v G := by
  obtain ⟨x, dx, fs, G', rfl, gx, s, r⟩ := h
  exact ⟨x, dx, fs, G', rfl, gx, s, i _ _ _ _ r⟩
theorem io_pair {K : PySem.W.Frag} {Cs : List Addr} {C : Addr} {d1 d2 : SD} {l r : Addr} {v : V} {G : Hp} (iC : C ∈ Cs) (oC : ClsOk K C) (h : IsO C (fun _ _ fs' G' => ScI (pairSD d1 d2) fs' G' ∧ (∀ f, f ∉ scF → f ≠ ("left" : Str) → f ≠ ("right" : Str) → fs'.lookup f = none) ∧ fs'.lookup ("left" : Str) = some (.ref l) ∧ fs'.lookup ("right" : Str) = some (.ref r)) v G) : IsScP K Cs (fun d' => d' = pairSD d1 d2) v G :=
  scp_of iC oC (h.imp fun a b fs G' h => ⟨_, rfl, h.1, fun f hf => h.2.1 f (by revert f; decide +kernel) (by revert f; decide +kernel) (by revert f; decide +kernel)⟩)
theorem io_turn {K : PySem.W.Frag} {Cs : List Addr} {C : Addr} {d : SD} {l : Addr} {v : V} {G : Hp} (iC : C ∈ Cs) (oC : ClsOk K C) (h : IsO C (fun _ _ fs' G' => ScI (turnSD d) fs' G' ∧ (∀ f, f ∉ scF → f ≠ ("inner" : Str) → fs'.lookup f = none) ∧ fs'.lookup ("inner" : Str) = some (.ref l)) v G) : IsScP K Cs (fun d' => d' = turnSD d) v G :=
  scp_of iC oC (h.imp fun a b fs G' h => ⟨_, rfl, h.1, fun f hf => h.2.1 f (by revert f; decide +kernel) (by revert f; decide +kernel)⟩)
theorem io_heap {K : PySem.W.Frag} {Cs : List Addr} {C : Addr} {d : SD} {l : Addr} {v : V} {G : Hp} (iC : C ∈ Cs) (oC : ClsOk K C) (h : IsO C (fun _ _ fs' G' => ScI (heapSD d) fs' G' ∧ (∀ f, f ∉ scF → f ≠ ("inner" : Str) → f ≠ ("heaps" : Str) → fs'.lookup f = none) ∧ fs'.lookup ("inner" : Str) = some (.ref l)) v G) : IsScP K Cs (fun d' => d' = heapSD d) v G :=
  scp_of iC oC (h.imp fun a b fs G' h => ⟨_, rfl, h.1, fun f hf => h.2.1 f (by revert f; decide +kernel) (by revert f; decide +kernel) (by revert f; decide +kernel)⟩)
theorem io_cnt {K : PySem.W.Frag} {Cs : List Addr} {C : Addr} {m : Nat} {up : Bool} {v : V} {G : Hp} (iC : C ∈ Cs) (oC : ClsOk K C) (h : IsO C (fun _ _ fs' G' => ScIs (clabel (m : Nat) up) (("never" : Str) :: cwords m) 0 1 1 (cth (m : Nat)) (cjn up) fs' G' ∧ (∀ f, f ∉ wnF → f ≠ ("most" : Str) → f ≠ ("rising" : Str) → fs'.lookup f = none)) v G) : IsScP K Cs (fun d' => d' = cntSD m up) v G :=
  scp_of iC oC (h.imp fun a b fs G' h => ⟨cntSD m up, rfl, h.1, fun f hf => h.2 f (by revert f; decide +kernel) (by revert f; decide +kernel) (by revert f; decide +kernel)⟩)
theorem io_span {K : PySem.W.Frag} {Cs : List Addr} {C : Addr} {m : Nat} {v : V} {G : Hp} (iC : C ∈ Cs) (oC : ClsOk K C) (h : IsO C (fun _ _ fs' G' => ScIs (slabel (m : Nat)) (("never" : Str) :: swords m) 0 1 1 (sth m) (sjn m) fs' G' ∧ (∀ f, f ∉ wnF → f ≠ ("most" : Str) → fs'.lookup f = none)) v G) : IsScP K Cs (fun d' => d' = spanSD m) v G :=
  scp_of iC oC (h.imp fun a b fs G' h => ⟨spanSD m, rfl, h.1, fun f hf => h.2 f (by revert f; decide +kernel) (by revert f; decide +kernel)⟩)
theorem io_set {K : PySem.W.Frag} {Cs : List Addr} {C : Addr} {c : Nat} {may : Bool} {v : V} {G : Hp} (iC : C ∈ Cs) (oC : ClsOk K C) (h : IsO C (fun _ _ fs' G' => ScIs (tlabel (c : Nat) may) (("never" : Str) :: twords c) 0 1 1 tth (tjn may) fs' G' ∧ (∀ f, f ∉ wnF → f ≠ ("loose" : Str) → fs'.lookup f = none)) v G) : IsScP K Cs (fun d' => d' = stSD c may) v G :=
  scp_of iC oC (h.imp fun a b fs G' h => ⟨stSD c may, rfl, h.1, fun f hf => h.2 f (by revert f; decide +kernel) (by revert f; decide +kernel)⟩)
theorem io_wat {K : PySem.W.Frag} {Cs : List Addr} {C : Addr} {s : Nat} {v : V} {G : Hp} (iC : C ∈ Cs) (oC : ClsOk K C) (h : IsO C (fun _ _ fs' G' => ScIs (wlabel (s : Nat)) (wwords s) 0 (wstill s) 1 (wth s) wjn fs' G' ∧ (∀ f, f ∉ scF → f ≠ ("states" : Str) → fs'.lookup f = none)) v G) : IsScP K Cs (fun d' => d' = wtSD s) v G :=
  scp_of iC oC (h.imp fun a b fs G' h => ⟨wtSD s, rfl, h.1, fun f hf => h.2 f (by revert f; decide +kernel) (by revert f; decide +kernel)⟩)
theorem spans_sz : ∀ n : Nat, n < 10 → [V.int (((spansL n).length + 1 : Nat) : Int)] = if ((n : Nat) + 1) * ((n : Nat) + 2) / 2 + 1 < (0 : Int) then [V.int (-1), V.bl true] else [V.int (((n : Nat) + 1) * ((n : Nat) + 2) / 2 + 1)] := by
  intro n h
  have e : ∀ n : Nat, n < 10 → (((spansL n).length + 1 : Nat) : Int) = ((n : Nat) + 1) * ((n : Nat) + 2) / 2 + 1 := by decide +kernel
  rw [e n h]
  have p : (0 : Int) ≤ ((n : Nat) + 1) * ((n : Nat) + 2) := Int.mul_nonneg (by omega) (by omega)
  rw [if_neg (by omega)]
theorem st_sz (n : Nat) (may : Bool) (h : n < 6) : ((stSD n may).names.length : Int) = 1 * 2 ^ ((n : Nat) : Int).toNat + 1 := by
  have e : ∀ n : Nat, n < 6 → ∀ may, ((stSD n may).names.length : Int) = 1 * 2 ^ ((n : Nat) : Int).toNat + 1 := by decide +kernel
  exact e n h may
theorem fam_0 (m : Int) (s : Str) : famSz 0 m s = if (0 ≤ m ∧ m ≤ 62) ∧ (s = "up" ∨ s = "down") then m + 2 else -1 := by
  unfold famSz
  rw [if_pos rfl]
theorem fam_1 (m : Int) (s : Str) : famSz 1 m s = if 0 ≤ m ∧ m ≤ 9 then (m + 1) * (m + 2) / 2 + 1 else -1 := by
  unfold famSz
  rw [if_neg (show ¬ (1 : Int) = 0 by decide), if_pos rfl]
theorem fam_2 (m : Int) (s : Str) : famSz 2 m s = if (1 ≤ m ∧ m ≤ 5) ∧ (s = "may" ∨ s = "must") then 1 * 2 ^ m.toNat + 1 else -1 := by
  unfold famSz
  rw [if_neg (show ¬ (2 : Int) = 0 by decide), if_neg (show ¬ (2 : Int) = 1 by decide), if_pos rfl]
theorem fam_3 (m : Int) (s : Str) : famSz 3 m s = if m = 1 then 2 else if m = 2 then 16 else -1 := by
  unfold famSz
  rw [if_neg (show ¬ (3 : Int) = 0 by decide), if_neg (show ¬ (3 : Int) = 1 by decide), if_neg (show ¬ (3 : Int) = 2 by decide)]
theorem famL_ok {z : Int} (h : 0 ≤ z) : famL z = [.int z] := by
  unfold famL
  rw [if_neg (by omega)]
theorem fam_m1 {kd m : Int} {s : Str} (h : famSz kd m s < 0) (k0 : 0 ≤ kd) : famSz kd m s = -1 := by
  unfold famSz at h ⊢
  split at h
  · rw [if_pos (by assumption)]
    split at h
    · omega
    · rw [if_neg (by assumption)]
  · rw [if_neg (by assumption)]
    split at h
    · rw [if_pos (by assumption)]
      split at h
      · rename_i hh
        have : 0 ≤ (m + 1) * (m + 2) := Int.mul_nonneg (by omega) (by omega)
        omega
      · rw [if_neg (by assumption)]
    · rw [if_neg (by assumption)]
      split at h
      · rw [if_pos (by assumption)]
        split at h
        · have : (0 : Int) < 2 ^ m.toNat := Int.pow_pos (by decide)
          omega
        · rw [if_neg (by assumption)]
      · rw [if_neg (by assumption)]
        split at h
        · omega
        · rw [if_neg (by assumption)]
          split at h
          · omega
          · rw [if_neg (by assumption)]
def szOk (n : Nat) : Prop := n = 1 ∨ n = 2 ∨ n = 4 ∨ n = 16 ∨ n = 64
def aftN (w : Int) (s : Nat) : Nat := if w < 2 then s else 2 ^ s
/-- the next scale around, or None if it is too deep or too large -/
def AroR (K : PySem.W.Frag) (Cs : List Addr) (j s : Nat) : HR := fun v G => (j + 2 ≤ 10 ∧ s ≤ 64 ∧ IsScP K Cs (fun d' => DpT d' ∧ d'.dep = (j : Int) + 2 ∧ d'.names.length = s) v G) ∨ (¬ (j + 2 ≤ 10 ∧ s ≤ 64) ∧ v = .non)
theorem scp_w {K : PySem.W.Frag} {Cs : List Addr} {P P' : SD → Prop} {v : V} {G : Hp} (h : IsScP K Cs P v G) (i : ∀ d, P d → P' d) : IsScP K Cs P' v G := let ⟨d, a, b⟩ := h; ⟨d, a, i d b⟩
theorem ard_ok {K : PySem.W.Frag} {Cs : List Addr} {w : Int} {x p : Addr} {d : SD} {j : Nat} {G : Hp} (hw : w = 0 ∨ w = 1 ∨ w = 2) (sd : ScD K Cs d x G) (sd1 : ScD K Cs oneSD p G) (h : DpT d) (hd : d.dep = (j : Int) + 1) (hs : szOk d.names.length) :
    ∃ R, (∀ G', Same G G' → PArd K Cs [.int w, .ref x, .ref p] G' R) ∧ ∀ v G', R v G' → AroR K Cs j (aftN w d.names.length) v G' := by
  have o1 := smk_one.o
  have e1 := one_dep.2.1
  have d1 := h.d1
  have l2 := h.ok.l2
  rcases hw with rfl | rfl | rfl
  · by_cases c : j + 2 ≤ 10
    · obtain ⟨a, b, e⟩ := dpt_pairL h (by omega)
      exact ⟨_, fun G' s => ⟨x, d, sd.mono s, h.ok, .inl ⟨p, oneSD, rfl, sd1.mono s, o1, .inl ⟨by rw [e1]; omega, by rw [dep_pairL d1]; omega, (pair_word h.ok.nd o1.nd h.wd dpt_one.wd).1, rfl⟩⟩⟩, fun v G' r => .inl ⟨c, l2, scp_w r fun d' e' => by subst e'; exact ⟨a, by omega, e⟩⟩⟩
    · exact ⟨_, fun G' s => ⟨x, d, sd.mono s, h.ok, .inl ⟨p, oneSD, rfl, sd1.mono s, o1, .inr ⟨.inr (by rw [dep_pairL d1]; omega), rfl⟩⟩⟩, fun v G' r => .inr ⟨fun z => c z.1, r⟩⟩
  · by_cases c : j + 2 ≤ 10
    · exact ⟨_, fun G' s => ⟨x, d, sd.mono s, h.ok, .inr (.inl ⟨_, rfl, .inl ⟨by rw [depL1 d1]; omega, rfl⟩⟩)⟩, fun v G' r => .inl ⟨c, l2, scp_w r fun d' e' => by subst e'; exact ⟨dpt_turn h (by omega), by rw [dep_turn d1]; omega, rfl⟩⟩⟩
    · exact ⟨_, fun G' s => ⟨x, d, sd.mono s, h.ok, .inr (.inl ⟨_, rfl, .inr ⟨by rw [depL1 d1]; omega, rfl⟩⟩)⟩, fun v G' r => .inr ⟨fun z => c z.1, r⟩⟩
  · have e2 : aftN 2 d.names.length = 2 ^ d.names.length := rfl
    rw [e2]
    by_cases c : j + 2 ≤ 10 ∧ d.names.length ≤ 6
    · have hs' : d.names.length = 1 ∨ d.names.length = 2 ∨ d.names.length = 4 := by
        unfold szOk at hs
        omega
      have p6 : 2 ^ d.names.length ≤ 2 ^ 6 := Nat.pow_le_pow_right (by decide) c.2
      exact ⟨_, fun G' s => ⟨x, d, sd.mono s, h.ok, .inr (.inr ⟨_, rfl, .inl ⟨c.2, by rw [depL1 d1]; omega, (heap_word h.ok.nd h.wd).1, rfl⟩⟩)⟩, fun v G' r => .inl ⟨c.1, by omega, scp_w r fun d' e' => by subst e'; exact ⟨dpt_heap h (by omega) hs', by rw [dep_heap d1]; omega, heapNames_len d.names⟩⟩⟩
    · refine ⟨_, fun G' s => ⟨x, d, sd.mono s, h.ok, .inr (.inr ⟨_, rfl, .inr ⟨?_, rfl⟩⟩)⟩, fun v G' r => .inr ⟨fun z => c ⟨z.1, ?_⟩, r⟩⟩
      · rw [depL1 d1]
        omega
      · have z2 := z.2
        refine Decidable.byContradiction fun z6 => ?_
        have : 2 ^ 7 ≤ 2 ^ d.names.length := Nat.pow_le_pow_right (by decide) (by omega)
        omega
theorem ard_flip {K : PySem.W.Frag} {Cs : List Addr} {x p : Addr} {d : SD} {j : Nat} {G : Hp} (sd : ScD K Cs d x G) (sd1 : ScD K Cs oneSD p G) (h : DpT d) (hd : d.dep = (j : Int) + 1) :
    ∃ R, (∀ G', Same G G' → PArd K Cs [.int 0, .ref p, .ref x] G' R) ∧ ∀ v G', R v G' → AroR K Cs j d.names.length v G' := by
  have o1 := smk_one.o
  have e1 := one_dep.2.1
  have d1 := h.d1
  have l2 := h.ok.l2
  by_cases c : j + 2 ≤ 10
  · obtain ⟨a, b, e⟩ := dpt_pairR h (by omega)
    exact ⟨_, fun G' s => ⟨p, oneSD, sd1.mono s, o1, .inl ⟨x, d, rfl, sd.mono s, h.ok, .inl ⟨by rw [e1]; omega, by rw [dep_pairR d1]; omega, (pair_word o1.nd h.ok.nd dpt_one.wd h.wd).1, rfl⟩⟩⟩, fun v G' r => .inl ⟨c, l2, scp_w r fun d' e' => by subst e'; exact ⟨a, by omega, e⟩⟩⟩
  · exact ⟨_, fun G' s => ⟨p, oneSD, sd1.mono s, o1, .inl ⟨x, d, rfl, sd.mono s, h.ok, .inr ⟨.inr (by rw [dep_pairR d1]; omega), rfl⟩⟩⟩, fun v G' r => .inr ⟨fun z => c z.1, r⟩⟩
theorem like_int {K : PySem.W.Frag} {G : Hp} {i : Int} {n : Nat} (h : 1 ≤ n) : PLike K n [.int i, .int i] G (IsV (.bl true)) := ⟨_, _, .int i, rfl, by show 0 < n; omega, .int i, .int i, .int i, rfl⟩
theorem like_fam {K : PySem.W.Frag} {G : Hp} {p q : Addr} {z : Int} (h1 : G p = some (.lst (famL z))) (h2 : G q = some (.lst (famL z))) : PLike K 4 [.ref p, .ref q] G (IsV (.bl true)) := by
  refine like_flat (SqL.of h1) (SqL.of h2) ?_ ?_ (by decide) <;> unfold famL <;> split <;> first | rfl | (simp)
/-- the law's own answer, whatever the heap then is -/
def spDeep : Sp := fun vs H Q _ => ∃ sa cl n G, vs = [.ref sa] ∧ Src sa cl n G H ∧ n < 1000 ∧ ∀ H', Q (.bl true) H'
end L2.DS
namespace L2.DS
open PySem PySem.Spec PyProof.Rows
def top (i : Nat) : Stmt := PySem.Challenge.pw_deedscale_k06_bad_scales.main.body.getD i (.Pass ⟨0, 0, 0, 0⟩)
local macro_rules | `(tactic| walk_at "sq") => `(tactic| first | assumption | exact SqL.of (by assumption) | exact SqT.of (by assumption) | (refine Same.seq (by assumption) ?_; walk_at "sq") | (refine same_t (by assumption) ?_; walk_at "sq"))
local macro_rules | `(tactic| walk_at "sd") => `(tactic| first | assumption | omega | decide | (simp; done) | (simp_all; done))
local macro_rules | `(tactic| walk_at "rv") => `(tactic| first
  | with_reducible exact v_add (by assumption) | with_reducible exact v_sub (by assumption) | with_reducible exact v_lt (by assumption) | with_reducible exact v_le (by assumption) | with_reducible exact v_gt (by assumption) | with_reducible exact v_ge (by assumption)
  | with_reducible exact v_eqI (by assumption) | with_reducible exact v_eqB (by assumption) | with_reducible exact v_eqS (by assumption) | with_reducible exact v_neI (by assumption) | with_reducible exact v_neS (by assumption)
  | ((with_reducible refine v_mod (by assumption) ?_); walk_at "sd") | ((with_reducible refine v_mul (by assumption) ?_); first | exact .inl ⟨by omega, by omega⟩ | exact .inr ⟨by omega, by omega⟩) | ((with_reducible refine v_div (by assumption) ?_); exact ⟨by omega, by omega⟩)
  | ((with_reducible apply v_ixL); assumption; walk_at "sq"; walk_at "sd") | ((with_reducible apply v_ixT); assumption; walk_at "sq"; walk_at "sd")
  | exact v_isN (by assumption) | exact v_notN (by assumption))
local macro_rules | `(tactic| walk_at "rc") => `(tactic| first
  | ((with_reducible apply c_lenL); assumption; walk_at "sq") | ((with_reducible apply c_lenT); assumption; walk_at "sq") | with_reducible exact c_abs (by assumption) | with_reducible exact c_int (by assumption) | with_reducible exact c_intB (by assumption))
local macro_rules | `(tactic| walk_at "ev") => `(tactic| first
  | with_reducible exact ev_c
  | ((with_reducible apply ev_var); rfl)
  | ((with_reducible apply ev_opV); walk_at "ev"; walk_at "ev"; walk_at "rv")
  | ((with_reducible apply ev_unV); walk_at "ev"; exact u_neg (by assumption))
  | ((with_reducible apply ev_ifV); assumption; walk_at "et"; (intro _; walk_at "ev"); (intro _; walk_at "ev"))
  | ((with_reducible apply ev_cbV); walk_at "ea"; walk_at "rc")
  | ((with_reducible apply ev_andV); assumption; walk_at "ev"; (intro _; walk_at "ev"))
  | ((with_reducible apply ev_orV); assumption; walk_at "ev"; (intro _; walk_at "ev"))
  | ((with_reducible apply ev_notV); walk_at "ev")
  | assumption)
local macro_rules | `(tactic| walk_at "ea") => `(tactic| first
  | with_reducible exact ea_nilV
  | ((with_reducible apply ea_consV); walk_at "ev"; walk_at "ea"))
local macro_rules | `(tactic| walk_at "et") => `(tactic| first
  | ((with_reducible apply et_testV); walk_at "ev")
  | ((with_reducible apply et_B); walk_at "ev")
  | ((with_reducible apply et_and); assumption; walk_at "et"; (intro _; walk_at "et"))
  | ((with_reducible apply et_or); assumption; walk_at "et"; (intro _; walk_at "et"))
  | ((with_reducible apply et_not); walk_at "et"))
local macro_rules | `(tactic| walk_at "qn") => `(tactic| repeat (with_reducible refine q_end ?_))
local macro_rules | `(tactic| walk_at "qif") => `(tactic| (walk_at "qn"; (with_reducible apply q_if); assumption; assumption; walk_at "et"))
local macro_rules | `(tactic| walk_at "qret") => `(tactic| (walk_at "qn"; (with_reducible apply q_retV); assumption; assumption; walk_at "ev"))
local macro_rules | `(tactic| walk_at "qset") => `(tactic| (walk_at "qn"; (with_reducible apply q_setV); assumption; assumption; walk_at "ev"))
section
variable {P : Program} {w : World} {K : PySem.W.Frag} {mg : Str → Option Value} {base : Heap}
theorem getInt {ns : List Int} {j : Nat} {x : V} (h : (ns.map V.int)[j]? = some x) : ∃ i, ns[j]? = some i ∧ x = .int i := by
  rw [List.getElem?_map] at h
  cases e : ns[j]? with
  | none => rw [e] at h; cases h
  | some i => rw [e] at h; exact ⟨i, rfl, (Option.some.inj h).symm⟩
theorem mapRange {ns : List Int} (g : Int → Int) {x : Nat → V} (m : Nat) (hm : m = ns.length) (h : ∀ j i, ns[j]? = some i → x j = .int (g i)) : (List.range m).map x = (ns.map g).map V.int := by
  subst hm
  refine List.ext_getElem? fun j => ?_
  rw [List.getElem?_map, List.getElem?_map, List.getElem?_map]
  by_cases hj : j < ns.length
  · rw [List.getElem?_range hj, List.getElem?_eq_getElem hj]
    show some (x j) = some (V.int (g ns[j]))
    rw [h j _ (List.getElem?_eq_getElem hj)]
  · rw [List.getElem?_eq_none (l := List.range ns.length) (by rw [List.length_range]; omega), List.getElem?_eq_none (l := ns) (by omega)]
    rfl
theorem getRev {ns : List Int} {j : Nat} (hj : j < ns.length) : atI (ns.map V.int) (((ns.map V.int).length : Int) - 1 - (j : Int)) = some (.int (ns.getD (ns.length - 1 - j) 0)) := by
  rw [show (((ns.map V.int).length : Nat) : Int) = (ns.length : Int) by rw [List.length_map]]
  have e : ((ns.length : Int) - 1 - (j : Int)) = ((ns.length - 1 - j : Nat) : Int) := by omega
  have h1 : ixN ns.length ((ns.length - 1 - j : Nat) : Int) = some (ns.length - 1 - j) := by
    unfold ixN
    rw [if_pos (by omega), if_pos (by omega)]
    all_goals rfl
  unfold atI
  rw [e, List.length_map, h1]
  show (ns.map V.int)[ns.length - 1 - j]? = _
  rw [List.getElem?_map, List.getElem?_eq_getElem (by omega), List.getD_eq_getElem?_getD, List.getElem?_eq_getElem (by omega)]
  rfl
theorem merge_src {cl : Addr} {l m t : Int} : mergeK [] (srcK cl l m t) = srcK cl l m t := by
  have a := ne_lc
  have b := ne_mc
  have c := ne_tc
  have d := ne_ml
  have e := ne_tl
  have f := ne_tm
  simp [mergeK, srcK, putK, a, b, c, d, e, f]
abbrev s__law_source : Stmt := top 28
theorem sc__law_source : FnScope ["_law_script", "_law_mixed", "_law_cell", "_law_cells", "_law_k"] ["_law_script"] (defScope s__law_source) := ⟨rfl, rfl, rfl, by decide +kernel, rfl, by decide +kernel, by decide +kernel⟩
theorem ok_source {f : Addr} {fd : FuncData} (Z : Bi mg) (F : Fun K "_law_source" "_law_source" s__law_source f fd) : FnOk P w K mg base CX0 1 f fd ["_law_script"] (sp_source K) := by
  refine F.ok sc__law_source (fun vs H Q E h => ?_) (fun cdv A outer s H vs Q E hr h => ?_)
  · obtain ⟨p, ns, rfl, _⟩ := h
    rfl
  · obtain ⟨p, ns, rfl, hq, hl, q⟩ := h
    refine ⟨_, (pss_cons (ps_set (i := 1) sc__law_source.nd rfl (Or.inl rfl) pe_int)
  (pss_cons (ps_for PassesOwn.never rfl (pi_listK K (pv 0)) (pg_name (i := 2) sc__law_source.nd rfl (Or.inl rfl)) (pss_cons (ps_set (i := 1) sc__law_source.nd rfl (Or.inl rfl) (pe_op op_modA (pe_callTy call_intA (by rfl) Z.z_int (by decide +kernel) (pa_cons (pe_op op_addA (pe_op op_addA (pe_op op_mulA (pv 1) pe_int) (pe_op op_mulA (pv 2) pe_int)) pe_int) pa_nil)) pe_int))
  pss_nil))
  (pss_cons (ps_set (i := 3) sc__law_source.nd rfl (Or.inr rfl) (pe_lc (own := [("_law_cell", 2)]) (g := (gName 2)) rfl sc__law_source.nd (pi_listK K (pv 0)) (blkOk_by (by kernel_rfl)) (fun _ _ _ _ _ => (pg_name (i := 2) sc__law_source.nd rfl (Or.inl rfl))) (fun _ _ _ _ _ => pts_nil) (fun _ _ _ _ _ => (pe_callB call_absA (by rfl) Z.z_abs (by decide +kernel) (pa_cons (pv 2) pa_nil)))))
  (pss_cons (ps_ret (pe_disp (pps_cons pe_str (pe_lc (own := [("_law_k", 4)]) (g := (gName 4)) rfl sc__law_source.nd (pi_range1 (by rfl) Z.z_range (pa_cons (pe_callB (call_lenA K) (by rfl) Z.z_len PySem.boot_len (pa_cons (pv 3) pa_nil)) pa_nil)) (blkOk_by (by kernel_rfl)) (fun _ _ _ _ _ => (pg_name (i := 4) sc__law_source.nd rfl (Or.inl rfl))) (fun _ _ _ _ _ => pts_nil) (fun _ _ _ _ _ => (pe_ix (ix_any K (hu_of hr)) (pv 3) (pe_op op_subA (pe_op op_subA (pe_callB (call_lenA K) (by rfl) Z.z_len PySem.boot_len (pa_cons (pv 3) pa_nil)) pe_int) (pv 4)) (fun _ _ => rfl)))) (pps_cons pe_str pe_int (pps_cons pe_str (pv 1) (pps_cons pe_str pe_int pps_nil)))) (by rfl) (by rfl) (fun z => by cases z) (by decide)))
  pss_nil)))), ?_⟩
    have st := stab0 H H
    have hS : SP0 H H 0 H H := Grow.refl (Same.refl H)
    show tSeq _ _ (Ends.mk _ _ _ _) [some _, none, none, none, none] _
    walk_at "qset"
    intro H1 k1 h1
    walk_at "qn"
    refine q_forL st h1 (ev_var rfl) hq (fun _ => 0) (fun j σ' G' H' => ∃ m c, 0 ≤ m ∧ m < 2147483629 ∧ σ' = [some (.ref p), some (.int m), c, none, none]) rfl (fun H2 k2 h2 => ⟨11, none, by decide, by decide, rfl⟩) (fun j x σ' G' H2 hx s2 h2 hp => ?_) (fun σ' G' H2 s2 h2 hp => ?_)
    · obtain ⟨m, c, hm0, hm1, rfl⟩ := hp
      obtain ⟨i, hi, rfl⟩ := getInt hx
      show tSeq _ _ (Ends.mk _ _ _ _) [some (.ref p), some (.int m), some (.int i), none, none] _
      have e1 : CMul m 69069 := .inr ⟨by decide, by decide⟩
      have e2 : CMul i 31 := .inr ⟨by decide, by decide⟩
      refine q_setV st h2 (ev_opV (ev_cbV (ea_consV (ev_opV (ev_opV (ev_opV (ev_var rfl) ev_c (v_mul st e1)) (ev_opV (ev_var rfl) ev_c (v_mul st e2)) (v_add st)) ev_c (v_add st)) ea_nilV) (c_int st)) ev_c (v_mod st (by decide))) fun H3 k3 h3 => ?_
      refine q_end ⟨G', s2, st.wk h3 (by omega), _, _, Int.emod_nonneg _ (by decide), Int.emod_lt_of_pos _ (by decide), rfl⟩
    · obtain ⟨m, c, hm0, hm1, rfl⟩ := hp
      walk_at "qn"
      refine q_set h2 (ev_lcL (c1 := 0) st (fun j => IsV (.int (if ns.getD j 0 < 0 then -ns.getD j 0 else ns.getD j 0))) (ev_var rfl) (s2.seq hq) (by rw [List.length_map]; exact hl) (fun j x G2 hx s3 => ?_) (fun x => rfl)) fun v G3 H3 s3 hv => ?_
      · obtain ⟨i, hi, rfl⟩ := getInt hx
        have e : ns.getD j 0 = i := by rw [List.getD_eq_getElem?_getD, hi]; rfl
        rw [e]
        exact ev_cbV (ea_consV (ev_var rfl) ea_nilV) (c_abs st)
      · obtain ⟨pl, rfl, hpl⟩ := isLR_V (K := K) hv.lr
        rw [mapRange (ns := ns) (fun i => if i < 0 then -i else i) _ (by rw [List.length_map]) (fun j i h => by rw [List.getD_eq_getElem?_getD, h]; rfl)] at hpl
        generalize hc : ns.map (fun i : Int => if i < 0 then -i else i) = cs at hpl
        have lc : cs.length = ns.length := by rw [← hc, List.length_map]
        have cp : ∀ c ∈ cs, 0 ≤ c := by
          intro c h
          rw [← hc] at h
          obtain ⟨i, _, rfl⟩ := List.mem_map.mp h
          show 0 ≤ (if i < 0 then -i else i)
          split <;> omega
        walk_at "qn"
        show tDisp _ _ _ Q
        intro sa hsa
        have sH3 : Same H H3 := s3.s.h
        have sA : Same G3 (upd H3 sa (.dK [])) := fun b o e => by
          rw [upd_ne (ne_of_none (s3.s.s b o e) hsa)]
          exact s3.s.s b o e
        have stA := stab0 G3 (upd H3 sa (.dK []))
        have hA : SP0 G3 (upd H3 sa (.dK [])) 0 G3 (upd H3 sa (.dK [])) := Grow.refl sA
        unfold tPairs
        refine tC_run ?_
        show tLc _ _ _ _ _ _ _ _
        refine ev_lcR (c1 := 0) stA (fun j => IsV (.int (cs.getD (cs.length - 1 - j) 0))) (ea_consV (ev_cbV (ea_consV (ev_var rfl) ea_nilV) (c_lenL stA hpl)) ea_nilV) (by omega) (by rw [List.length_map]; omega) (fun j G4 hj s4 => ?_) (fun x => rfl) G3 _ (Same.refl _) hA _ fun v G4 H4 s4 hv4 => ?_
        · rw [List.length_map] at hj
          exact ev_opV (ev_var rfl) (ev_opV (ev_opV (ev_cbV (ea_consV (ev_var rfl) ea_nilV) (c_lenL stA (s4.seq hpl))) ev_c (v_sub stA)) (ev_var rfl) (v_sub stA)) (v_ixL stA (s4.seq hpl) (getRev (by omega)))
        · obtain ⟨cl, ys, rfl, f4, h4, l4, r4⟩ := hv4
          have hsa4 : H4 sa = some (.dK []) := s4.k.k sa _ (fun z => z) upd_same
          have l5 : ys.length = cs.length := by rw [l4, Int.toNat_natCast, List.length_map]
          have ecl : ys = ((List.range cs.length).map fun j => cs.getD (cs.length - 1 - j) 0).map V.int := by
            refine List.ext_getElem? fun j => ?_
            by_cases hj : j < cs.length
            · have q1 : ys[j]? = some ys[j] := List.getElem?_eq_getElem (by omega)
              rw [q1, show ys[j] = V.int (cs.getD (cs.length - 1 - j) 0) from r4 j _ q1, List.getElem?_map, List.getElem?_map, List.getElem?_range hj]
              rfl
            · rw [List.getElem?_eq_none (by omega), List.getElem?_eq_none (by rw [List.length_map, List.length_map, List.length_range]; omega)]
          have hcl : H4 cl = some (.lst (((List.range cs.length).map fun j => cs.getD (cs.length - 1 - j) 0).map V.int)) := by
            rw [← ecl]
            exact (stA.sub s4.s) _ _ h4
          have nsa : cl ≠ sa := fun z => by
            rw [z, hsa4] at hcl
            cases hcl
          unfold tPairs
          refine tC_run (tC_run ?_)
          unfold tPairs
          refine tC_run (tVar_run rfl ?_)
          unfold tPairs
          refine tC_run (tC_run ?_)
          unfold tPairs
          refine ⟨hsa4, srcK cl 1 m 0, rfl, (by decide : 4 ≤ 15), ?_⟩
          rw [merge_src]
          refine q sa cl _ (fun b o e => ?_) (sH3.free hsa) ((s2.trans s3.g).free f4) ⟨_, 1, m, 0, upd_same, by rw [upd_ne nsa]; exact hcl, fun c hc => ?_, by decide, hm0, hm1, by decide, by decide⟩
          · have e3 := sH3 b o e
            have nb := ne_of_none e3 hsa
            rw [upd_ne nb]
            exact s4.k.k b o (fun z => z) (by rw [upd_ne nb]; exact e3)
          · obtain ⟨j, hj, rfl⟩ := List.mem_map.mp hc
            have := List.mem_range.mp hj
            rw [List.getD_eq_getElem?_getD, List.getElem?_eq_getElem (by omega)]
            exact cp _ (List.getElem_mem _)
abbrev s__law_pick : Stmt := top 29
theorem sc__law_pick : FnScope ["_law_source_here", "_law_many", "_law_cells", "_law_left", "_law_turn", "_law_mixed"] ["_law_source_here", "_law_many"] (defScope s__law_pick) := ⟨rfl, rfl, rfl, by decide +kernel, rfl, by decide +kernel, by decide +kernel⟩
theorem kp_upd {S : SR} {H J : Hp} {a : Addr} {o : HO} (k : Kp S H J) (m : S.m a) : Kp S H (upd J a o) := ⟨fun b u nm e => by
  rw [upd_ne (fun z => nm (by rw [z]; exact m))]
  exact k.k b u nm e, fun b e => by
  by_cases hb : b = a
  · rw [hb, upd_same] at e
    cases e
  · rw [upd_ne hb] at e
    exact k.v b e⟩
theorem src_end {sa cl : Addr} {n : Nat} {G H F : Hp} (sG : Same G H) (gs : G sa = none) (gc : G cl = none) (k : Kp (Src sa cl) H F) (h : SrcAt sa cl n F) : Stp (Src sa cl) n G H G F :=
  ⟨Same.refl _, k, ⟨fun b o e => k.k b o (fun z => by
    rcases z with z | z
    · rw [z, gs] at e
      cases e
    · rw [z, gc] at e
      cases e) (sG b o e), gs, gc, h⟩, fun _ _ e => .inl e⟩
/-- cells are popped until a number is left -/
def PopAt (st cl : Addr) (mx t : Int) (H0 : Hp) (cs : List Int) (l : Int) (H : Hp) : Prop := Kp (Src st cl) H0 H ∧ H st = some (srcD cl l mx t) ∧ H cl = some (.lst (cs.map V.int)) ∧ (∀ c ∈ cs, 0 ≤ c) ∧ 0 ≤ l
theorem ok_pick {f : Addr} {fd : FuncData} (Z : Bi mg) (F : Fun K "_law_pick" "_law_pick" s__law_pick f fd) : FnOk P w K mg base CX0 1 f fd ["_law_source_here", "_law_many"] sp_pick := by
  refine F.ok sc__law_pick (fun vs H Q E h => ?_) (fun cdv A outer s H vs Q E hr h => ?_)
  · obtain ⟨_, _, _, _, _, _, _, ⟨_, rfl, _⟩, _⟩ := h
    rfl
  · obtain ⟨sa, cl, n, k, G, R, hS, ⟨many, rfl, hm1, hm2, rfl, rfl⟩, q⟩ := h
    refine ⟨_, (pss_cons (ps_if (pt_cmpR op_ltA (pv 1) pe_int (nomark _)) (pss_cons (ps_ret pe_int)
  pss_nil) pss_nil)
  (pss_cons (ps_set (i := 2) sc__law_pick.nd rfl (Or.inl rfl) (pe_ix (ix_any K (hu_of hr)) (pv 0) pe_str (fun _ _ => rfl)))
  (pss_cons (ps_while PassesOwn.never (PW.pt (pw_and (pt_cmpR op_ltA (pe_ix (ix_any K (hu_of hr)) (pv 0) pe_str (fun _ _ => rfl)) pe_int (nomark _)) (pw_and1 (pt_cmpR op_gtA (pe_callB (call_lenA K) (by rfl) Z.z_len PySem.boot_len (pa_cons (pv 2) pa_nil)) pe_int (nomark _))))) (pss_cons (ps_asg (pe_bm0 PySem.F.plainAttrs_list PySem.F.slot_list_pop PySem.F.type_list_pop mt_pop (pv 2)) (pg_sub (pv 0) pe_str (set_any (hu_of hr))))
  pss_nil))
  (pss_cons (ps_set (i := 3) sc__law_pick.nd rfl (Or.inl rfl) (pe_ix (ix_any K (hu_of hr)) (pv 0) pe_str (fun _ _ => rfl)))
  (pss_cons (ps_if (pt_cmpR op_gtA (pv 3) pe_int (nomark _)) (pss_cons (ps_asg (pe_op op_divA (pv 3) (pv 1)) (pg_sub (pv 0) pe_str (set_any (hu_of hr))))
  (pss_cons (ps_ret (pe_op op_modA (pe_callTy call_intA (by rfl) Z.z_int (by decide +kernel) (pa_cons (pv 3) pa_nil)) (pv 1)))
  pss_nil)) pss_nil)
  (pss_cons (ps_asg (pe_op op_addA (pe_ix (ix_any K (hu_of hr)) (pv 0) pe_str (fun _ _ => rfl)) pe_int) (pg_sub (pv 0) pe_str (set_any (hu_of hr))))
  (pss_cons (ps_set (i := 4) sc__law_pick.nd rfl (Or.inl rfl) (pe_ix (ix_any K (hu_of hr)) (pv 0) pe_str (fun _ _ => rfl)))
  (pss_cons (ps_set (i := 5) sc__law_pick.nd rfl (Or.inl rfl) (pe_op op_modA (pe_callTy call_intA (by rfl) Z.z_int (by decide +kernel) (pa_cons (pe_op op_addA (pe_ix (ix_any K (hu_of hr)) (pv 0) pe_str (fun _ _ => rfl)) (pe_op op_mulA (pv 4) pe_int)) pa_nil)) pe_int))
  (pss_cons (ps_set (i := 5) sc__law_pick.nd rfl (Or.inl rfl) (pe_op op_modA (pe_callTy call_intA (by rfl) Z.z_int (by decide +kernel) (pa_cons (pe_op op_addA (pe_op op_mulA (pv 5) (pv 5)) (pe_op op_mulA (pv 4) pe_int)) pa_nil)) pe_int))
  (pss_cons (ps_if (pt_cmpR op_gtA (pv 1) (pe_op op_pow pe_int pe_int) (nomark _)) (pss_cons (ps_set (i := 5) sc__law_pick.nd rfl (Or.inl rfl) (pe_op op_pow (pe_callTy call_intA (by rfl) Z.z_int (by decide +kernel) (pa_cons (pe_op op_addA (pe_op op_mulA (pv 5) pe_int) (pv 4)) pa_nil)) pe_int))
  pss_nil) pss_nil)
  (pss_cons (ps_ret (pe_op op_modA (pe_callTy call_intA (by rfl) Z.z_int (by decide +kernel) (pa_cons (pe_op op_divA (pv 5) pe_int) pa_nil)) (pv 1)))
  pss_nil))))))))))), ?_⟩
    obtain ⟨sG, gs, gc, cs, l, mx, t, hsa, hcl, hcs, hl0, hx0, hx1, ht0, ht1⟩ := hS
    have nsc : sa ≠ cl := ne_of hsa hcl (by intro z; cases z)
    have st := stab0 H H
    have h0 : SP0 H H 0 H H := Grow.refl (Same.refl H)
    show tSeq _ _ (Ends.mk _ _ _ _) [some _, some _, none, none, none, none] _
    refine q_if st h0 (et_testV (ev_opV (ev_var rfl) ev_c (v_lt st))) (fun H1 p k1 h1 => ?_) (fun H1 p k1 h1 => ?_)
    · refine q_retV st h1 ev_c fun H2 k2 h2 => ?_
      have p : many < 2 := by simpa using p
      have kk := k1.trans k2
      refine q _ G H2 ⟨Same.refl _, ⟨fun b o _ e => kk.k b o (fun z => z) e, kk.v⟩, ⟨fun b o e => h2.s _ _ (sG b o e), gs, gc, cs, l, mx, t, h2.s _ _ hsa, h2.s _ _ hcl, hcs, hl0, hx0, hx1, ht0, by omega⟩, fun _ _ e => .inl e⟩ ⟨0, ⟨by decide, .inr ⟨p, rfl⟩⟩, rfl⟩
    · have p : 2 ≤ many := by simpa using p
      refine q_end ?_
      refine q_setV st h1 (ev_opV (ev_var rfl) ev_c (v_ixDs st hsa src_c)) fun H2 k2 h2 => ?_
      have hPop : PopAt sa cl mx t H cs l H2 := ⟨⟨fun b o _ e => (k1.trans k2).k b o (fun z => z) e, (k1.trans k2).v⟩, h2.s _ _ hsa, h2.s _ _ hcl, hcs, hl0⟩
      clear hsa hcl
      refine ⟨fun m σ' J => σ' = [some (.ref sa), some (.int many), some (.ref cl), none, none, none] ∧ ∃ cs l, m = cs.length ∧ PopAt sa cl mx t H cs l J, ⟨cs.length, rfl, cs, l, rfl, hPop⟩, ?_⟩
      clear hPop hcs hl0 cs l
      rintro m σ' J ⟨rfl, cs, l, rfl, kJ, hsa, hcl, hcs, hl0⟩
      have stJ := stab0 J J
      have hJ : SP0 J J 0 J J := Grow.refl (Same.refl J)
      refine et_and stJ (et_testV (ev_opV (ev_opV (ev_var rfl) ev_c (v_ixDs stJ hsa src_l)) ev_c (v_lt stJ))) (fun _ => et_testV (ev_opV (ev_cbV (ea_consV (ev_var rfl) ea_nilV) (c_lenL stJ (SqL.of hcl))) ev_c (v_gt stJ))) J J (Same.refl _) hJ _ fun b G2 J2 s2 e => ?_
      have sJ := s2.same
      have kJ2 : Kp (Src sa cl) H J2 := kJ.trans ⟨fun b o _ e => sJ b o e, fun b h => sJ.free h⟩
      have hsa2 := sJ _ _ hsa
      have hcl2 := sJ _ _ hcl
      cases b with
      | true =>
        rw [if_pos rfl]
        have e := (Bool.and_eq_true _ _).mp e.symm
        have e1 : 0 < cs.length := by have := e.2; simpa using this
        refine ⟨fun σ3 J3 => ∃ m', m' < cs.length ∧ σ3 = [some (.ref sa), some (.int many), some (.ref cl), none, none, none] ∧ ∃ cs l, m' = cs.length ∧ PopAt sa cl mx t H cs l J3, fun _ _ z => z, ?_⟩
        have ed : (cs.map V.int).dropLast = cs.dropLast.map V.int := by rw [List.map_dropLast]
        have hy : (cs.map V.int)[(cs.map V.int).length - 1]? = some (.int (cs.getD (cs.length - 1) 0)) := by
          rw [List.length_map, List.getElem?_map, List.getElem?_eq_getElem (by omega), List.getD_eq_getElem?_getD, List.getElem?_eq_getElem (by omega)]
          rfl
        refine ⟨_, rfl, .inl ⟨rfl, _, SqL.of hcl2⟩, cl, _, _, rfl, rfl, hcl2, hy, ?_⟩
        rw [ed]
        have hs3 : upd J2 cl (.lst (cs.dropLast.map V.int)) sa = some (srcD cl l mx t) := by rw [upd_ne nsc]; exact hsa2
        refine ⟨_, rfl, tC_run (.inr ⟨sa, _, rfl, DPut.k (k := .inr ("left" : Str)) hs3 src_len, ?_⟩)⟩
        rw [put_l]
        refine ⟨cs.length - 1, by omega, rfl, cs.dropLast, cs.getD (cs.length - 1) 0, by rw [List.length_dropLast], kp_upd (kp_upd kJ2 (.inr rfl)) (.inl rfl), upd_same, by rw [upd_ne (Ne.symm nsc)]; exact upd_same, fun c hc => hcs c (List.dropLast_subset _ hc), ?_⟩
        rw [List.getD_eq_getElem?_getD, List.getElem?_eq_getElem (by omega)]
        exact hcs _ (List.getElem_mem _)
      | false =>
        rw [if_neg (by decide)]
        have e : 2 ≤ l ∨ cs = [] := by
          by_cases h2 : l < 2
          · simp [h2] at e
            exact .inr e
          · exact .inl (by omega)
        generalize hB : J2 = B at *
        have stB := stab0 B B
        have hB : SP0 B B 0 B B := Grow.refl (Same.refl B)
        refine q_setV stB hB (ev_opV (ev_var rfl) ev_c (v_ixDs stB hsa2 src_l)) fun C1 kc1 hc1 => ?_
        refine q_if stB hc1 (et_testV (ev_opV (ev_var rfl) ev_c (v_gt stB))) (fun C2 p2 kc2 hc2 => ?_) (fun C2 p2 kc2 hc2 => ?_)
        · have p2 : 1 < l := by simpa using p2
          refine (ev_opV (ev_var rfl) (ev_var rfl) (v_divW stB (wide_div (b := 2000) (by omega) (by omega) (by decide) (by decide)))) B C2 (Same.refl _) hc2 _ fun v G3 C3 s3 ev => ?_
          obtain rfl : v = _ := ev
          have s3 := s3.same
          have hsa3 : C3 sa = some (srcD cl l mx t) := s3 _ _ (hc2.s _ _ hsa2)
          refine ⟨_, rfl, tC_run (.inr ⟨sa, _, rfl, DPut.k (k := .inr ("left" : Str)) hsa3 src_len, ?_⟩)⟩
          rw [put_l]
          show tSeq _ _ (Ends.mk _ _ _ _) [some (.ref sa), some (.int many), some (.ref cl), some (.int l), none, none] (upd C3 sa (srcD cl (l / many) mx t))
          have kE : Kp (Src sa cl) H (upd C3 sa (srcD cl (l / many) mx t)) := kp_upd ((kJ2.trans (Kp.of hc2.s)).trans (Kp.of s3)) (.inl rfl)
          have hE1 : upd C3 sa (srcD cl (l / many) mx t) sa = some (srcD cl (l / many) mx t) := upd_same
          have hE2 : upd C3 sa (srcD cl (l / many) mx t) cl = some (.lst (cs.map V.int)) := by
            rw [upd_ne (Ne.symm nsc)]
            exact s3 _ _ (hc2.s _ _ hcl2)
          generalize upd C3 sa (srcD cl (l / many) mx t) = C at *
          have stE := stab0 C C
          have hE : SP0 C C 0 C C := Grow.refl (Same.refl C)
          refine q_retV stE hE (ev_opV (ev_cbV (ea_consV (ev_var rfl) ea_nilV) (c_int stE)) (ev_var rfl) (v_mod stE (j := many) (by omega))) fun F kf hf => ?_
          exact q _ G F (src_end sG gs gc (kE.trans (Kp.of hf.s)) ⟨cs, _, mx, t, hf.s _ _ hE1, hf.s _ _ hE2, hcs, Int.ediv_nonneg hl0 (by omega), hx0, hx1, ht0, by omega⟩) ⟨_, ⟨Int.emod_nonneg _ (by omega), .inl (Int.emod_lt_of_pos _ (by omega))⟩, rfl⟩
        · have p2 : ¬ 1 < l := by simpa using p2
          refine q_end ?_
          refine (ev_opV (ev_opV (ev_var rfl) ev_c (v_ixDs stB hsa2 src_t)) ev_c (v_add stB)) B C2 (Same.refl _) hc2 _ fun v G3 C3 s3 ev => ?_
          obtain rfl : v = _ := ev
          have s3 := s3.same
          have hsa3 : C3 sa = some (srcD cl l mx t) := s3 _ _ (hc2.s _ _ hsa2)
          refine ⟨_, rfl, tC_run (.inr ⟨sa, _, rfl, DPut.k (k := .inr ("turn" : Str)) hsa3 src_len, ?_⟩)⟩
          rw [put_t]
          show tSeq _ _ (Ends.mk _ _ _ _) [some (.ref sa), some (.int many), some (.ref cl), some (.int l), none, none] (upd C3 sa (srcD cl l mx (t + 1)))
          have kE : Kp (Src sa cl) H (upd C3 sa (srcD cl l mx (t + 1))) := kp_upd ((kJ2.trans (Kp.of hc2.s)).trans (Kp.of s3)) (.inl rfl)
          have hE1 : upd C3 sa (srcD cl l mx (t + 1)) sa = some (srcD cl l mx (t + 1)) := upd_same
          have hE2 : upd C3 sa (srcD cl l mx (t + 1)) cl = some (.lst (cs.map V.int)) := by
            rw [upd_ne (Ne.symm nsc)]
            exact s3 _ _ (hc2.s _ _ hcl2)
          generalize upd C3 sa (srcD cl l mx (t + 1)) = C at *
          have stE := stab0 C C
          have hE : SP0 C C 0 C C := Grow.refl (Same.refl C)
          refine q_setV stE hE (ev_opV (ev_var rfl) ev_c (v_ixDs stE hE1 src_t)) fun F1 kf1 hf1 => ?_
          refine q_setV stE hf1 (ev_opV (ev_cbV (ea_consV (ev_opV (ev_opV (ev_var rfl) ev_c (v_ixDs stE hE1 src_m)) (ev_opV (ev_var rfl) ev_c (v_mul stE (.inr ⟨by decide, by decide⟩))) (v_add stE)) ea_nilV) (c_int stE)) ev_c (v_mod stE (by decide))) fun F2 kf2 hf2 => ?_
          have r1 : 0 ≤ (mx + (t + 1) * 104729) % 998244353 := Int.emod_nonneg _ (by decide)
          have r2 : (mx + (t + 1) * 104729) % 998244353 < 998244353 := Int.emod_lt_of_pos _ (by decide)
          generalize (mx + (t + 1) * 104729) % 998244353 = m1 at *
          refine q_setV stE hf2 (ev_opV (ev_cbV (ea_consV (ev_opV (ev_opV (ev_var rfl) (ev_var rfl) (v_mul stE (.inl ⟨by omega, by omega⟩))) (ev_opV (ev_var rfl) ev_c (v_mul stE (.inr ⟨by decide, by decide⟩))) (v_add stE)) ea_nilV) (c_int stE)) ev_c (v_mod stE (by decide))) fun F3 kf3 hf3 => ?_
          have r3 : 0 ≤ (m1 * m1 + (t + 1) * 17) % 2147483647 := Int.emod_nonneg _ (by decide)
          have r4 : (m1 * m1 + (t + 1) * 17) % 2147483647 < 2147483647 := Int.emod_lt_of_pos _ (by decide)
          generalize (m1 * m1 + (t + 1) * 17) % 2147483647 = m2 at *
          refine q_if stE hf3 (et_testV (ev_opV (ev_var rfl) (ev_opV ev_c ev_c (v_pow stE ⟨by decide, by decide, by decide⟩)) (v_gt stE))) (fun F4 p4 kf4 hf4 => ?_) (fun F4 p4 kf4 hf4 => ?_)
          · have p4 : (10 : Int) ^ (7 : Nat) < many := of_decide_eq_true p4.symm
            have nb : n < 2 ^ 60 := hm2 p4
            refine q_setV stE hf4 (ev_opV (ev_cbV (ea_consV (ev_opV (ev_opV (ev_var rfl) ev_c (v_mul stE (.inr ⟨by decide, by decide⟩))) (ev_var rfl) (v_add stE)) ea_nilV) (c_int stE)) ev_c (v_pow stE ⟨by decide, by decide, ?_⟩)) fun F5 kf5 hf5 => ?_
            · omega
            · refine q_end ?_
              refine q_retV stE hf5 (ev_opV (ev_cbV (ea_consV (ev_opV (ev_var rfl) ev_c (v_div stE ⟨by decide, by decide⟩)) ea_nilV) (c_int stE)) (ev_var rfl) (v_mod stE (by omega))) fun F6 kf6 hf => ?_
              exact q _ G F6 (src_end sG gs gc (kE.trans (Kp.of hf.s)) ⟨cs, _, mx, t + 1, hf.s _ _ hE1, hf.s _ _ hE2, hcs, hl0, hx0, hx1, by omega, by omega⟩) ⟨_, ⟨Int.emod_nonneg _ (by omega), .inl (Int.emod_lt_of_pos _ (by omega))⟩, rfl⟩
          · refine q_end ?_
            refine q_retV stE hf4 (ev_opV (ev_cbV (ea_consV (ev_opV (ev_var rfl) ev_c (v_div stE ⟨by decide, by decide⟩)) ea_nilV) (c_int stE)) (ev_var rfl) (v_mod stE (by omega))) fun F6 kf6 hf => ?_
            exact q _ G F6 (src_end sG gs gc (kE.trans (Kp.of hf.s)) ⟨cs, _, mx, t + 1, hf.s _ _ hE1, hf.s _ _ hE2, hcs, hl0, hx0, hx1, by omega, by omega⟩) ⟨_, ⟨Int.emod_nonneg _ (by omega), .inl (Int.emod_lt_of_pos _ (by omega))⟩, rfl⟩
abbrev s__law_like : Stmt := top 30
theorem sc__law_like : FnScope ["_law_found", "_law_due_here", "_law_kinds", "_law_key", "_law_k"] ["_law_found", "_law_due_here"] (defScope s__law_like) := ⟨rfl, rfl, rfl, by decide +kernel, rfl, by decide +kernel, by decide +kernel⟩
theorem ok_like {f : Addr} {fd : FuncData} (Z : Bi mg) (F : Fun K "_law_like" "_law_like" s__law_like f fd) (hmg : mg "_law_like" = some (.ref f)) (hk : PySem.W.keepIn K (.ref f) = true) (hb : Binds K fd ["_law_found", "_law_due_here"] []) : ∀ N : Nat, FnOk P w K mg base CX0 N f fd ["_law_found", "_law_due_here"] (spP (PLike K N)) := by
  intro N
  induction N with
  | zero =>
    refine ⟨fun vs H Q E h => ?_, fun A outer s H args us vs Q E hr h0 hb hv h => ?_⟩
    · obtain ⟨_, _, _, ⟨x, y, d, rfl, hd, _⟩, _⟩ := h
      exact absurd hd (Nat.not_lt_zero _)
    · obtain ⟨_, _, _, ⟨x, y, d, rfl, hd, _⟩, _⟩ := h
      exact absurd hd (Nat.not_lt_zero _)
  | succ N ih =>
    have c__law_like : Callee P w K mg base "_law_like" CX0 N ["_law_found", "_law_due_here"] [] (spP (PLike K N)) := ⟨f, fd, [], hmg, hk, ih, hb, .nil⟩
    refine F.ok sc__law_like (fun vs H Q E h => ?_) (fun cdv A outer s H vs Q E hr h => ?_)
    · obtain ⟨_, _, _, ⟨x, y, d, rfl, _⟩, _⟩ := h
      rfl
    · obtain ⟨G, R, hs, ⟨x, y, d, rfl, hd, hsm, dx, dy, rfl⟩, q⟩ := h
      refine ⟨_, (pss_cons (ps_if (pt_cmpR op_isN (pv 1) pe_non (nomark _)) (pss_cons (ps_ret (pe_cmpR op_isN (pv 0) pe_non (nomark _)))
  pss_nil) pss_nil)
  (pss_cons (ps_set (i := 2) sc__law_like.nd rfl (Or.inl rfl) (pe_lst (pa_cons (pe_cmpR (op_eqA K hr.units) (pe_callB (call_isiA K) (by rfl) Z.z_isinstance (by decide +kernel) (pa_cons (pv 0) (pa_cons (pe_bltn (v := .ty "bool") (by rfl) Z.z_bool (by decide +kernel) rfl) pa_nil))) (pe_callB (call_isiA K) (by rfl) Z.z_isinstance (by decide +kernel) (pa_cons (pv 1) (pa_cons (pe_bltn (v := .ty "bool") (by rfl) Z.z_bool (by decide +kernel) rfl) pa_nil))) (nomark _)) (pa_cons (pe_cmpR (op_eqA K hr.units) (pe_callB (call_isiA K) (by rfl) Z.z_isinstance (by decide +kernel) (pa_cons (pv 0) (pa_cons (pe_bltn (v := .ty "str") (by rfl) Z.z_str (by decide +kernel) rfl) pa_nil))) (pe_callB (call_isiA K) (by rfl) Z.z_isinstance (by decide +kernel) (pa_cons (pv 1) (pa_cons (pe_bltn (v := .ty "str") (by rfl) Z.z_str (by decide +kernel) rfl) pa_nil))) (nomark _)) pa_nil))))
  (pss_cons (ps_expr (pe_bm PySem.F.plainAttrs_list PySem.F.slot_list_append PySem.F.type_list_append mt_append (pv 2) (pa_cons (pe_cmpR (op_eqA K hr.units) (pe_callB (call_isiA K) (by rfl) Z.z_isinstance (by decide +kernel) (pa_cons (pv 0) (pa_cons (pe_bltn (v := .ty "list") (by rfl) Z.z_list (by decide +kernel) rfl) pa_nil))) (pe_callB (call_isiA K) (by rfl) Z.z_isinstance (by decide +kernel) (pa_cons (pv 1) (pa_cons (pe_bltn (v := .ty "list") (by rfl) Z.z_list (by decide +kernel) rfl) pa_nil))) (nomark _)) pa_nil)))
  (pss_cons (ps_expr (pe_bm PySem.F.plainAttrs_list PySem.F.slot_list_append PySem.F.type_list_append mt_append (pv 2) (pa_cons (pe_cmpR (op_eqA K hr.units) (pe_callB (call_isiA K) (by rfl) Z.z_isinstance (by decide +kernel) (pa_cons (pv 0) (pa_cons (pe_bltn (v := .ty "tuple") (by rfl) Z.z_tuple (by decide +kernel) rfl) pa_nil))) (pe_callB (call_isiA K) (by rfl) Z.z_isinstance (by decide +kernel) (pa_cons (pv 1) (pa_cons (pe_bltn (v := .ty "tuple") (by rfl) Z.z_tuple (by decide +kernel) rfl) pa_nil))) (nomark _)) pa_nil)))
  (pss_cons (ps_expr (pe_bm PySem.F.plainAttrs_list PySem.F.slot_list_append PySem.F.type_list_append mt_append (pv 2) (pa_cons (pe_cmpR (op_eqA K hr.units) (pe_callB (call_isiA K) (by rfl) Z.z_isinstance (by decide +kernel) (pa_cons (pv 0) (pa_cons (pe_bltn (v := .ty "dict") (by rfl) Z.z_dict (by decide +kernel) rfl) pa_nil))) (pe_callB (call_isiA K) (by rfl) Z.z_isinstance (by decide +kernel) (pa_cons (pv 1) (pa_cons (pe_bltn (v := .ty "dict") (by rfl) Z.z_dict (by decide +kernel) rfl) pa_nil))) (nomark _)) pa_nil)))
  (pss_cons (ps_if (pt_cmpR (op_inA K (hu_of hr)) pe_bl (pv 2) (by rfl)) (pss_cons (ps_ret pe_bl)
  pss_nil) pss_nil)
  (pss_cons (ps_if (pt_val (pe_callB (call_isiA K) (by rfl) Z.z_isinstance (by decide +kernel) (pa_cons (pv 1) (pa_cons (pe_bltn (v := .ty "dict") (by rfl) Z.z_dict (by decide +kernel) rfl) pa_nil)))) (pss_cons (ps_if (pt_cmpR (op_neA K hr.units) (pe_callTy (call_listA K) (by rfl) Z.z_list (by decide +kernel) (pa_cons (pv 0) pa_nil)) (pe_callTy (call_listA K) (by rfl) Z.z_list (by decide +kernel) (pa_cons (pv 1) pa_nil)) (nomark _)) (pss_cons (ps_ret pe_bl)
  pss_nil) pss_nil)
  (pss_cons (ps_ret (pe_cmpR (op_ninA K (hu_of hr)) pe_bl (pe_lc (own := [("_law_key", 3)]) (g := (gName 3)) rfl sc__law_like.nd (pi_listK K (pv 1)) (blkOk_by (by kernel_rfl)) (fun _ _ _ _ _ => (pg_name (i := 3) sc__law_like.nd rfl (Or.inl rfl))) (fun _ _ _ _ _ => pts_nil) (fun _ _ _ _ _ => (pe_callC c__law_like hr pass0 (pa_cons (pe_ix (ix_any K (hu_of hr)) (pv 0) (pv 3) (fun _ _ => rfl)) (pa_cons (pe_ix (ix_any K (hu_of hr)) (pv 1) (pv 3) (fun _ _ => rfl)) pa_nil))))) (by rfl)))
  pss_nil)) pss_nil)
  (pss_cons (ps_if (pt_val (pe_callB (call_isiTA K) (by rfl) Z.z_isinstance (by decide +kernel) (pa_cons (pv 1) (pa_cons (pe_tup (pa_cons (pe_bltn (v := .ty "list") (by rfl) Z.z_list (by decide +kernel) rfl) (pa_cons (pe_bltn (v := .ty "tuple") (by rfl) Z.z_tuple (by decide +kernel) rfl) pa_nil))) pa_nil)))) (pss_cons (ps_if (pt_cmpR (op_neA K hr.units) (pe_callB (call_lenA K) (by rfl) Z.z_len PySem.boot_len (pa_cons (pv 0) pa_nil)) (pe_callB (call_lenA K) (by rfl) Z.z_len PySem.boot_len (pa_cons (pv 1) pa_nil)) (nomark _)) (pss_cons (ps_ret pe_bl)
  pss_nil) pss_nil)
  (pss_cons (ps_ret (pe_cmpR (op_ninA K (hu_of hr)) pe_bl (pe_lc (own := [("_law_k", 4)]) (g := (gName 4)) rfl sc__law_like.nd (pi_range1 (by rfl) Z.z_range (pa_cons (pe_callB (call_lenA K) (by rfl) Z.z_len PySem.boot_len (pa_cons (pv 1) pa_nil)) pa_nil)) (blkOk_by (by kernel_rfl)) (fun _ _ _ _ _ => (pg_name (i := 4) sc__law_like.nd rfl (Or.inl rfl))) (fun _ _ _ _ _ => pts_nil) (fun _ _ _ _ _ => (pe_callC c__law_like hr pass0 (pa_cons (pe_ix (ix_any K (hu_of hr)) (pv 0) (pv 4) (fun _ _ => rfl)) (pa_cons (pe_ix (ix_any K (hu_of hr)) (pv 1) (pv 4) (fun _ _ => rfl)) pa_nil))))) (by rfl)))
  pss_nil)) pss_nil)
  (pss_cons (ps_ret (pe_cmpR (op_eqA K hr.units) (pv 0) (pv 1) (nomark _)))
  pss_nil))))))))), ?_⟩
      have st := stab0 G H
      have hS : SP0 G H 0 G H := Grow.refl hs
      show tSeq _ _ (Ends.mk _ _ _ _) [some _, some _, none, none, none] _
      refine q_if st hS (et_testV (ev_opV (ev_var rfl) ev_c (v_isN st))) (fun H1 p1 k1 h1 => ?_) (fun H1 p1 k1 h1 => ?_)
      · have p1 : y = .non := of_decide_eq_true p1.symm
        subst p1
        have e : x = .non := by
          cases dy
          cases dx
          rfl
        refine q_retV st h1 (ev_opV (ev_var rfl) ev_c (v_isN st)) fun H2 k2 h2 => ?_
        exact q _ _ _ h2 (by rw [decide_eq_true e]; rfl)
      · have p1 : ¬ y = .non := of_decide_eq_false p1.symm
        refine q_end ?_
        have isi : ∀ {n : Nat} {c : String} {σ : L2.St} {i : Nat} {z : V}, Dp K G z d → c ∈ ["bool", "str", "list", "tuple", "dict", "int"] → σ[i]? = some (some z) → Ev (SP0 G H) n (0 + (0 + 0)) (tCB (rIsi K) (tCons (tVar i) (tCons (tC (.ty c)) tNil))) σ G (IsV (.bl (isiB (tyS d) c))) :=
          fun dz hc hi => ev_cbV (ea_consV (ev_var hi) (ea_consV ev_c ea_nilV)) (c_isiD st dz hc)
        refine q_newL st h1 (ea_consV (ev_opV (isi dx (by decide) rfl) (isi dy (by decide) rfl) (v_eqB st)) (ea_consV (ev_opV (isi dx (by decide) rfl) (isi dy (by decide) rfl) (v_eqB st)) ea_nilV)) (by simp) fun p H2 hp gp k2 h2 e2 => ?_
        refine q_app st h1 hp k2 h2 gp e2 (by simp) rfl (ea_consV (ev_opV (isi dx (by decide) rfl) (isi dy (by decide) rfl) (v_eqB st)) ea_nilV) fun H3 k3 h3 e3 => ?_
        refine q_app st h1 hp k3 h3 gp e3 (by simp) rfl (ea_consV (ev_opV (isi dx (by decide) rfl) (isi dy (by decide) rfl) (v_eqB st)) ea_nilV) fun H4 k4 h4 e4 => ?_
        refine q_app st h1 hp k4 h4 gp e4 (by simp) rfl (ea_consV (ev_opV (isi dx (by decide) rfl) (isi dy (by decide) rfl) (v_eqB st)) ea_nilV) fun H5 k5 h5 e5 => ?_
        obtain ⟨L, hL, e5⟩ : ∃ L, L = _ ∧ H5 p = some (.lst L) := ⟨_, rfl, e5⟩
        obtain ⟨h6, sg⟩ := st_pub st h1 hp h5 gp e5
        have hp6 : upd G p (.lst L) p = some (.lst L) := upd_same
        generalize upd G p (.lst L) = G1 at h6 sg hp6
        change SP0 G H 0 G1 H5 at h6
        replace dx := dp_mon sg dx
        replace dy := dp_mon sg dy
        clear isi
        refine q_if st h6 (et_testV (ev_opV ev_c (ev_var rfl) (v_inL (neg := false) st (SqL.of hp6) rfl (by rw [hL]; rfl)))) (fun H7 p7 k7 h7 => ?_) (fun H7 p7 k7 h7 => ?_)
        · exact absurd p7 (by rw [hL]; simp [inV, eqV])
        refine q_end ?_
        refine q_if st h7 (et_B (ev_cbV (ea_consV (ev_var rfl) (ea_consV ev_c ea_nilV)) (c_isiD st dy (by decide)))) (fun H8 p8 k8 h8 => ?_) (fun H8 p8 k8 h8 => ?_)
        · rw [isi_dict dy] at p8
          cases p8
        refine q_end ?_
        refine q_if st h8 (et_B (ev_cb (ea_cons (ev_var rfl) (ea_cons (ev_tupN st (ea_consV ev_c (ea_consV ev_c ea_nilV)) (by simp)) ea_nil)) (R := IsV (.bl (isiB (tyS d) "list" || isiB (tyS d) "tuple"))) fun vs G2 s2 e => ?_)) (fun H9 p9 k9 h9 => ?_) (fun H9 p9 k9 h9 => ?_)
        · obtain ⟨_, _, rfl, e1, _, _, rfl, ⟨tp, rfl, _, ht⟩, e3⟩ := e
          obtain rfl := (show _ = _ from e1)
          obtain rfl := (show _ = _ from e3)
          exact c_isiLT st (dp_mon s2 dy) ht
        · have p9 := p9.symm
          obtain ⟨ds, px, xs, hds, rfl, hx, ax⟩ := dp_seq dx p9
          obtain ⟨ds2, py, ys, hds2, rfl, hy, ay⟩ := dp_seq dy p9
          obtain rfl : ds2 = ds := by
            rcases hds with rfl | rfl <;> rcases hds2 with e | e <;> cases e <;> rfl
          obtain ⟨hlen, hsub⟩ := hsm.len hds
          have lx := dpAll_len ax
          have ly := dpAll_len ay
          refine q_if st h9 (et_testV (ev_opV (ev_cbV (ea_consV (ev_var rfl) ea_nilV) (c_lenQ st hx)) (ev_cbV (ea_consV (ev_var rfl) ea_nilV) (c_lenQ st hy)) (v_neI st))) (fun H10 p10 k10 h10 => ?_) (fun H10 p10 k10 h10 => ?_)
          · rw [lx, ly] at p10
            simp at p10
          refine q_end ?_
          refine q_ret h10 (R := IsV (.bl true)) (ev_op ev_c (ev_lcR (c1 := 0) st (fun _ => IsV (.bl true)) (ea_consV (ev_cbV (ea_consV (ev_var rfl) ea_nilV) (c_lenQ st hy)) ea_nilV) (by omega) (by omega) (fun j G2 hj s2 => ?_) (fun x => rfl)) fun a b G2 s2 ea eb => ?_) fun v G2 H11 s3 ev => ?_
          · have hj : j < ds2.length := by omega
            have ej : ds2[j]? = some ds2[j] := List.getElem?_eq_getElem hj
            obtain ⟨xj, exj, dxj⟩ := dpAll_get ax ej
            obtain ⟨yj, eyj, dyj⟩ := dpAll_get ay ej
            refine ev_callV (ws := [xj, yj]) st (ea_consV (ev_opV (ev_var rfl) (ev_var rfl) (v_ixQ st (sq_mon s2 hx) (atI_nat exj))) (ea_consV (ev_opV (ev_var rfl) (ev_var rfl) (v_ixQ st (sq_mon s2 hy) (atI_nat eyj))) ea_nilV)) fun G3 s3 => ?_
            refine ⟨xj, yj, _, rfl, ?_, hsub _ (List.getElem_mem hj), dp_mon (s2.trans s3) dxj, dp_mon (s2.trans s3) dyj, rfl⟩
            have := depth_get ej
            have := depth_seq hds
            omega
          · obtain rfl := (show _ = _ from ea)
            obtain ⟨pl, zs, rfl, _, hz, _, hr⟩ := eb
            have hall : ∀ z ∈ zs, z = V.bl true := fun z hz => by
              obtain ⟨i, hi⟩ := List.getElem?_of_mem hz
              exact hr i z hi
            have e := v_inL (K := K) (x := .bl false) (neg := true) st (SqL.of hz) rfl (inV_all hall).2
            have hi : inV (.bl false) zs = false := (inV_all hall).1
            rw [hi] at e
            exact e
          · exact q _ _ _ s3.s ev
        · have p9 := p9.symm
          rw [Bool.or_eq_false_iff] at p9
          refine q_end ?_
          rcases dp_scal dx p9.1 p9.2 with ⟨rfl, rfl⟩ | ⟨b, rfl, rfl⟩ | ⟨i, rfl, rfl⟩ | ⟨z, rfl, rfl⟩
          · cases dy
            exact absurd rfl p1
          · cases dy
            exact q_retV st h9 (ev_opV (ev_var rfl) (ev_var rfl) (v_eqB st)) fun H10 k10 h10 => q _ _ _ h10 (by simp [IsV])
          · cases dy
            exact q_retV st h9 (ev_opV (ev_var rfl) (ev_var rfl) (v_eqI st)) fun H10 k10 h10 => q _ _ _ h10 (by simp [IsV])
          · cases dy
            exact q_retV st h9 (ev_opV (ev_var rfl) (ev_var rfl) (v_eqS st)) fun H10 k10 h10 => q _ _ _ h10 (by simp [IsV])
abbrev s_Scale___init__ : Stmt := inClass (top 7) 0
theorem sc_Scale___init__ : FnScope ["self", "label", "names", "never_at", "still_at", "depth", "places", "place", "name", "a", "b"] ["self", "label", "names", "never_at", "still_at", "depth"] (defScope s_Scale___init__) := ⟨rfl, rfl, rfl, by decide +kernel, rfl, by decide +kernel, by decide +kernel⟩
theorem ok_Scale_init {C : Addr} {PT PJ : List V → Hp → HR → Prop} (Z : Bi mg) (hC : Cls K C) (hN : ∀ f ∈ scF, NoAttr K C f) (c_then : Method P w K mg base C "make_then" CX0 5 ["self", "first", "second"] [] (spP PT)) (c_join : Method P w K mg base C "make_join" CX0 5 ["self", "first", "second"] [] (spP PJ))
    {f : Addr} {fd : FuncData} (F : FunD K "__init__" "Scale.__init__" (defArgs s_Scale___init__) (defBody s_Scale___init__) (defScope s_Scale___init__) [.int 1] [] f fd) : FnOk P w K mg base CX0 6 f fd ["self", "label", "names", "never_at", "still_at", "depth"] (spI (PScI K C PT PJ)) := by
  refine okD F sc_Scale___init__ (fun vs H Q E h => ?_) (fun cdv A outer s H vs Q E hr h => ?_)
  · obtain ⟨x, C', dx, fs, rest, G, R, rfl, _, _, _, ⟨_, label, pn, names, nv, sl, dep, th, jn, rfl, _⟩, _⟩ := h
    rfl
  · obtain ⟨x, C', dx, fs, rest, G, R, rfl, hx, hG, gx, ⟨rfl, label, pn, names, nv, sl, dep, th, jn, rfl, hq, hnl, hnd, hfl, hm1, hm2, hM, rfl⟩, q⟩ := h
    refine ⟨_, (pss_cons (ps_fld (pv 0) (pv 1) rfl)
  (pss_cons (ps_fld (pv 0) (pe_callB (call_lenA K) (by rfl) Z.z_len PySem.boot_len (pa_cons (pv 2) pa_nil)) rfl)
  (pss_cons (ps_fld (pv 0) (pv 3) rfl)
  (pss_cons (ps_fld (pv 0) (pv 4) rfl)
  (pss_cons (ps_fld (pv 0) (pv 5) rfl)
  (pss_cons (ps_fld (pv 0) (pe_callTy (call_tupleA K) (by rfl) Z.z_tuple (by decide +kernel) (pa_cons (pv 2) pa_nil)) rfl)
  (pss_cons (ps_fld (pv 0) (pe_dc (own := [("place", 7), ("name", 8)]) (g := (gTup _ 2 (gCons (gName 7) (gCons (gName 8) gNil)))) rfl sc_Scale___init__.nd (pi_enum (by rfl) Z.z_enumerate (pa_cons (pv 2) pa_nil)) (blkOk_by (by kernel_rfl)) (fun _ _ _ _ _ => (pg_tup rfl (pgs_cons (pg_name (i := 7) sc_Scale___init__.nd rfl (Or.inl rfl)) (pgs_cons (pg_name (i := 8) sc_Scale___init__.nd rfl (Or.inl rfl)) pgs_nil)))) (fun _ _ _ _ _ => pts_nil) (fun _ _ _ _ _ => (pv 8)) (fun _ _ _ _ _ => (pv 7))) rfl)
  (pss_cons (ps_set (i := 6) sc_Scale___init__.nd rfl (Or.inr rfl) (pe_listRg rfl (by rfl) Z.z_list (prg_1 (by rfl) Z.z_range (pe_callB (call_lenA K) (by rfl) Z.z_len PySem.boot_len (pa_cons (pv 2) pa_nil)))))
  (pss_cons (ps_fld (pv 0) (pe_callTy (call_tupleA K) (by rfl) Z.z_tuple (by decide +kernel) (pa_cons (pe_lc (own := [("a", 9)]) (g := (gName 9)) rfl sc_Scale___init__.nd (pi_listK K (pv 6)) (blkOk_by (by kernel_rfl)) (fun _ _ _ _ _ => (pg_name (i := 9) sc_Scale___init__.nd rfl (Or.inr rfl))) (fun _ _ _ _ _ => pts_nil) (fun _ _ _ _ _ => (pe_callTy (call_tupleA K) (by rfl) Z.z_tuple (by decide +kernel) (pa_cons (pe_lc (own := [("b", 10)]) (g := (gName 10)) rfl sc_Scale___init__.nd (pi_listK K (pv 6)) (blkOk_by (by kernel_rfl)) (fun _ _ _ _ _ => (pg_name (i := 10) sc_Scale___init__.nd rfl (Or.inl rfl))) (fun _ _ _ _ _ => pts_nil) (fun _ _ _ _ _ => (pe_methC c_then (hr.mono (by decide)) pass0 (pv 0) (pa_cons (pv 9) (pa_cons (pv 10) pa_nil))))) pa_nil)))) pa_nil)) rfl)
  (pss_cons (ps_fld (pv 0) (pe_callTy (call_tupleA K) (by rfl) Z.z_tuple (by decide +kernel) (pa_cons (pe_lc (own := [("a", 9)]) (g := (gName 9)) rfl sc_Scale___init__.nd (pi_listK K (pv 6)) (blkOk_by (by kernel_rfl)) (fun _ _ _ _ _ => (pg_name (i := 9) sc_Scale___init__.nd rfl (Or.inr rfl))) (fun _ _ _ _ _ => pts_nil) (fun _ _ _ _ _ => (pe_callTy (call_tupleA K) (by rfl) Z.z_tuple (by decide +kernel) (pa_cons (pe_lc (own := [("b", 10)]) (g := (gName 10)) rfl sc_Scale___init__.nd (pi_listK K (pv 6)) (blkOk_by (by kernel_rfl)) (fun _ _ _ _ _ => (pg_name (i := 10) sc_Scale___init__.nd rfl (Or.inl rfl))) (fun _ _ _ _ _ => pts_nil) (fun _ _ _ _ _ => (pe_methC c_join (hr.mono (by decide)) pass0 (pv 0) (pa_cons (pv 9) (pa_cons (pv 10) pa_nil))))) pa_nil)))) pa_nil)) rfl)
  pss_nil)))))))))), ?_⟩
    have n1 : ∀ {f : Str}, f ∈ scF → NoAttr K C' f := fun h => hN _ h
    have l0 : names.map V.str = names.map V.str := rfl
    have ll : ((names.map V.str).length : Int) = (names.length : Nat) := by rw [List.length_map]
    have h0 := own_start (o := .ins C' dx fs) hG gx hx 0
    show tSeq _ _ (Ends.mk _ _ _ _) [some _, some _, some _, some _, some _, some _, none, none, none, none, none] _
    refine q_fldV h0 (ev_var rfl) rfl hC (n1 (by decide)) (by omega) fun H1 h1 => ?_
    have z1 := putF_len ("label" : Str) (.str label) fs
    have st := stabO G H x (.ins C' dx (putF ("label" : Str) (.str label) fs))
    refine q_fldV h1 (ev_cbV (ea_consV (ev_var rfl) ea_nilV) (c_lenL st hq)) rfl hC (n1 (by decide)) (by omega) fun H2 h2 => ?_
    rw [ll] at h2
    generalize e2 : putF ("size" : Str) (.int (names.length : Nat)) (putF ("label" : Str) (.str label) fs) = f2 at h2
    have z2 : f2.length ≤ fs.length + 2 := by rw [← e2]; exact Nat.le_trans (putF_len _ _ _) (by omega)
    refine q_fldV h2 (ev_var rfl) rfl hC (n1 (by decide)) (by omega) fun H3 h3 => ?_
    generalize e3 : putF ("never_at" : Str) (.int nv) f2 = f3 at h3
    have z3 : f3.length ≤ fs.length + 3 := by rw [← e3]; exact Nat.le_trans (putF_len _ _ _) (by omega)
    refine q_fldV h3 (ev_var rfl) rfl hC (n1 (by decide)) (by omega) fun H4 h4 => ?_
    generalize e4 : putF ("still_at" : Str) (.int sl) f3 = f4 at h4
    have z4 : f4.length ≤ fs.length + 4 := by rw [← e4]; exact Nat.le_trans (putF_len _ _ _) (by omega)
    refine q_fldV h4 (ev_var rfl) rfl hC (n1 (by decide)) (by omega) fun H5 h5 => ?_
    generalize e5 : putF ("depth" : Str) (.int dep) f4 = f5 at h5
    have z5 : f5.length ≤ fs.length + 5 := by rw [← e5]; exact Nat.le_trans (putF_len _ _ _) (by omega)
    have st5 := stabO G H x (.ins C' dx f5)
    refine q_fldO h5 (ev_cbV (ea_consV (ev_var rfl) ea_nilV) (c_tupN st5 hq)) rfl hC (n1 (by decide)) (by omega) fun v6 G6 H6 s6 h6 r6 => ?_
    obtain ⟨p6, rfl, _, g6⟩ := r6
    generalize e6 : putF ("worth_names" : Str) (.ref p6) f5 = f6 at h6
    have z6 : f6.length ≤ fs.length + 6 := by rw [← e6]; exact Nat.le_trans (putF_len _ _ _) (by omega)
    have st6 := stabO G H x (.ins C' dx f6)
    refine q_fldO h6 (ev_dcE st6 (ea_consV (ev_var rfl) ea_nilV) (s6.seq hq) (by omega) hnd (by decide) (Nat.le_of_ble_eq_true rfl) (Nat.le_of_ble_eq_true rfl) (fun _ _ => rfl)) rfl hC (n1 (by decide)) (by omega) fun v7 G7 H7 s7 h7 r7 => ?_
    obtain ⟨p7, rfl, _, g7⟩ := r7
    generalize e7 : putF ("worth_places" : Str) (.ref p7) f6 = f7 at h7
    have z7 : f7.length ≤ fs.length + 7 := by rw [← e7]; exact Nat.le_trans (putF_len _ _ _) (by omega)
    have st7 := stabO G H x (.ins C' dx f7)
    have s67 := s6.trans s7
    refine q_set h7 (ev_listRg st7 (ev_cbV (ea_consV (ev_var rfl) ea_nilV) (c_lenL st7 (s67.seq hq))) (by omega) (by rw [ll]; omega)) fun v8 G8 H8 s8 r8 => ?_
    obtain ⟨p8, rfl, _, g8⟩ := r8
    rw [ll, Int.toNat_natCast] at g8
    have off7 : ∀ f, f ∉ scF → f7.lookup f = fs.lookup f := fun f hf => by
      rw [← e7, ← e6, ← e5, ← e4, ← e3, ← e2]
      iterate 7 rw [lk_off hf (by decide)]
    have s08 := s67.trans s8.g
    refine q_fldO s8.s (ev_look (R := IsTN names.length fun i => IsTN names.length fun j => IsV (.int (th i j))) (fun G1 s1 x1 => ev_table stabA upd_same (by rw [off7 _ (by decide)]; exact hm1) (by rw [upd_ne (ne_of_none (s1 _ _ g8) x1)]; exact s1 _ _ g8) (by omega)
      (fun G' s' a b ha hb => (hM x dx f7 G' (fun c o e => s' c o (by rw [upd_ne (ne_of_none (s1 _ _ (s08 _ _ e)) x1)]; exact s1 _ _ (s08 _ _ e))) (s' _ _ upd_same) off7 a b ha hb).1)) (fun v G2 r z => tab_del r z)) rfl hC (n1 (by decide)) (by omega) fun v9 G9 H9 s9 h9 r9 => ?_
    obtain ⟨p9, ys9, rfl, r9⟩ := r9
    have r9 : Tab G9 p9 names.length th := ⟨p9, ys9, rfl, r9⟩
    generalize e9 : putF ("product_table" : Str) (.ref p9) f7 = f9 at h9
    have z9 : f9.length ≤ fs.length + 8 := by rw [← e9]; exact Nat.le_trans (putF_len _ _ _) (by omega)
    have off9 : ∀ f, f ∉ scF → f9.lookup f = fs.lookup f := fun f hf => by
      rw [← e9, lk_off hf (by decide)]
      exact off7 f hf
    have s09 := s08.trans s9
    have g8' := s9 _ _ g8
    refine q_fldO h9 (ev_look (R := IsTN names.length fun i => IsTN names.length fun j => IsV (.int (jn i j))) (fun G1 s1 x1 => ev_table stabA upd_same (by rw [off9 _ (by decide)]; exact hm2) (by rw [upd_ne (ne_of_none (s1 _ _ g8') x1)]; exact s1 _ _ g8') (by omega)
      (fun G' s' a b ha hb => (hM x dx f9 G' (fun c o e => s' c o (by rw [upd_ne (ne_of_none (s1 _ _ (s09 _ _ e)) x1)]; exact s1 _ _ (s09 _ _ e))) (s' _ _ upd_same) off9 a b ha hb).2)) (fun v G2 r z => tab_del r z)) rfl hC (n1 (by decide)) (by omega) fun v10 G10 H10 s10 h10 r10 => ?_
    obtain ⟨p10, ys10, rfl, r10⟩ := r10
    have r10 : Tab G10 p10 names.length jn := ⟨p10, ys10, rfl, r10⟩
    refine q_end (q _ _ _ (own_n h10) ⟨⟨?_, ?_, ?_, ?_, ?_, ⟨p6, ?_, s10 _ _ (s9 _ _ (s8.g _ _ (s7 _ _ g6)))⟩, ⟨p7, ?_, s10 _ _ (s9 _ _ (s8.g _ _ g7))⟩, ⟨p9, ?_, r9.mono s10⟩, ⟨p10, ?_, r10⟩⟩, fun f hf => ?_, ?_⟩)
    · rw [← e9, ← e7, ← e6, ← e5, ← e4, ← e3, ← e2]
      iterate 8 rw [lk_ne (by decide +kernel)]
      exact lk_eq
    · rw [← e9, ← e7, ← e6, ← e5, ← e4, ← e3, ← e2]
      iterate 7 rw [lk_ne (by decide +kernel)]
      exact lk_eq
    · rw [← e9, ← e7, ← e6, ← e5, ← e4, ← e3]
      iterate 6 rw [lk_ne (by decide +kernel)]
      exact lk_eq
    · rw [← e9, ← e7, ← e6, ← e5, ← e4]
      iterate 5 rw [lk_ne (by decide +kernel)]
      exact lk_eq
    · rw [← e9, ← e7, ← e6, ← e5]
      iterate 4 rw [lk_ne (by decide +kernel)]
      exact lk_eq
    · rw [← e9, ← e7, ← e6]
      iterate 3 rw [lk_ne (by decide +kernel)]
      exact lk_eq
    · rw [← e9, ← e7]
      iterate 2 rw [lk_ne (by decide +kernel)]
      exact lk_eq
    · rw [← e9, lk_ne (by decide +kernel)]
      exact lk_eq
    · exact lk_eq
    · rw [lk_off hf (by decide)]
      exact off9 f hf
    · exact Nat.le_trans (putF_len _ _ _) (by omega)
abbrev s_Scale_then_at : Stmt := inClass (top 7) 3
theorem sc_Scale_then_at : FnScope ["self", "first", "second"] ["self", "first", "second"] (defScope s_Scale_then_at) := ⟨rfl, rfl, rfl, by decide +kernel, rfl, by decide +kernel, by decide +kernel⟩
theorem ok_then_at {f : Addr} {fd : FuncData} (F : Fun K "then_at" "Scale.then_at" s_Scale_then_at f fd) : FnOk P w K mg base CX0 1 f fd ["self", "first", "second"] (spP (PAt K fun th _ a b => .int (th a b))) := by
  refine F.ok sc_Scale_then_at (fun vs H Q E h => ?_) (fun cdv A outer s H vs Q E hr h => ?_)
  · obtain ⟨G, R, _, ⟨_, _, _, _, _, _, _, _, _, _, rfl, _⟩, _⟩ := h
    rfl
  · obtain ⟨G, R, hs, ⟨label, names, nv, sl, dep, th, jn, x, a, b, rfl, ⟨C, dx, fs, hx, hC, hN, hS⟩, ha, hb, rfl⟩, q⟩ := h
    refine ⟨_, (pss_cons (ps_ret (pe_ix (ix_any K (hu_of hr)) (pe_ix (ix_any K (hu_of hr)) (pe_fldK K (pv 0)) (pv 1) (fun _ _ => rfl)) (pv 2) (fun _ _ => rfl)))
  pss_nil), ?_⟩
    obtain ⟨p, hp, ht⟩ := hS.pro
    have st := stab0 G H
    have h0 : SP0 G H 0 G H := Grow.refl hs
    show tSeq _ _ (Ends.mk _ _ _ _) [some _, some _, some _] _
    exact q_retV st h0 (ev_tab st (ev_fld st (ev_var rfl) hx hC (hN _ (by decide)) hp) ht ha hb rfl rfl) fun H1 k1 h1 => q _ _ _ h1 rfl
abbrev s_Scale_join_at : Stmt := inClass (top 7) 4
theorem sc_Scale_join_at : FnScope ["self", "first", "second"] ["self", "first", "second"] (defScope s_Scale_join_at) := ⟨rfl, rfl, rfl, by decide +kernel, rfl, by decide +kernel, by decide +kernel⟩
theorem ok_join_at {f : Addr} {fd : FuncData} (F : Fun K "join_at" "Scale.join_at" s_Scale_join_at f fd) : FnOk P w K mg base CX0 1 f fd ["self", "first", "second"] (spP (PAt K fun _ jn a b => .int (jn a b))) := by
  refine F.ok sc_Scale_join_at (fun vs H Q E h => ?_) (fun cdv A outer s H vs Q E hr h => ?_)
  · obtain ⟨G, R, _, ⟨_, _, _, _, _, _, _, _, _, _, rfl, _⟩, _⟩ := h
    rfl
  · obtain ⟨G, R, hs, ⟨label, names, nv, sl, dep, th, jn, x, a, b, rfl, ⟨C, dx, fs, hx, hC, hN, hS⟩, ha, hb, rfl⟩, q⟩ := h
    refine ⟨_, (pss_cons (ps_ret (pe_ix (ix_any K (hu_of hr)) (pe_ix (ix_any K (hu_of hr)) (pe_fldK K (pv 0)) (pv 1) (fun _ _ => rfl)) (pv 2) (fun _ _ => rfl)))
  pss_nil), ?_⟩
    obtain ⟨p, hp, ht⟩ := hS.joi
    have st := stab0 G H
    have h0 : SP0 G H 0 G H := Grow.refl hs
    show tSeq _ _ (Ends.mk _ _ _ _) [some _, some _, some _] _
    exact q_retV st h0 (ev_tab st (ev_fld st (ev_var rfl) hx hC (hN _ (by decide)) hp) ht ha hb rfl rfl) fun H1 k1 h1 => q _ _ _ h1 rfl
abbrev s_Scale_name_at : Stmt := inClass (top 7) 6
theorem sc_Scale_name_at : FnScope ["self", "place"] ["self", "place"] (defScope s_Scale_name_at) := ⟨rfl, rfl, rfl, by decide +kernel, rfl, by decide +kernel, by decide +kernel⟩
theorem ok_name_at {f : Addr} {fd : FuncData} (F : Fun K "name_at" "Scale.name_at" s_Scale_name_at f fd) : FnOk P w K mg base CX0 1 f fd ["self", "place"] (spP (PName K)) := by
  refine F.ok sc_Scale_name_at (fun vs H Q E h => ?_) (fun cdv A outer s H vs Q E hr h => ?_)
  · obtain ⟨G, R, _, ⟨_, _, _, _, _, _, _, _, _, _, rfl, _⟩, _⟩ := h
    rfl
  · obtain ⟨G, R, hs, ⟨label, names, nv, sl, dep, th, jn, x, a, nm, rfl, ⟨C, dx, fs, hx, hC, hN, hS⟩, ha, rfl⟩, q⟩ := h
    refine ⟨_, (pss_cons (ps_ret (pe_ix (ix_any K (hu_of hr)) (pe_fldK K (pv 0)) (pv 1) (fun _ _ => rfl)))
  pss_nil), ?_⟩
    obtain ⟨p, hp, ht⟩ := hS.nam
    have st := stab0 G H
    have h0 : SP0 G H 0 G H := Grow.refl hs
    show tSeq _ _ (Ends.mk _ _ _ _) [some _, some _] _
    exact q_retV st h0 (ev_opV (ev_fld st (ev_var rfl) hx hC (hN _ (by decide)) hp) (ev_var rfl) (v_ixT st (SqT.of ht) (atI_nat (by rw [List.getElem?_map, ha]; rfl)))) fun H1 k1 h1 => q _ _ _ h1 rfl
abbrev s_WithNever___init__ : Stmt := inClass (top 12) 0
theorem sc_WithNever___init__ : ScS ["self", "label", "contents", "words"] ["self", "label", "contents", "words"] (defScope s_WithNever___init__) := ⟨rfl, rfl, rfl, by decide +kernel, rfl, by decide +kernel, by decide +kernel, rfl, by decide +kernel, rfl⟩
abbrev s_WithNever_make_then : Stmt := inClass (top 12) 1
theorem sc_WithNever_make_then : FnScope ["self", "first", "second"] ["self", "first", "second"] (defScope s_WithNever_make_then) := ⟨rfl, rfl, rfl, by decide +kernel, rfl, by decide +kernel, by decide +kernel⟩
abbrev s_WithNever_make_join : Stmt := inClass (top 12) 2
theorem sc_WithNever_make_join : FnScope ["self", "first", "second"] ["self", "first", "second"] (defScope s_WithNever_make_join) := ⟨rfl, rfl, rfl, by decide +kernel, rfl, by decide +kernel, by decide +kernel⟩
theorem ok_make_then {C : Addr} {B : List V → Hp → HR → Prop} (hC : Cls K C) (hN : NoAttr K C "contents") (c_behind : Method P w K mg base C "behind" CX0 3 ["self", "first", "second"] [] (spP B)) {f : Addr} {fd : FuncData} (F : Fun K "make_then" "WithNever.make_then" s_WithNever_make_then f fd) :
    FnOk P w K mg base CX0 5 f fd ["self", "first", "second"] (spP (PMk K C "behind" B fun _ _ => 0)) := by
  refine F.ok sc_WithNever_make_then (fun vs H Q E h => ?_) (fun cdv A outer s H vs Q E hr h => ?_)
  · obtain ⟨G, R, _, ⟨_, _, _, _, _, _, _, _, rfl, _⟩, _⟩ := h
    rfl
  · obtain ⟨G, R, hs, ⟨x, dx, pt, fs, o, ws, a, b, rfl, hx, hc, hm, hp, hd, r0, r1⟩, q⟩ := h
    refine ⟨_, (pss_cons (ps_if (PW.pt (pw_or (pt_cmpR (op_eqA K hr.units) (pv 1) pe_int (nomark _)) (pw_or1 (pt_cmpR (op_eqA K hr.units) (pv 2) pe_int (nomark _))))) (pss_cons (ps_ret pe_int)
  pss_nil) pss_nil)
  (pss_cons (ps_ret (pe_bmT PySem.F.slot_tuple_index PySem.F.type_tuple_index (mt_indexTD K (hu2 hr)) (pe_fldK K (pv 0)) (pa_cons (pe_methC c_behind (hr.mono (by decide)) pass0 (pv 0) (pa_cons (pe_ix (ix_any K (hu_of hr)) (pe_fldK K (pv 0)) (pv 1) (fun _ _ => rfl)) (pa_cons (pe_ix (ix_any K (hu_of hr)) (pe_fldK K (pv 0)) (pv 2) (fun _ _ => rfl)) pa_nil))) pa_nil)))
  pss_nil)), ?_⟩
    have st := stab0 G H
    have h0 : SP0 G H 0 G H := Grow.refl hs
    show tSeq _ _ (Ends.mk _ _ _ _) [some _, some _, some _] _
    refine q_if st h0 (et_or st (et_testV (ev_opV (ev_var rfl) ev_c (v_eqI st))) (fun _ => et_testV (ev_opV (ev_var rfl) ev_c (v_eqI st)))) (fun H1 p1 k1 h1 => ?_) (fun H1 p1 k1 h1 => ?_)
    · have p1 : a = 0 ∨ b = 0 := by simp at p1; omega
      exact q_retV st h1 ev_c fun H2 k2 h2 => q _ _ _ h2 (by rw [r0 p1]; rfl)
    · have p1 : ¬ (a = 0 ∨ b = 0) := by simp at p1; omega
      obtain ⟨va, vb, Ry, k, e1, e2, hMy, hB, hI, rfl⟩ := r1 (fun z => p1 (.inl z)) (fun z => p1 (.inr z))
      have hf : ∀ {n : Nat} {σ : L2.St}, σ[0]? = some (some (.ref x)) → Ev (SP0 G H) n 0 (tFld K (tVar 0) "contents") σ G (IsV (.ref pt)) := fun hσ => ev_fld st (ev_var hσ) hx hC hN hc
      have ix : ∀ {c : Nat} {v : V}, c ≠ 0 → ws[c - 1]? = some v → atI (.non :: ws) (c : Nat) = some v := fun {c v} hc e => atI_nat (by
        rw [show c = (c - 1) + 1 by omega]
        exact e)
      have sq : SqT K G pt (.non :: ws) := .inl (.inr ⟨o, hp⟩)
      refine q_end ?_
      refine q_retV st h1 (ev_bmTA st (hf rfl) hp hd (ea_cons (ev_meth (RA := IsVs [va, vb]) (R := Ry) st (ev_var rfl) hx hm (ea_consV (ev_opV (hf rfl) (ev_var rfl) (v_ixT st sq (ix (fun z => p1 (.inl z)) e1))) (ea_consV (ev_opV (hf rfl) (ev_var rfl) (v_ixT st sq (ix (fun z => p1 (.inr z)) e2))) ea_nilV)) fun vs G2 s2 e => ?_) ea_nil) fun vs G2 s2 e => ?_) fun H2 k2 h2 => q _ _ _ h2 rfl
      · obtain rfl := (show vs = _ from e)
        exact hB G2 s2
      · obtain ⟨y, _, rfl, ry, e⟩ := e
        obtain rfl := (show _ = _ from e)
        exact hI y G2 s2 ry _ st
theorem ok_make_join {C : Addr} {B : List V → Hp → HR → Prop} (hC : Cls K C) (hN : NoAttr K C "contents") (c_either : Method P w K mg base C "either" CX0 3 ["self", "first", "second"] [] (spP B)) {f : Addr} {fd : FuncData} (F : Fun K "make_join" "WithNever.make_join" s_WithNever_make_join f fd) :
    FnOk P w K mg base CX0 5 f fd ["self", "first", "second"] (spP (PMk K C "either" B fun a b => (a : Int) + b)) := by
  refine F.ok sc_WithNever_make_join (fun vs H Q E h => ?_) (fun cdv A outer s H vs Q E hr h => ?_)
  · obtain ⟨G, R, _, ⟨_, _, _, _, _, _, _, _, rfl, _⟩, _⟩ := h
    rfl
  · obtain ⟨G, R, hs, ⟨x, dx, pt, fs, o, ws, a, b, rfl, hx, hc, hm, hp, hd, r0, r1⟩, q⟩ := h
    refine ⟨_, (pss_cons (ps_if (PW.pt (pw_or (pt_cmpR (op_eqA K hr.units) (pv 1) pe_int (nomark _)) (pw_or1 (pt_cmpR (op_eqA K hr.units) (pv 2) pe_int (nomark _))))) (pss_cons (ps_ret (pe_op op_addA (pv 1) (pv 2)))
  pss_nil) pss_nil)
  (pss_cons (ps_ret (pe_bmT PySem.F.slot_tuple_index PySem.F.type_tuple_index (mt_indexTD K (hu2 hr)) (pe_fldK K (pv 0)) (pa_cons (pe_methC c_either (hr.mono (by decide)) pass0 (pv 0) (pa_cons (pe_ix (ix_any K (hu_of hr)) (pe_fldK K (pv 0)) (pv 1) (fun _ _ => rfl)) (pa_cons (pe_ix (ix_any K (hu_of hr)) (pe_fldK K (pv 0)) (pv 2) (fun _ _ => rfl)) pa_nil))) pa_nil)))
  pss_nil)), ?_⟩
    have st := stab0 G H
    have h0 : SP0 G H 0 G H := Grow.refl hs
    show tSeq _ _ (Ends.mk _ _ _ _) [some _, some _, some _] _
    refine q_if st h0 (et_or st (et_testV (ev_opV (ev_var rfl) ev_c (v_eqI st))) (fun _ => et_testV (ev_opV (ev_var rfl) ev_c (v_eqI st)))) (fun H1 p1 k1 h1 => ?_) (fun H1 p1 k1 h1 => ?_)
    · have p1 : a = 0 ∨ b = 0 := by simp at p1; omega
      exact q_retV st h1 (ev_opV (ev_var rfl) (ev_var rfl) (v_add st)) fun H2 k2 h2 => q _ _ _ h2 (by rw [r0 p1]; rfl)
    · have p1 : ¬ (a = 0 ∨ b = 0) := by simp at p1; omega
      obtain ⟨va, vb, Ry, k, e1, e2, hMy, hB, hI, rfl⟩ := r1 (fun z => p1 (.inl z)) (fun z => p1 (.inr z))
      have hf : ∀ {n : Nat} {σ : L2.St}, σ[0]? = some (some (.ref x)) → Ev (SP0 G H) n 0 (tFld K (tVar 0) "contents") σ G (IsV (.ref pt)) := fun hσ => ev_fld st (ev_var hσ) hx hC hN hc
      have ix : ∀ {c : Nat} {v : V}, c ≠ 0 → ws[c - 1]? = some v → atI (.non :: ws) (c : Nat) = some v := fun {c v} hc e => atI_nat (by
        rw [show c = (c - 1) + 1 by omega]
        exact e)
      have sq : SqT K G pt (.non :: ws) := .inl (.inr ⟨o, hp⟩)
      refine q_end ?_
      refine q_retV st h1 (ev_bmTA st (hf rfl) hp hd (ea_cons (ev_meth (RA := IsVs [va, vb]) (R := Ry) st (ev_var rfl) hx hm (ea_consV (ev_opV (hf rfl) (ev_var rfl) (v_ixT st sq (ix (fun z => p1 (.inl z)) e1))) (ea_consV (ev_opV (hf rfl) (ev_var rfl) (v_ixT st sq (ix (fun z => p1 (.inr z)) e2))) ea_nilV)) fun vs G2 s2 e => ?_) ea_nil) fun vs G2 s2 e => ?_) fun H2 k2 h2 => q _ _ _ h2 rfl
      · obtain rfl := (show vs = _ from e)
        exact hB G2 s2
      · obtain ⟨y, _, rfl, ry, e⟩ := e
        obtain rfl := (show _ = _ from e)
        exact hI y G2 s2 ry _ st
theorem ok_WithNever_init {C D fS : Addr} {PT PJ : List V → Hp → HR → Prop} (Z : Bi mg) (hC : Cls K C) (hN : ∀ f ∈ wnF, NoAttr K C f) (opq : PySem.W.nsIn K cStatics "thirdparty.any" = some none) (top0 : (P.main.scope.names.lookup ("super" : Str)).isSome = false)
    (hm : PySem.W.mroIn K C (.ref D) = some true) (hf : PySem.W.ks_superIn K C D "__init__" = some (some (.ref fS))) (c_super : SupC P w K mg base fS CX0 6 ["self", "label", "names", "never_at", "still_at", "depth"] [.int 1] (spI (PScI K C PT PJ)))
    {f : Addr} {fd : FuncData} (F : FunSD P K "__init__" "WithNever.__init__" s_WithNever___init__ [] [] f fd D) : FnOk P w K mg base (L2.CX P w) 8 f fd ["self", "label", "contents", "words"] (spI (PWnI K C PT PJ)) := by
  refine F.toS.okX sc_WithNever___init__ Z.z_super opq top0 rfl rfl (fun vs H Q E h => ?_) (fun cdv cc A outer s H vs Q E hr h SA => ?_)
  · obtain ⟨x, C', dx, fs, rest, G, R, rfl, _, _, _, ⟨_, label, pc, pw, ws, words, th, jn, rfl, _⟩, _⟩ := h
    rfl
  · obtain ⟨x, C', dx, fs, rest, G, R, rfl, hx, hG, gx, ⟨rfl, label, pc, pw, ws, words, th, jn, rfl, hq, hw, hl1, hl2, hnd, hfl, hm1, hm2, hM, rfl⟩, q⟩ := h
    refine ⟨_, (psa_cons (ps_fld (pv 0) (pe_tupF (pa_cons pe_non (StX.pa_star (pv 2) pa_nil))) rfl)
  (psa_supC SA rfl (Or.inl rfl) c_super (hr.mono (by decide)) pass0 (pa_cons (pv 1) (pa_cons (pe_lst (pa_cons pe_str (StX.pa_star (pv 3) pa_nil))) (pa_cons pe_int (pa_cons pe_int pa_nil))))
  (psa_end pss_nil))), ?_⟩
    have h0 := own_start (o := .ins C' dx fs) hG gx hx 0
    show tSeq _ _ (Ends.mk _ _ _ _) [some _, some _, some _, some _] _
    have st0 := stabO G H x (.ins C' dx fs)
    refine q_fldO h0 (ev_tupF st0 (ea_consV ev_c (ea_star st0 (ev_var rfl) hq ea_nilV)) (by simp; omega)) rfl hC (hN _ (by decide)) (by omega) fun v1 G1 H1 s1 h1 r1 => ?_
    obtain ⟨pt, o, rfl, _, hd, hp⟩ := r1
    rw [List.append_nil] at hp
    generalize e1 : putF ("contents" : Str) (.ref pt) fs = f1 at h1
    have z1 : f1.length ≤ fs.length + 1 := by rw [← e1]; exact putF_len _ _ _
    have off1 : ∀ f, f ≠ ("contents" : Str) → f1.lookup f = fs.lookup f := fun f hf => by rw [← e1]; exact lk_ne hf
    have on1 : f1.lookup ("contents" : Str) = some (.ref pt) := by rw [← e1]; exact lk_eq
    have st1 := stabO G H x (.ins C' dx f1)
    refine q_supO h1 rfl hm hf (ea_cons (ev_var rfl) (ea_cons (ev_lstN st1 (ea_consV ev_c (ea_star st1 (ev_var rfl) (.inl (s1.seq hw)) ea_nilV)) (by simp; omega)) (ea_cons ev_c (ea_cons ev_c ea_nil)))) (RO := fun _ _ fs' G' => ScIs label (("never" : Str) :: words) 0 1 1 th jn fs' G' ∧ (∀ f, f ∉ scF → fs'.lookup f = f1.lookup f) ∧ fs'.length ≤ f1.length + 9)
      (fun vs G2 s2 r2 => ?_) (fun f2 G2 H2 s2 h2 r2 => ?_)
    · obtain ⟨_, _, rfl, a1, _, _, rfl, ⟨pn, rfl, _, hpn⟩, _, _, rfl, a3, _, _, rfl, a4, a5⟩ := r2
      obtain rfl := (show _ = _ from a1)
      obtain rfl := (show _ = _ from a3)
      obtain rfl := (show _ = _ from a4)
      obtain rfl := (show _ = _ from a5)
      rw [List.append_nil] at hpn
      refine ⟨rfl, label, pn, ("never" : Str) :: words, 0, 1, 1, th, jn, rfl, SqL.of hpn, by simp; omega, hnd, by omega, by rw [off1 _ (by decide +kernel)]; exact hm1, by rw [off1 _ (by decide +kernel)]; exact hm2, fun y dy fs' G' s3 hy hfs a b ha hb => ?_, rfl⟩
      exact hM y dy pt o fs' G' ((s1.trans s2).trans s3) hy (fun f hf => (hfs f (wn_sc hf)).trans (off1 f fun z => hf (by rw [z]; exact List.mem_cons_self))) ((hfs _ (by decide +kernel)).trans on1) (s3 _ _ (s2 _ _ hp)) hd a b ha hb
    · obtain ⟨c1, c2, c3⟩ := r2
      refine q_end (q f2 _ _ (own_n h2) ⟨c1, fun f hf => (c2 f (wn_sc hf)).trans (off1 f fun z => hf (by rw [z]; exact List.mem_cons_self)), by omega⟩)
abbrev s_cut_down : Stmt := top 17
theorem sc_cut_down : FnScope ["number", "most"] ["number", "most"] (defScope s_cut_down) := ⟨rfl, rfl, rfl, by decide +kernel, rfl, by decide +kernel, by decide +kernel⟩
abbrev s_number_name : Stmt := top 18
theorem sc_number_name : FnScope ["number", "most"] ["number", "most"] (defScope s_number_name) := ⟨rfl, rfl, rfl, by decide +kernel, rfl, by decide +kernel, by decide +kernel⟩
abbrev s_CountScale_behind : Stmt := inClass (top 13) 1
theorem sc_CountScale_behind : FnScope ["self", "first", "second"] ["self", "first", "second"] (defScope s_CountScale_behind) := ⟨rfl, rfl, rfl, by decide +kernel, rfl, by decide +kernel, by decide +kernel⟩
abbrev s_CountScale_either : Stmt := inClass (top 13) 2
theorem sc_CountScale_either : FnScope ["self", "first", "second"] ["self", "first", "second"] (defScope s_CountScale_either) := ⟨rfl, rfl, rfl, by decide +kernel, rfl, by decide +kernel, by decide +kernel⟩
abbrev s_CountScale___init__ : Stmt := inClass (top 13) 0
theorem sc_CountScale___init__ : ScS ["self", "most", "order", "numbers", "number"] ["self", "most", "order"] (defScope s_CountScale___init__) := ⟨rfl, rfl, rfl, by decide +kernel, rfl, by decide +kernel, by decide +kernel, rfl, by decide +kernel, rfl⟩
theorem ok_cut_down {f : Addr} {fd : FuncData} (F : Fun K "cut_down" "cut_down" s_cut_down f fd) : FnOk P w K mg base CX0 1 f fd ["number", "most"] (spP PCut) := by
  refine F.ok sc_cut_down (fun vs H Q E h => ?_) (fun cdv A outer s H vs Q E hr h => ?_)
  · obtain ⟨G, R, _, ⟨_, _, rfl, _⟩, _⟩ := h
    rfl
  · obtain ⟨G, R, hs, ⟨n, m, rfl, rfl⟩, q⟩ := h
    refine ⟨_, (pss_cons (ps_ret (pe_ifExp (pt_cmpR op_gtA (pv 0) (pv 1) (nomark _)) (pv 1) (pv 0)))
  pss_nil), ?_⟩
    have st := stab0 G H
    have h0 : SP0 G H 0 G H := Grow.refl hs
    show tSeq _ _ (Ends.mk _ _ _ _) [some _, some _] _
    refine q_retV st h0 (ev_ifV st (et_testV (ev_opV (ev_var rfl) (ev_var rfl) (v_gt st))) (fun _ => ev_var rfl) (fun _ => ev_var rfl)) fun H1 k1 h1 => q _ _ _ h1 ?_
    by_cases c : m < n <;> simp [c, IsV]
theorem ok_number_name {f : Addr} {fd : FuncData} (Z : Bi mg) (F : Fun K "number_name" "number_name" s_number_name f fd) : FnOk P w K mg base CX0 1 f fd ["number", "most"] (spP PNum) := by
  refine F.ok sc_number_name (fun vs H Q E h => ?_) (fun cdv A outer s H vs Q E hr h => ?_)
  · obtain ⟨G, R, _, ⟨_, _, rfl, _⟩, _⟩ := h
    rfl
  · obtain ⟨G, R, hs, ⟨n, m, rfl, hl, rfl⟩, q⟩ := h
    refine ⟨_, (pss_cons (ps_ret (pe_ifExp (pt_cmpR (op_eqA K hr.units) (pv 0) (pv 1) (nomark _)) pe_str (pe_callTy call_strA (by rfl) Z.z_str (by decide +kernel) (pa_cons (pv 0) pa_nil))))
  pss_nil), ?_⟩
    have st := stab0 G H
    have h0 : SP0 G H 0 G H := Grow.refl hs
    show tSeq _ _ (Ends.mk _ _ _ _) [some _, some _] _
    refine q_retV st h0 (ev_ifV st (et_testV (ev_opV (ev_var rfl) (ev_var rfl) (v_eqI st))) (fun _ => ev_c) (fun _ => ev_cbV (ea_consV (ev_var rfl) ea_nilV) (c_str st hl))) fun H1 k1 h1 => q _ _ _ h1 ?_
    unfold cword
    by_cases c : n = m <;> simp [c, IsV]
theorem ok_behind {C : Addr} (hC : Cls K C) (hN : NoAttr K C "most") (c_cut_down : Callee P w K mg base "cut_down" CX0 1 ["number", "most"] [] (spP PCut)) {f : Addr} {fd : FuncData} (F : Fun K "behind" "CountScale.behind" s_CountScale_behind f fd) : FnOk P w K mg base CX0 3 f fd ["self", "first", "second"] (spP (PBeh C)) := by
  refine F.ok sc_CountScale_behind (fun vs H Q E h => ?_) (fun cdv A outer s H vs Q E hr h => ?_)
  · obtain ⟨G, R, _, ⟨_, _, _, _, _, _, rfl, _⟩, _⟩ := h
    rfl
  · obtain ⟨G, R, hs, ⟨x, dx, fs, m, i, j, rfl, hx, hm, rfl⟩, q⟩ := h
    refine ⟨_, (pss_cons (ps_ret (pe_callC c_cut_down (hr.mono (by decide)) pass0 (pa_cons (pe_op op_addA (pv 1) (pv 2)) (pa_cons (pe_fldK K (pv 0)) pa_nil))))
  pss_nil), ?_⟩
    have st := stab0 G H
    have h0 : SP0 G H 0 G H := Grow.refl hs
    show tSeq _ _ (Ends.mk _ _ _ _) [some _, some _, some _] _
    exact q_retV st h0 (ev_callV st (ea_consV (ev_opV (ev_var rfl) (ev_var rfl) (v_add st)) (ea_consV (ev_fld st (ev_var rfl) hx hC hN hm) ea_nilV)) fun G2 s2 => ⟨_, _, rfl, rfl⟩) fun H1 k1 h1 => q _ _ _ h1 rfl
theorem ok_either {C : Addr} (hC : Cls K C) (hN : NoAttr K C "rising") {f : Addr} {fd : FuncData} (F : Fun K "either" "CountScale.either" s_CountScale_either f fd) : FnOk P w K mg base CX0 3 f fd ["self", "first", "second"] (spP (PEit C)) := by
  refine F.ok sc_CountScale_either (fun vs H Q E h => ?_) (fun cdv A outer s H vs Q E hr h => ?_)
  · obtain ⟨G, R, _, ⟨_, _, _, _, _, _, rfl, _⟩, _⟩ := h
    rfl
  · obtain ⟨G, R, hs, ⟨x, dx, fs, up, i, j, rfl, hx, hm, rfl⟩, q⟩ := h
    refine ⟨_, (pss_cons (ps_ret (pe_ifExp (pt_cmpR (op_eqA K hr.units) (pe_cmpR op_gtA (pv 1) (pv 2) (nomark _)) (pe_fldK K (pv 0)) (nomark _)) (pv 1) (pv 2)))
  pss_nil), ?_⟩
    have st := stab0 G H
    have h0 : SP0 G H 0 G H := Grow.refl hs
    show tSeq _ _ (Ends.mk _ _ _ _) [some _, some _, some _] _
    refine q_retV st h0 (ev_ifV st (et_testV (ev_opV (ev_opV (ev_var rfl) (ev_var rfl) (v_gt st)) (ev_fld st (ev_var rfl) hx hC hN hm) (v_eqB st))) (fun _ => ev_var rfl) (fun _ => ev_var rfl)) fun H1 k1 h1 => q _ _ _ h1 ?_
    unfold ceit
    by_cases c : decide (j < i) = up <;> simp [c, IsV]
theorem ok_CountScale_init {C D fW : Addr} {tM : Tok} (Z : Bi mg) (g_MOST_WORTHS : mg "MOST_WORTHS" = some (.int 64 tM)) (hC : Cls K C) (hN : ∀ f ∈ ("most" : Str) :: "rising" :: wnF, NoAttr K C f) (opq : PySem.W.nsIn K cStatics "thirdparty.any" = some none) (top0 : (P.main.scope.names.lookup ("super" : Str)).isSome = false)
    (hm : PySem.W.mroIn K C (.ref D) = some true) (hf : PySem.W.ks_superIn K C D "__init__" = some (some (.ref fW))) (c_super : SupC P w K mg base fW (L2.CX P w) 8 ["self", "label", "contents", "words"] [] (spI (PWnI K C (PMk K C "behind" (PBeh C) fun _ _ => 0) (PMk K C "either" (PEit C) fun a b => (a : Int) + b))))
    (c_number_name : Callee P w K mg base "number_name" CX0 1 ["number", "most"] [] (spP PNum)) {f : Addr} {fd : FuncData} (F : FunSD P K "__init__" "CountScale.__init__" s_CountScale___init__ [] [("order", .str "up")] f fd D) : FnOk P w K mg base (L2.CX P w) 10 f fd ["self", "most", "order"] (spI (PCsI C)) := by
  refine F.toS.okX sc_CountScale___init__ Z.z_super opq top0 rfl rfl (fun vs H Q E h => ?_) (fun cdv cc A outer s H vs Q E hr h SA => ?_)
  · obtain ⟨x, C', dx, fs, rest, G, R, rfl, _, _, _, ⟨_, _, m, up, _, rfl, _⟩, _⟩ := h
    rfl
  · obtain ⟨x, C', dx, fs, rest, G, R, rfl, hx, hG, gx, ⟨rfl, rfl, m, up, hm1, rfl, rfl⟩, q⟩ := h
    refine ⟨_, (psa_cons (ps_if (PW.pt (pw_or (pt_cmpR (op_ninA K (hu_of hr)) (pv 2) (pe_tup (pa_cons pe_str (pa_cons pe_str pa_nil))) (by rfl)) (pw_or1 (pt_not (pt_chain op_leA op_leA pe_int (pv 1) (pe_op op_subA (pe_glob (v := .int 64) rfl g_MOST_WORTHS ⟨_, rfl⟩) pe_int)))))) (pss_cons ps_never
  pss_nil) pss_nil)
  (psa_cons (ps_fld (pv 0) (pv 1) rfl)
  (psa_cons (ps_fld (pv 0) (pe_cmpR (op_eqA K hr.units) (pv 2) pe_str (nomark _)) rfl)
  (psa_cons (ps_set (i := 3) sc_CountScale___init__.nd rfl (Or.inl rfl) (pe_listRg rfl (by rfl) Z.z_list (prg_1 (by rfl) Z.z_range (pe_op op_addA (pv 1) pe_int))))
  (psa_supC SA rfl (Or.inl rfl) c_super (hr.mono (by decide)) passL (pa_cons (pe_joined (PJ.cons pe_str (PJ.cons (pe_fmt (pv 1)) (PJ.cons pe_str (PJ.cons (pe_fmt (pv 2)) (PJ.cons pe_str PJ.nil)))))) (pa_cons (pv 3) (pa_cons (pe_lc (own := [("number", 4)]) (g := (gName 4)) rfl sc_CountScale___init__.nd (pi_listK K (pv 3)) (blkOk_by (by kernel_rfl)) (fun _ _ _ _ _ => (pg_name (i := 4) sc_CountScale___init__.nd rfl (Or.inl rfl))) (fun _ _ _ _ _ => pts_nil) (fun _ _ _ _ _ => (pe_callC c_number_name (hr.mono (by decide)) pass0 (pa_cons (pv 4) (pa_cons (pv 1) pa_nil))))) pa_nil)))
  (psa_end pss_nil)))))), ?_⟩
    have h0 := own_start (o := .ins C' dx []) hG gx hx 0
    have st0 := stabO G H x (.ins C' dx [])
    show tSeq _ _ (Ends.mk _ _ _ _) [some _, some _, some _, none, none] _
    refine q_if st0 h0 (et_or st0 (et_testV (b := (!inV (.str (ordS up)) [.str ("up" : Str), .str ("down" : Str)])) (ev_op (ev_var rfl) (ev_tupN st0 (ea_consV ev_c (ea_consV ev_c ea_nilV)) (by simp)) fun a b G2 s2 ea eb => ?_)) (fun _ => et_not (et_testV (ev_chain st0 ev_c (ev_var rfl) (v_le st0) (ev_opV ev_c ev_c (v_sub st0)) (v_le st0))))) (fun H1 p1 k1 h1 => ?_) (fun H1 p1 k1 h1 => ?_)
    · obtain rfl := (show _ = _ from ea)
      obtain ⟨tp, rfl, _, ht⟩ := eb
      exact v_inT (neg := true) st0 (SqT.of ht) rfl rfl
    · refine absurd p1 ?_
      have e1 : (!inV (.str (ordS up)) [.str ("up" : Str), .str ("down" : Str)]) = false := by cases up <;> decide +kernel
      rw [e1]
      simp
      omega
    refine q_end ?_
    refine q_fldV h1 (ev_var rfl) rfl hC (hN _ (by decide)) (by decide) fun H2 h2 => ?_
    have st2 := stabO G H x (.ins C' dx (putF ("most" : Str) (.int (m : Nat)) []))
    have eup : decide (ordS up = ("up" : Str)) = up := by cases up <;> decide +kernel
    refine q_fldV h2 (ev_opV (ev_var rfl) ev_c (v_eqS st2)) rfl hC (hN _ (by decide)) (Nat.lt_of_le_of_lt (putF_len _ _ _) (by decide)) fun H3 h3 => ?_
    rw [eup] at h3
    generalize e3 : putF ("rising" : Str) (.bl up) (putF ("most" : Str) (.int (m : Nat)) []) = f3 at h3
    have z3 : f3.length ≤ 2 := by
      rw [← e3]
      exact Nat.le_trans (putF_len _ _ _) (Nat.succ_le_succ (putF_len _ _ _))
    have on1 : f3.lookup ("most" : Str) = some (.int (m : Nat)) := by rw [← e3, lk_ne (by decide +kernel)]; exact lk_eq
    have on2 : f3.lookup ("rising" : Str) = some (.bl up) := by rw [← e3]; exact lk_eq
    have off3 : ∀ f, f ≠ ("most" : Str) → f ≠ ("rising" : Str) → f3.lookup f = none := fun f a b => by rw [← e3, lk_ne b, lk_ne a]; rfl
    have st3 := stabO G H x (.ins C' dx f3)
    have lll := clabel_len m hm1 up
    have hsz : (100 : Nat) ≤ sizeLine := by decide
    refine q_set h3 (ev_listRg st3 (ev_opV (ev_var rfl) ev_c (v_add st3)) (by omega) (by omega)) fun v4 G4 H4 s4 r4 => ?_
    obtain ⟨pn, rfl, _, hpn⟩ := r4
    rw [show ((m : Int) + 1).toNat = m + 1 by omega] at hpn
    have ln : ((List.range (m + 1)).map fun i => V.int (i : Nat)).length = m + 1 := by rw [List.length_map, List.length_range]
    have es : Str.empty ++ ("(count " : Str) = ("(count " : Str) := by decide +kernel
    have hlog : ∀ i : Nat, i < 64 → ((i : Nat) : Int).natAbs.log2 < 1920 := by decide +kernel
    refine q_supO s4.s rfl hm hf (ea_cons (ev_joined (ej_cons ev_c (by rw [es]; decide +kernel) (ej_cons (ev_fmtI (ev_var rfl) (hlog m (by omega))) (by rw [es]; exact Nat.le_trans lll.2.1 hsz) (ej_cons ev_c (by rw [es]; exact Nat.le_trans lll.2.2.1 hsz) (ej_cons (ev_fmtS (ev_var rfl) (by cases up <;> decide +kernel)) (by rw [es]; exact Nat.le_trans lll.2.2.2 hsz) (ej_cons ev_c (by rw [es]; exact Nat.le_trans lll.1 hsz) ej_nil))))))
      (ea_cons (ev_var rfl) (ea_cons (ev_lcL (c1 := 0) st3 (fun i => IsV (.str (cword (m : Nat) (i : Nat)))) (ev_var rfl) (SqL.of hpn) (by omega) (fun j v G5 hj s5 => ?_) (fun _ => rfl)) ea_nil))) (RO := fun _ _ fs' G' => ScIs (clabel (m : Nat) up) (("never" : Str) :: cwords m) 0 1 1 (cth (m : Nat)) (cjn up) fs' G' ∧ (∀ f, f ∉ wnF → fs'.lookup f = f3.lookup f) ∧ fs'.length ≤ f3.length + 10)
      (fun vs G2 s2 r2 => ?_) (fun f5 G5 H5 s5 h5 r5 => ?_)
    · have hj2 : j < m + 1 := by
        have := (List.getElem?_eq_some_iff.mp hj).1
        omega
      rw [List.getElem?_map, List.getElem?_range hj2] at hj
      obtain rfl := Option.some.inj hj
      exact ev_callV st3 (ea_consV (ev_var rfl) (ea_consV (ev_var rfl) ea_nilV)) fun G6 s6 => ⟨_, _, rfl, hlog j (by omega), rfl⟩
    · obtain ⟨_, _, rfl, a1, _, _, rfl, a2, _, _, rfl, a3, a4⟩ := r2
      obtain rfl := (show _ = _ from a1)
      obtain rfl := (show _ = _ from a2)
      obtain ⟨pw, ys, rfl, _, hw, hwl, hwr⟩ := a3
      obtain rfl := (show _ = _ from a4)
      have ew : ys = (cwords m).map V.str := by
        refine List.ext_getElem? fun j => ?_
        unfold cwords
        rw [List.map_map, List.getElem?_map]
        by_cases hj : j < m + 1
        · have e1 : ys[j]? = some ys[j] := List.getElem?_eq_getElem (by omega)
          rw [e1, show ys[j] = V.str (cword (m : Nat) (j : Nat)) from hwr j _ e1, List.getElem?_range hj]
          rfl
        · rw [List.getElem?_eq_none (by omega), List.getElem?_eq_none (by rw [List.length_range]; omega)]
          rfl
      rw [ew] at hw
      have lw : (cwords m).length = m + 1 := by unfold cwords; rw [List.length_map, List.length_range]
      refine ⟨rfl, clabel (m : Nat) up, pn, pw, (List.range (m + 1)).map fun i => V.int (i : Nat), cwords m, cth (m : Nat), cjn up, by rw [es]; rfl, .inl (SqL.of (s2 _ _ hpn)), SqL.of hw, by omega, by omega, cwords_nodup m hm1, by omega, off3 _ (by decide +kernel) (by decide +kernel), off3 _ (by decide +kernel) (by decide +kernel), fun y dy pt o fs' G' s3 hy hfs hct hpt hod a b ha hb => ?_, rfl⟩
      have w1 : fs'.lookup ("most" : Str) = some (.int (m : Nat)) := (hfs _ (by decide +kernel)).trans on1
      have w2 : fs'.lookup ("rising" : Str) = some (.bl up) := (hfs _ (by decide +kernel)).trans on2
      have at_ : ∀ {c : Nat}, c < m + 1 → ((List.range (m + 1)).map fun i => V.int (i : Nat))[c]? = some (.int (c : Nat)) := fun {c} hc => by
        rw [List.getElem?_map, List.getElem?_range hc]
        rfl
      refine ⟨⟨y, dy, pt, fs', o, _, a, b, rfl, hy, hct, (hfs _ (by decide +kernel)).trans (off3 _ (by decide +kernel) (by decide +kernel)), hpt, hod, fun z => by unfold cth; rw [if_pos z], fun ha0 hb0 => ?_⟩, ⟨y, dy, pt, fs', o, _, a, b, rfl, hy, hct, (hfs _ (by decide +kernel)).trans (off3 _ (by decide +kernel) (by decide +kernel)), hpt, hod, fun z => by unfold cjn; rw [if_pos z], fun ha0 hb0 => ?_⟩⟩
      · have c0 : 0 ≤ cthen (m : Nat) ((a - 1 : Nat) : Int) ((b - 1 : Nat) : Int) ∧ cthen (m : Nat) ((a - 1 : Nat) : Int) ((b - 1 : Nat) : Int) ≤ m := by unfold cthen; split <;> omega
        have c1 : cth (m : Nat) a b = cthen (m : Nat) ((a - 1 : Nat) : Int) ((b - 1 : Nat) : Int) + 1 := by
          unfold cth
          rw [if_neg (by omega), show ((a : Int) - 1) = ((a - 1 : Nat) : Int) by omega, show ((b : Int) - 1) = ((b - 1 : Nat) : Int) by omega]
        rw [c1]
        generalize hc : cthen (m : Nat) ((a - 1 : Nat) : Int) ((b - 1 : Nat) : Int) = c at c0
        refine ⟨_, _, IsV (.int (c.toNat : Nat)), c.toNat + 1, at_ (by omega), at_ (by omega), inferInstance, fun G6 s6 => ⟨y, dy, fs', (m : Nat), _, _, rfl, s6 _ _ hy, w1, by rw [hc, show ((c.toNat : Nat) : Int) = c by omega]⟩, fun v G6 s6 hv => ?_, by rw [show ((c.toNat + 1 : Nat) : Int) = c + 1 by omega]⟩
        obtain rfl := (show v = _ from hv)
        exact idx_count (s6 _ _ hpt) (by omega)
      · have c0 : 0 ≤ ceit up ((a - 1 : Nat) : Int) ((b - 1 : Nat) : Int) ∧ ceit up ((a - 1 : Nat) : Int) ((b - 1 : Nat) : Int) ≤ m := by unfold ceit; split <;> omega
        have c1 : cjn up a b = ceit up ((a - 1 : Nat) : Int) ((b - 1 : Nat) : Int) + 1 := by
          unfold cjn
          rw [if_neg (by omega), show ((a : Int) - 1) = ((a - 1 : Nat) : Int) by omega, show ((b : Int) - 1) = ((b - 1 : Nat) : Int) by omega]
        rw [c1]
        generalize hc : ceit up ((a - 1 : Nat) : Int) ((b - 1 : Nat) : Int) = c at c0
        refine ⟨_, _, IsV (.int (c.toNat : Nat)), c.toNat + 1, at_ (by omega), at_ (by omega), inferInstance, fun G6 s6 => ⟨y, dy, fs', up, _, _, rfl, s6 _ _ hy, w2, by rw [hc, show ((c.toNat : Nat) : Int) = c by omega]⟩, fun v G6 s6 hv => ?_, by rw [show ((c.toNat + 1 : Nat) : Int) = c + 1 by omega]⟩
        obtain rfl := (show v = _ from hv)
        exact idx_count (s6 _ _ hpt) (by omega)
    · exact q_end (q f5 _ _ (own_n h5) ⟨r5.1, fun f hf h1 h2 => (r5.2.1 f hf).trans (off3 f h1 h2)⟩)
abbrev s_SpanScale_behind : Stmt := inClass (top 14) 1
theorem sc_SpanScale_behind : FnScope ["self", "first", "second"] ["self", "first", "second"] (defScope s_SpanScale_behind) := ⟨rfl, rfl, rfl, by decide +kernel, rfl, by decide +kernel, by decide +kernel⟩
abbrev s_SpanScale_either : Stmt := inClass (top 14) 2
theorem sc_SpanScale_either : FnScope ["self", "first", "second", "low"] ["self", "first", "second"] (defScope s_SpanScale_either) := ⟨rfl, rfl, rfl, by decide +kernel, rfl, by decide +kernel, by decide +kernel⟩
abbrev s_SpanScale___init__ : Stmt := inClass (top 14) 0
theorem sc_SpanScale___init__ : ScS ["self", "most", "spans", "words", "low", "high"] ["self", "most"] (defScope s_SpanScale___init__) := ⟨rfl, rfl, rfl, by decide +kernel, rfl, by decide +kernel, by decide +kernel, rfl, by decide +kernel, rfl⟩
theorem ok_sp_behind {C : Addr} (hC : Cls K C) (hN : NoAttr K C "most") (c_cut_down : Callee P w K mg base "cut_down" CX0 1 ["number", "most"] [] (spP PCut)) {f : Addr} {fd : FuncData} (F : Fun K "behind" "SpanScale.behind" s_SpanScale_behind f fd) : FnOk P w K mg base CX0 3 f fd ["self", "first", "second"] (spP (PSpB C)) := by
  refine F.ok sc_SpanScale_behind (fun vs H Q E h => ?_) (fun cdv A outer s H vs Q E hr h => ?_)
  · obtain ⟨G, R, _, ⟨_, _, _, _, _, _, _, _, rfl, _⟩, _⟩ := h
    rfl
  · obtain ⟨G, R, hs, ⟨x, dx, fs, m, u, v, a, b, rfl, hx, hm, ⟨pa, rfl, ha⟩, ⟨pb, rfl, hb⟩, rfl⟩, q⟩ := h
    refine ⟨_, (pss_cons (ps_ret (pe_tup (pa_cons (pe_callC c_cut_down (hr.mono (by decide)) pass0 (pa_cons (pe_op op_addA (pe_ix (ix_any K (hu_of hr)) (pv 1) pe_int (fun _ _ => rfl)) (pe_ix (ix_any K (hu_of hr)) (pv 2) pe_int (fun _ _ => rfl))) (pa_cons (pe_fldK K (pv 0)) pa_nil))) (pa_cons (pe_callC c_cut_down (hr.mono (by decide)) pass0 (pa_cons (pe_op op_addA (pe_ix (ix_any K (hu_of hr)) (pv 1) pe_int (fun _ _ => rfl)) (pe_ix (ix_any K (hu_of hr)) (pv 2) pe_int (fun _ _ => rfl))) (pa_cons (pe_fldK K (pv 0)) pa_nil))) pa_nil))))
  pss_nil), ?_⟩
    have st := stab0 G H
    have h0 : SP0 G H 0 G H := Grow.refl hs
    show tSeq _ _ (Ends.mk _ _ _ _) [some _, some _, some _] _
    have ix : ∀ {n i : Nat} {p : Addr} {s : Int × Int} {σ : L2.St}, G p = some (.tup [.int s.1, .int s.2]) → σ[i]? = some (some (.ref p)) → Ev (SP0 G H) n (0 + 0) (tOp (rIxA K) (tVar i) (tC (.int 0))) σ G (IsV (.int s.1)) ∧ Ev (SP0 G H) n (0 + 0) (tOp (rIxA K) (tVar i) (tC (.int 1))) σ G (IsV (.int s.2)) := fun hp hσ =>
      ⟨ev_opV (ev_var hσ) ev_c (v_ixT st (SqT.of hp) (atI_nat (j := 0) rfl)), ev_opV (ev_var hσ) ev_c (v_ixT st (SqT.of hp) (atI_nat (j := 1) rfl))⟩
    refine q_ret (R := IsPr (scut m a b)) h0 ((ev_tupN st (ea_consV (ev_callV (R := IsV (.int (if a.1 + b.1 > m then m else a.1 + b.1))) (ws := [.int (a.1 + b.1), .int m]) st (ea_consV (ev_opV (ix ha rfl).1 (ix hb rfl).1 (v_add st)) (ea_consV (ev_fld st (ev_var rfl) hx hC hN hm) ea_nilV)) fun G2 s2 => ⟨_, _, rfl, rfl⟩) (ea_consV (ev_callV (R := IsV (.int (if a.2 + b.2 > m then m else a.2 + b.2))) (ws := [.int (a.2 + b.2), .int m]) st (ea_consV (ev_opV (ix ha rfl).2 (ix hb rfl).2 (v_add st)) (ea_consV (ev_fld st (ev_var rfl) hx hC hN hm) ea_nilV)) fun G2 s2 => ⟨_, _, rfl, rfl⟩) ea_nilV)) (by simp)).imp fun v G' s' ⟨p, e, _, g⟩ => ⟨p, e, g⟩) fun v G1 H1 s1 r1 => q _ _ _ s1.s r1
theorem ok_sp_either {f : Addr} {fd : FuncData} (F : Fun K "either" "SpanScale.either" s_SpanScale_either f fd) : FnOk P w K mg base CX0 3 f fd ["self", "first", "second"] (spP PSpE) := by
  refine F.ok sc_SpanScale_either (fun vs H Q E h => ?_) (fun cdv A outer s H vs Q E hr h => ?_)
  · obtain ⟨G, R, _, ⟨_, _, _, _, _, rfl, _⟩, _⟩ := h
    rfl
  · obtain ⟨G, R, hs, ⟨x, u, v, a, b, rfl, ⟨pa, rfl, ha⟩, ⟨pb, rfl, hb⟩, rfl⟩, q⟩ := h
    refine ⟨_, (pss_cons (ps_set (i := 3) sc_SpanScale_either.nd rfl (Or.inl rfl) (pe_ifExp (pt_cmpR op_ltA (pe_ix (ix_any K (hu_of hr)) (pv 1) pe_int (fun _ _ => rfl)) (pe_ix (ix_any K (hu_of hr)) (pv 2) pe_int (fun _ _ => rfl)) (nomark _)) (pe_ix (ix_any K (hu_of hr)) (pv 1) pe_int (fun _ _ => rfl)) (pe_ix (ix_any K (hu_of hr)) (pv 2) pe_int (fun _ _ => rfl))))
  (pss_cons (ps_ret (pe_tup (pa_cons (pv 3) (pa_cons (pe_ifExp (pt_cmpR op_gtA (pe_ix (ix_any K (hu_of hr)) (pv 1) pe_int (fun _ _ => rfl)) (pe_ix (ix_any K (hu_of hr)) (pv 2) pe_int (fun _ _ => rfl)) (nomark _)) (pe_ix (ix_any K (hu_of hr)) (pv 1) pe_int (fun _ _ => rfl)) (pe_ix (ix_any K (hu_of hr)) (pv 2) pe_int (fun _ _ => rfl))) pa_nil))))
  pss_nil)), ?_⟩
    have st := stab0 G H
    have h0 : SP0 G H 0 G H := Grow.refl hs
    show tSeq _ _ (Ends.mk _ _ _ _) [some _, some _, some _, none] _
    have ix : ∀ {n i : Nat} {p : Addr} {s : Int × Int} {σ : L2.St}, G p = some (.tup [.int s.1, .int s.2]) → σ[i]? = some (some (.ref p)) → Ev (SP0 G H) n (0 + 0) (tOp (rIxA K) (tVar i) (tC (.int 0))) σ G (IsV (.int s.1)) ∧ Ev (SP0 G H) n (0 + 0) (tOp (rIxA K) (tVar i) (tC (.int 1))) σ G (IsV (.int s.2)) := fun hp hσ =>
      ⟨ev_opV (ev_var hσ) ev_c (v_ixT st (SqT.of hp) (atI_nat (j := 0) rfl)), ev_opV (ev_var hσ) ev_c (v_ixT st (SqT.of hp) (atI_nat (j := 1) rfl))⟩
    refine q_setV st h0 (ev_ifV st (et_testV (ev_opV (ix ha rfl).1 (ix hb rfl).1 (v_lt st))) (fun _ => (ix ha rfl).1) (fun _ => (ix hb rfl).1)) fun H1 k1 h1 => ?_
    refine q_ret (R := IsPr (seit a b)) h1 ((ev_tupN st (ea_consV (ev_var rfl) (ea_consV (ev_ifV st (et_testV (ev_opV (ix ha rfl).2 (ix hb rfl).2 (v_gt st))) (fun _ => (ix ha rfl).2) (fun _ => (ix hb rfl).2)) ea_nilV)) (by simp)).imp fun v G' s' ⟨p, e, _, g⟩ => ⟨p, e, ?_⟩) fun v G1 H1 s1 r1 => q _ _ _ s1.s r1
    rw [g]
    unfold seit
    by_cases c1 : a.1 < b.1 <;> by_cases c2 : b.2 < a.2 <;> simp [c1, c2]
theorem ok_SpanScale_init {C D fW : Addr} {tM : Tok} (Z : Bi mg) (g_MOST_WORTHS : mg "MOST_WORTHS" = some (.int 64 tM)) (hC : Cls K C) (hN : ∀ f ∈ ("most" : Str) :: wnF, NoAttr K C f) (opq : PySem.W.nsIn K cStatics "thirdparty.any" = some none) (top0 : (P.main.scope.names.lookup ("super" : Str)).isSome = false)
    (hm : PySem.W.mroIn K C (.ref D) = some true) (hf : PySem.W.ks_superIn K C D "__init__" = some (some (.ref fW))) (c_super : SupC P w K mg base fW (L2.CX P w) 8 ["self", "label", "contents", "words"] [] (spI (PWnI K C (PMk K C "behind" (PSpB C) fun _ _ => 0) (PMk K C "either" PSpE fun a b => (a : Int) + b))))
    (c_number_name : Callee P w K mg base "number_name" CX0 1 ["number", "most"] [] (spP PNum)) {f : Addr} {fd : FuncData} (F : FunSD P K "__init__" "SpanScale.__init__" s_SpanScale___init__ [] [] f fd D) : FnOk P w K mg base (L2.CX P w) 10 f fd ["self", "most"] (spI (PSpI C)) := by
  refine F.toS.okX sc_SpanScale___init__ Z.z_super opq top0 rfl rfl (fun vs H Q E h => ?_) (fun cdv cc A outer s H vs Q E hr h SA => ?_)
  · obtain ⟨x, C', dx, fs, rest, G, R, rfl, _, _, _, ⟨_, _, m, _, rfl, _⟩, _⟩ := h
    rfl
  · obtain ⟨x, C', dx, fs, rest, G, R, rfl, hx, hG, gx, ⟨rfl, rfl, m, hm1, rfl, rfl⟩, q⟩ := h
    refine ⟨_, (psa_cons (ps_if (PW.pt (pw_or (pt_cmpR op_ltA (pv 1) pe_int (nomark _)) (pw_or1 (pt_cmpR op_geA (pe_op op_divA (pe_op op_mulA (pe_op op_addA (pv 1) pe_int) (pe_op op_addA (pv 1) pe_int)) pe_int) (pe_glob (v := .int 64) rfl g_MOST_WORTHS ⟨_, rfl⟩) (nomark _))))) (pss_cons ps_never
  pss_nil) pss_nil)
  (psa_cons (ps_fld (pv 0) (pv 1) rfl)
  (psa_cons (ps_setLc2 (i := 2) (own := [("low", 4), ("high", 5)]) (vs1 := [5]) (g := (gName 4)) (g1 := (gName 5)) rfl sc_SpanScale___init__.nd rfl rfl (sw_true rfl rfl rfl (by decide +kernel)) (pi_range1 (by rfl) Z.z_range (pa_cons (pe_op op_addA (pv 1) pe_int) pa_nil)) (blkOk_by (by kernel_rfl)) (by decide) (fun _ _ _ _ _ => (pg_name (i := 4) sc_SpanScale___init__.nd rfl (Or.inl rfl))) (fun _ _ _ _ _ => pts_nil) (fun _ _ _ _ _ => (pi_range2 (by rfl) Z.z_range (pa_cons (pv 4) (pa_cons (pe_op op_addA (pv 1) pe_int) pa_nil)))) (fun _ _ _ _ _ => (pg_name (i := 5) sc_SpanScale___init__.nd rfl (Or.inl rfl))) (fun _ _ _ _ _ => pts_nil) (fun _ _ _ _ _ => (pe_tup (pa_cons (pv 4) (pa_cons (pv 5) pa_nil)))))
  (psa_cons (ps_setLc (i := 3) (own := [("low", 4), ("high", 5)]) (g := (gTup _ 2 (gCons (gName 4) (gCons (gName 5) gNil)))) rfl sc_SpanScale___init__.nd rfl rfl (sw_true rfl rfl rfl (by decide +kernel)) (pi_listK K (pv 2)) (blkOk_by (by kernel_rfl)) (fun _ _ _ _ _ => (pg_tup rfl (pgs_cons (pg_name (i := 4) sc_SpanScale___init__.nd rfl (Or.inl rfl)) (pgs_cons (pg_name (i := 5) sc_SpanScale___init__.nd rfl (Or.inl rfl)) pgs_nil)))) (fun _ _ _ _ _ => pts_nil) (fun _ _ _ _ _ => (pe_op op_addA (pe_op op_addA (pe_callC c_number_name (hr.mono (by decide)) pass0 (pa_cons (pv 4) (pa_cons (pv 1) pa_nil))) pe_str) (pe_callC c_number_name (hr.mono (by decide)) pass0 (pa_cons (pv 5) (pa_cons (pv 1) pa_nil))))))
  (psa_supC SA rfl (Or.inl rfl) c_super (hr.mono (by decide)) passL (pa_cons (pe_joined (PJ.cons pe_str (PJ.cons (pe_fmt (pv 1)) (PJ.cons pe_str PJ.nil)))) (pa_cons (pv 2) (pa_cons (pv 3) pa_nil)))
  (psa_end pss_nil)))))), ?_⟩
    have h0 := own_start (o := .ins C' dx []) hG gx hx 0
    have st0 := stabO G H x (.ins C' dx [])
    show tSeq _ _ (Ends.mk _ _ _ _) [some _, some _, none, none, none, none] _
    have hmul : ((m : Int) + 1) * ((m : Int) + 2) ≤ 11 * 12 := by
      have a : ((m : Int) + 1) * ((m : Int) + 2) ≤ 11 * ((m : Int) + 2) := Int.mul_le_mul_of_nonneg_right (by omega) (by omega)
      omega
    have hmul0 : 0 ≤ ((m : Int) + 1) * ((m : Int) + 2) := Int.mul_nonneg (by omega) (by omega)
    have hmul9 : m = 9 → ((m : Int) + 1) * ((m : Int) + 2) = 110 := fun e => by subst e; rfl
    have hlt : ((m : Int) + 1) * ((m : Int) + 2) / 2 < 64 := by
      have : ((m : Int) + 1) * ((m : Int) + 2) ≤ 10 * 11 := by
        have a : ((m : Int) + 1) * ((m : Int) + 2) ≤ 10 * ((m : Int) + 2) := Int.mul_le_mul_of_nonneg_right (by omega) (by omega)
        omega
      omega
    refine q_if st0 h0 (et_or st0 (et_testV (ev_opV (ev_var rfl) ev_c (v_lt st0))) fun _ => et_testV (ev_opV (ev_opV (ev_opV (ev_opV (ev_var rfl) ev_c (v_add st0)) (ev_opV (ev_var rfl) ev_c (v_add st0)) (v_mul st0 (.inl ⟨by omega, by omega⟩))) ev_c (v_div st0 ⟨by decide, by decide⟩)) ev_c (v_ge st0))) (fun H1 p1 k1 h1 => ?_) (fun H1 p1 k1 h1 => ?_)
    · refine absurd p1 ?_
      have e1 : decide ((m : Int) < 0) = false := decide_eq_false (by omega)
      have e2 : decide ((64 : Int) ≤ ((m : Int) + 1) * ((m : Int) + 2) / 2) = false := decide_eq_false (by omega)
      rw [e1, e2]
      decide
    refine q_end ?_
    refine q_fldV h1 (ev_var rfl) rfl hC (hN _ (by decide)) (by decide) fun H2 h2 => ?_
    generalize e3 : putF ("most" : Str) (.int (m : Nat)) [] = f3 at h2
    have z3 : f3.length ≤ 1 := by rw [← e3]; exact putF_len _ _ _
    have on1 : f3.lookup ("most" : Str) = some (.int (m : Nat)) := by rw [← e3]; exact lk_eq
    have off3 : ∀ f, f ≠ ("most" : Str) → f3.lookup f = none := fun f a => by rw [← e3, lk_ne a]; rfl
    have st3 := stabO G H x (.ins C' dx f3)
    refine q_set (R := IsNX G (RL IsPr (spansL m))) h2 (ev_lc2RR (R := IsPr) (m := m + 1) (lo := fun a => (a : Nat)) (hi := fun _ => (m : Int) + 1) (f := fun a b => (((a : Nat) : Int), b)) (σa := fun a => [some (.ref x), some (.int (m : Nat)), none, none, some (.int (a : Nat)), none]) (σb := fun a b => [some (.ref x), some (.int (m : Nat)), none, none, some (.int (a : Nat)), some (.int b)]) st3
      (ea_consV (ev_opV (ev_var rfl) ev_c (v_add st3)) ea_nilV) (by omega) (fun a ha => ⟨by omega, by omega, by omega, by omega, by omega⟩) (fun _ => rfl) (fun _ _ => rfl) (fun _ => rfl) (fun _ _ => rfl) (fun a G' ha s => ea_consV (ev_var rfl) (ea_consV (ev_opV (ev_var rfl) ev_c (v_add st3)) ea_nilV))
      (fun a b G' ha h1 h2 s => (ev_tupN st3 (ea_consV (ev_var rfl) (ea_consV (ev_var rfl) ea_nilV)) (by simp)).imp fun v G'' s' ⟨p, e, _, g⟩ => ⟨p, e, g⟩)) fun v4 G4 H4 s4 r4 => ?_
    obtain ⟨p4, ws, rfl, _, g4, rl4⟩ := r4
    have lws := rl_len rl4
    have lsp := spans_len m hm1
    have hlog : ∀ i : Nat, i < 64 → ((i : Nat) : Int).natAbs.log2 < 1920 := by decide +kernel
    have hsz : (100 : Nat) ≤ sizeLine := by decide
    refine q_set (R := IsNX G4 (RL (fun s => IsV (.str (sword (m : Nat) s))) (spansL m))) s4.s (ev_lcG (R := fun s => IsV (.str (sword (m : Nat) s))) (ss := spansL m) (σf := fun j => [some (.ref x), some (.int (m : Nat)), some (.ref p4), none, some (.int ((spansL m).getD j (0, 0)).1), some (.int ((spansL m).getD j (0, 0)).2)]) st3 (ev_var rfl) (SqL.of g4) lws (by omega)
      (fun j y G' J hy s' t' Qs q' => ?_) (fun _ => rfl) (fun j y s0 G' hy hs0 s' => ?_)) fun v5 G5 H5 s5 r5 => ?_
    · have hj : j < (spansL m).length := by
        have := (List.getElem?_eq_some_iff.mp hy).1
        omega
      have e1 : (spansL m)[j]? = some (spansL m)[j] := List.getElem?_eq_getElem hj
      obtain ⟨u, hu, pu, rfl, hpu⟩ := rl_get rl4 e1
      rw [hu] at hy
      obtain rfl := Option.some.inj hy
      have e2 : (spansL m).getD j (0, 0) = (spansL m)[j] := by rw [List.getD_eq_getElem?_getD, e1]; rfl
      rw [e2] at q'
      exact ⟨pu, _, rfl, SqT.of (t' _ _ (s' _ _ hpu)), rfl, _, _, rfl, _, _, rfl, rfl, q'⟩
    · have e2 : (spansL m).getD j (0, 0) = s0 := by rw [List.getD_eq_getElem?_getD, hs0]; rfl
      rw [e2]
      obtain ⟨h1, h2, h3⟩ := mem_spans.mp (List.mem_of_getElem? hs0)
      obtain ⟨i1, ei1⟩ : ∃ a : Nat, s0.1 = (a : Nat) := ⟨s0.1.toNat, by omega⟩
      obtain ⟨i2, ei2⟩ : ∃ a : Nat, s0.2 = (a : Nat) := ⟨s0.2.toNat, by omega⟩
      have c1 := cword_short m hm1 i1 (by omega)
      have c2 := cword_short m hm1 i2 (by omega)
      unfold sword
      rw [ei1, ei2]
      refine ev_opV (ev_opV (ev_callV (R := IsV (.str (cword (m : Nat) (i1 : Nat)))) (ws := [.int (i1 : Nat), .int (m : Nat)]) st3 (ea_consV (ev_var rfl) (ea_consV (ev_var rfl) ea_nilV)) fun G6 s6 => ⟨_, _, rfl, hlog i1 (by omega), rfl⟩) ev_c (v_adds st3 ?_)) (ev_callV (R := IsV (.str (cword (m : Nat) (i2 : Nat)))) (ws := [.int (i2 : Nat), .int (m : Nat)]) st3 (ea_consV (ev_var rfl) (ea_consV (ev_var rfl) ea_nilV)) fun G6 s6 => ⟨_, _, rfl, hlog i2 (by omega), rfl⟩) (v_adds st3 ?_)
      · have : ("to" : Str).length = 2 := by decide +kernel
        omega
      · omega
    obtain ⟨p5, ys, rfl, _, g5, rl5⟩ := r5
    rw [rl_vals rl5] at g5
    have ewd : ((spansL m).map fun a => V.str (sword (m : Nat) a)) = (swords m).map V.str := by unfold swords; rw [List.map_map]; rfl
    rw [ewd] at g5
    have lw : (swords m).length = (spansL m).length := by unfold swords; rw [List.length_map]
    have es : Str.empty ++ ("(span " : Str) = ("(span " : Str) := by decide +kernel
    have lll := slabel_len m hm1
    have s45 := s4.g.trans s5.g
    refine q_supO s5.s rfl hm hf (ea_cons (ev_joined (ej_cons ev_c (by rw [es]; decide +kernel) (ej_cons (ev_fmtI (ev_var rfl) (hlog m (by omega))) (by rw [es]; exact Nat.le_trans lll.1 hsz) (ej_cons ev_c (by rw [es]; exact Nat.le_trans lll.2 hsz) ej_nil)))) (ea_cons (ev_var rfl) (ea_cons (ev_var rfl) ea_nil)))
      (RO := fun _ _ fs' G' => ScIs (slabel (m : Nat)) (("never" : Str) :: swords m) 0 1 1 (sth m) (sjn m) fs' G' ∧ (∀ f, f ∉ wnF → fs'.lookup f = f3.lookup f) ∧ fs'.length ≤ f3.length + 10) (fun vs G6 s6 r6 => ?_) (fun f7 G7 H7 s7 h7 r7 => ?_)
    · obtain ⟨_, _, rfl, a1, _, _, rfl, a2, _, _, rfl, a3, a4⟩ := r6
      obtain rfl := (show _ = _ from a1)
      obtain rfl := (show _ = _ from a2)
      obtain rfl := (show _ = _ from a3)
      obtain rfl := (show _ = _ from a4)
      refine ⟨rfl, slabel (m : Nat), p4, p5, ws, swords m, sth m, sjn m, by rw [es]; rfl, .inl (SqL.of (s6 _ _ (s5.g _ _ g4))), SqL.of (s6 _ _ g5), by omega, by omega, swords_nodup m hm1, by omega, off3 _ (by decide +kernel), off3 _ (by decide +kernel), fun y dy pt o fs' G' s8 hy hfs hct hpt hod a b ha hb => ?_, rfl⟩
      have w1 : fs'.lookup ("most" : Str) = some (.int (m : Nat)) := (hfs _ (by decide +kernel)).trans on1
      have rl' := rl_mon ((s5.g.trans s6).trans s8) rl4
      have at_ : ∀ {c : Nat}, c ≠ 0 → c < (swords m).length + 1 → ∃ u, ws[c - 1]? = some u ∧ (spansL m).getD (c - 1) (0, 0) ∈ spansL m ∧ IsPr ((spansL m).getD (c - 1) (0, 0)) u G' := fun {c} h0 hc => by
        have e1 : (spansL m)[c - 1]? = some ((spansL m)[c - 1]'(by omega)) := List.getElem?_eq_getElem _
        obtain ⟨u, hu, hp⟩ := rl_get rl' e1
        have e2 : (spansL m).getD (c - 1) (0, 0) = (spansL m)[c - 1]'(by omega) := by rw [List.getD_eq_getElem?_getD, e1]; rfl
        rw [e2]
        exact ⟨u, hu, List.getElem_mem _, hp⟩
      refine ⟨⟨y, dy, pt, fs', o, ws, a, b, rfl, hy, hct, (hfs _ (by decide +kernel)).trans (off3 _ (by decide +kernel)), hpt, hod, fun z => by unfold sth; rw [if_pos z], fun ha0 hb0 => ?_⟩, ⟨y, dy, pt, fs', o, ws, a, b, rfl, hy, hct, (hfs _ (by decide +kernel)).trans (off3 _ (by decide +kernel)), hpt, hod, fun z => by unfold sjn; rw [if_pos z], fun ha0 hb0 => ?_⟩⟩
      · obtain ⟨u, hu, mu, pu⟩ := at_ ha0 ha
        obtain ⟨v, hv, mv, pv⟩ := at_ hb0 hb
        exact ⟨u, v, IsPr (scut (m : Nat) _ _), spl m (scut (m : Nat) _ _), hu, hv, inferInstance, fun G9 s9 => ⟨y, dy, fs', (m : Nat), u, v, _, _, rfl, s9 _ _ hy, w1, Mon.mon s9 pu, Mon.mon s9 pv, rfl⟩, fun z G9 s9 hz => idx_span (s9 _ _ hpt) (rl_mon s9 rl') (scut_mem mu mv) hz, by unfold sth; rw [if_neg (by omega)]⟩
      · obtain ⟨u, hu, mu, pu⟩ := at_ ha0 ha
        obtain ⟨v, hv, mv, pv⟩ := at_ hb0 hb
        exact ⟨u, v, IsPr (seit _ _), spl m (seit _ _), hu, hv, inferInstance, fun G9 s9 => ⟨y, u, v, _, _, rfl, Mon.mon s9 pu, Mon.mon s9 pv, rfl⟩, fun z G9 s9 hz => idx_span (s9 _ _ hpt) (rl_mon s9 rl') (seit_mem mu mv) hz, by unfold sjn; rw [if_neg (by omega)]⟩
    · exact q_end (q f7 _ _ (own_n h7) ⟨r7.1, fun f hf h1 => (r7.2.1 f hf).trans (off3 f h1)⟩)
abbrev s_digits_of : Stmt := top 19
theorem sc_digits_of : FnScope ["number", "width", "text", "shift"] ["number", "width"] (defScope s_digits_of) := ⟨rfl, rfl, rfl, by decide +kernel, rfl, by decide +kernel, by decide +kernel⟩
theorem ok_digits_of {f : Addr} {fd : FuncData} (Z : Bi mg) (F : Fun K "digits_of" "digits_of" s_digits_of f fd) : FnOk P w K mg base CX0 1 f fd ["number", "width"] (spP PDig) := by
  refine F.ok sc_digits_of (fun vs H Q E h => ?_) (fun cdv A outer s H vs Q E hr h => ?_)
  · obtain ⟨_, _, _, ⟨_, _, rfl, _⟩, _⟩ := h
    rfl
  · obtain ⟨G, R, hs, ⟨n, wd, rfl, hn, hw, rfl⟩, q⟩ := h
    refine ⟨_, (pss_cons (ps_set (i := 2) sc_digits_of.nd rfl (Or.inl rfl) pe_str)
  (pss_cons (ps_for PassesOwn.never rfl (pi_range1 (by rfl) Z.z_range (pa_cons (pv 1) pa_nil)) (pg_name (i := 3) sc_digits_of.nd rfl (Or.inl rfl)) (pss_cons (ps_set (i := 2) sc_digits_of.nd rfl (Or.inl rfl) (pe_op op_addA (pe_callTy call_strA (by rfl) Z.z_str (by decide +kernel) (pa_cons (pe_op op_and (pe_op op_shr (pv 0) (pv 3)) pe_int) pa_nil)) (pv 2)))
  pss_nil))
  (pss_cons (ps_ret (pv 2))
  pss_nil))), ?_⟩
    have st := stab0 G H
    have h0 : SP0 G H 0 G H := Grow.refl hs
    show tSeq _ _ (Ends.mk _ _ _ _) [some _, some _, none, none] _
    have hsz : (200 : Nat) ≤ sizeLine := by decide
    refine q_setV st h0 ev_c fun H1 k1 h1 => ?_
    refine q_forP st h1 (ea_consV (ev_var rfl) ea_nilV) (by omega) (by omega) (fun j σ' => ∃ a, σ' = [some (.int n), some (.int (wd : Nat)), some (.str (digs j n)), a]) ⟨_, rfl⟩ (fun j σ' J hj hp s2 => ?_) (fun σ' J hp s2 => ?_)
    · obtain ⟨a, rfl⟩ := hp
      have l1 := digs_len j n hn
      have l2 := digs_len (j + 1) n hn
      have h2 : 0 ≤ n / 2 ^ j := Int.ediv_nonneg hn (Int.pow_nonneg (by decide))
      refine q_setV st s2.s (x := .str (digs (j + 1) n)) (ev_opV (ev_cbV (ea_consV (ev_opV (ev_opV (ev_var rfl) (ev_var rfl) (v_shr st (by omega))) ev_c (v_band st)) ea_nilV) (c_str st (bit1_log _ h2))) (ev_var rfl) (v_adds st ?_)) fun H3 k3 h3 => q_end ⟨⟨_, rfl⟩, s2.go k3 h3⟩
      have l3 : (digs (j + 1) n).length = (toString (Builtin.bitAnd (n / 2 ^ j) 1) : Str).length + (digs j n).length := Str.length_append _ _
      have l4 : (toString (Builtin.bitAnd (n / 2 ^ ((j : Nat) : Int).toNat) 1) : Str).length = (toString (Builtin.bitAnd (n / 2 ^ j) 1) : Str).length := rfl
      omega
    · obtain ⟨a, rfl⟩ := hp
      exact q_retV st s2.s (ev_var rfl) fun H3 k3 h3 => q _ _ _ h3 rfl
abbrev s_SetScale_behind : Stmt := inClass (top 15) 1
theorem sc_SetScale_behind : FnScope ["self", "first", "second"] ["self", "first", "second"] (defScope s_SetScale_behind) := ⟨rfl, rfl, rfl, by decide +kernel, rfl, by decide +kernel, by decide +kernel⟩
abbrev s_SetScale_either : Stmt := inClass (top 15) 2
theorem sc_SetScale_either : FnScope ["self", "first", "second"] ["self", "first", "second"] (defScope s_SetScale_either) := ⟨rfl, rfl, rfl, by decide +kernel, rfl, by decide +kernel, by decide +kernel⟩
abbrev s_SetScale___init__ : Stmt := inClass (top 15) 0
theorem sc_SetScale___init__ : ScS ["self", "count", "join", "numbers", "number"] ["self", "count", "join"] (defScope s_SetScale___init__) := ⟨rfl, rfl, rfl, by decide +kernel, rfl, by decide +kernel, by decide +kernel, rfl, by decide +kernel, rfl⟩
theorem ok_t_behind {f : Addr} {fd : FuncData} (F : Fun K "behind" "SetScale.behind" s_SetScale_behind f fd) : FnOk P w K mg base CX0 3 f fd ["self", "first", "second"] (spP PStB) := by
  refine F.ok sc_SetScale_behind (fun vs H Q E h => ?_) (fun cdv A outer s H vs Q E hr h => ?_)
  · obtain ⟨G, R, _, ⟨_, _, _, rfl, _⟩, _⟩ := h
    rfl
  · obtain ⟨G, R, hs, ⟨x, i, j, rfl, rfl⟩, q⟩ := h
    refine ⟨_, (pss_cons (ps_ret (pe_op op_or (pv 1) (pv 2)))
  pss_nil), ?_⟩
    have st := stab0 G H
    have h0 : SP0 G H 0 G H := Grow.refl hs
    show tSeq _ _ (Ends.mk _ _ _ _) [some _, some _, some _] _
    exact q_retV st h0 (ev_opV (ev_var rfl) (ev_var rfl) (v_bor st)) fun H1 k1 h1 => q _ _ _ h1 rfl
theorem ok_t_either {C : Addr} (hC : Cls K C) (hN : NoAttr K C "loose") {f : Addr} {fd : FuncData} (F : Fun K "either" "SetScale.either" s_SetScale_either f fd) : FnOk P w K mg base CX0 3 f fd ["self", "first", "second"] (spP (PStE C)) := by
  refine F.ok sc_SetScale_either (fun vs H Q E h => ?_) (fun cdv A outer s H vs Q E hr h => ?_)
  · obtain ⟨G, R, _, ⟨_, _, _, _, _, _, rfl, _⟩, _⟩ := h
    rfl
  · obtain ⟨G, R, hs, ⟨x, dx, fs, may, i, j, rfl, hx, hm, rfl⟩, q⟩ := h
    refine ⟨_, (pss_cons (ps_ret (pe_ifExp (pt_val (pe_fldK K (pv 0))) (pe_op op_or (pv 1) (pv 2)) (pe_op op_and (pv 1) (pv 2))))
  pss_nil), ?_⟩
    have st := stab0 G H
    have h0 : SP0 G H 0 G H := Grow.refl hs
    show tSeq _ _ (Ends.mk _ _ _ _) [some _, some _, some _] _
    refine q_retV st h0 (ev_ifV st (et_B (ev_fld st (ev_var rfl) hx hC hN hm)) (fun _ => ev_opV (ev_var rfl) (ev_var rfl) (v_bor st)) (fun _ => ev_opV (ev_var rfl) (ev_var rfl) (v_band st))) fun H1 k1 h1 => q _ _ _ h1 ?_
    cases may <;> rfl
theorem ok_SetScale_init {C D fW : Addr} (Z : Bi mg) (hC : Cls K C) (hN : ∀ f ∈ ("loose" : Str) :: wnF, NoAttr K C f) (opq : PySem.W.nsIn K cStatics "thirdparty.any" = some none) (top0 : (P.main.scope.names.lookup ("super" : Str)).isSome = false)
    (hm : PySem.W.mroIn K C (.ref D) = some true) (hf : PySem.W.ks_superIn K C D "__init__" = some (some (.ref fW))) (c_super : SupC P w K mg base fW (L2.CX P w) 8 ["self", "label", "contents", "words"] [] (spI (PWnI K C (PMk K C "behind" PStB fun _ _ => 0) (PMk K C "either" (PStE C) fun a b => (a : Int) + b))))
    (c_digits_of : Callee P w K mg base "digits_of" CX0 1 ["number", "width"] [] (spP PDig)) {f : Addr} {fd : FuncData} (F : FunSD P K "__init__" "SetScale.__init__" s_SetScale___init__ [] [("join", .str "may")] f fd D) : FnOk P w K mg base (L2.CX P w) 10 f fd ["self", "count", "join"] (spI (PStI C)) := by
  refine F.toS.okX sc_SetScale___init__ Z.z_super opq top0 rfl rfl (fun vs H Q E h => ?_) (fun cdv cc A outer s H vs Q E hr h SA => ?_)
  · obtain ⟨x, C', dx, fs, rest, G, R, rfl, _, _, _, ⟨_, _, c, may, _, _, rfl, _⟩, _⟩ := h
    rfl
  · obtain ⟨x, C', dx, fs, rest, G, R, rfl, hx, hG, gx, ⟨rfl, rfl, c, may, hc0, hc1, rfl, rfl⟩, q⟩ := h
    refine ⟨_, (psa_cons (ps_if (PW.pt (pw_or (pt_cmpR (op_ninA K (hu_of hr)) (pv 2) (pe_tup (pa_cons pe_str (pa_cons pe_str pa_nil))) (by rfl)) (pw_or1 (pt_not (pt_chain op_leA op_leA pe_int (pv 1) pe_int))))) (pss_cons ps_never
  pss_nil) pss_nil)
  (psa_cons (ps_fld (pv 0) (pe_cmpR (op_eqA K hr.units) (pv 2) pe_str (nomark _)) rfl)
  (psa_cons (ps_set (i := 3) sc_SetScale___init__.nd rfl (Or.inl rfl) (pe_listRg rfl (by rfl) Z.z_list (prg_1 (by rfl) Z.z_range (pe_op op_shl pe_int (pv 1)))))
  (psa_supC SA rfl (Or.inl rfl) c_super (hr.mono (by decide)) passL (pa_cons (pe_joined (PJ.cons pe_str (PJ.cons (pe_fmt (pv 1)) (PJ.cons pe_str (PJ.cons (pe_fmt (pv 2)) (PJ.cons pe_str PJ.nil)))))) (pa_cons (pv 3) (pa_cons (pe_lc (own := [("number", 4)]) (g := (gName 4)) rfl sc_SetScale___init__.nd (pi_listK K (pv 3)) (blkOk_by (by kernel_rfl)) (fun _ _ _ _ _ => (pg_name (i := 4) sc_SetScale___init__.nd rfl (Or.inl rfl))) (fun _ _ _ _ _ => pts_nil) (fun _ _ _ _ _ => (pe_callC c_digits_of (hr.mono (by decide)) pass0 (pa_cons (pv 4) (pa_cons (pv 1) pa_nil))))) pa_nil)))
  (psa_end pss_nil))))), ?_⟩
    have h0 := own_start (o := .ins C' dx []) hG gx hx 0
    have st0 := stabO G H x (.ins C' dx [])
    show tSeq _ _ (Ends.mk _ _ _ _) [some _, some _, some _, none, none] _
    refine q_if st0 h0 (et_or st0 (et_testV (b := (!inV (.str (joinS may)) [.str ("may" : Str), .str ("must" : Str)])) (ev_op (ev_var rfl) (ev_tupN st0 (ea_consV ev_c (ea_consV ev_c ea_nilV)) (by simp)) fun a b G2 s2 ea eb => ?_)) (fun _ => et_not (et_testV (ev_chain st0 ev_c (ev_var rfl) (v_le st0) ev_c (v_le st0))))) (fun H1 p1 k1 h1 => ?_) (fun H1 p1 k1 h1 => ?_)
    · obtain rfl := (show _ = _ from ea)
      obtain ⟨tp, rfl, _, ht⟩ := eb
      exact v_inT (neg := true) st0 (SqT.of ht) rfl rfl
    · refine absurd p1 ?_
      have e1 : (!inV (.str (joinS may)) [.str ("may" : Str), .str ("must" : Str)]) = false := by cases may <;> decide +kernel
      rw [e1]
      simp
      omega
    refine q_end ?_
    have emay : decide (joinS may = ("may" : Str)) = may := by cases may <;> decide +kernel
    refine q_fldV h1 (ev_opV (ev_var rfl) ev_c (v_eqS st0)) rfl hC (hN _ (by decide)) (by decide) fun H2 h2 => ?_
    rw [emay] at h2
    generalize e3 : putF ("loose" : Str) (.bl may) [] = f3 at h2
    have z3 : f3.length ≤ 1 := by rw [← e3]; exact putF_len _ _ _
    have on1 : f3.lookup ("loose" : Str) = some (.bl may) := by rw [← e3]; exact lk_eq
    have off3 : ∀ f, f ≠ ("loose" : Str) → f3.lookup f = none := fun f a => by rw [← e3, lk_ne a]; rfl
    have st3 := stabO G H x (.ins C' dx f3)
    have lll := tlabel_len c hc1 may
    have hsz : (100 : Nat) ≤ sizeLine := by decide
    have h2c : (2 : Nat) ^ c ≤ 32 := Nat.pow_le_pow_right (n := 2) (by decide) (show c ≤ 5 by omega)
    have h1c : 1 ≤ (2 : Nat) ^ c := Nat.one_le_two_pow
    have e2c : ((1 : Int) * 2 ^ ((c : Nat) : Int).toNat) = ((2 ^ c : Nat) : Int) := by rw [Int.toNat_natCast, Int.one_mul, Int.natCast_pow]; rfl
    refine q_set h2 (ev_listRg st3 (ev_opV ev_c (ev_var rfl) (v_shl st3 ⟨by omega, by omega, by decide⟩)) (by rw [e2c]; exact Int.natCast_nonneg _) (by rw [e2c]; exact Int.ofNat_le.mpr (show 2 ^ c ≤ 100000 by omega))) fun v4 G4 H4 s4 r4 => ?_
    obtain ⟨pn, rfl, _, hpn⟩ := r4
    rw [e2c, Int.toNat_natCast] at hpn
    have ln : ((List.range (2 ^ c)).map fun i => V.int (i : Nat)).length = 2 ^ c := by rw [List.length_map, List.length_range]
    have es : Str.empty ++ ("(set " : Str) = ("(set " : Str) := by decide +kernel
    have hlog : ∀ i : Nat, i < 64 → ((i : Nat) : Int).natAbs.log2 < 1920 := by decide +kernel
    refine q_supO s4.s rfl hm hf (ea_cons (ev_joined (ej_cons ev_c (by rw [es]; decide +kernel) (ej_cons (ev_fmtI (ev_var rfl) (hlog c (by omega))) (by rw [es]; exact Nat.le_trans lll.1 hsz) (ej_cons ev_c (by rw [es]; exact Nat.le_trans lll.2.1 hsz) (ej_cons (ev_fmtS (ev_var rfl) (by cases may <;> decide +kernel)) (by rw [es]; exact Nat.le_trans lll.2.2.1 hsz) (ej_cons ev_c (by rw [es]; exact Nat.le_trans lll.2.2.2 hsz) ej_nil))))))
      (ea_cons (ev_var rfl) (ea_cons (ev_lcVL (f := fun x => match x with | .int i => .str (digs c i) | _ => .non) st3 (ev_var rfl) (SqL.of hpn) (by omega) (fun _ => rfl) fun j v G5 hj s5 => ?_) ea_nil))) (RO := fun _ _ fs' G' => ScIs (tlabel (c : Nat) may) (("never" : Str) :: twords c) 0 1 1 tth (tjn may) fs' G' ∧ (∀ f, f ∉ wnF → fs'.lookup f = f3.lookup f) ∧ fs'.length ≤ f3.length + 10)
      (fun vs G2 s2 r2 => ?_) (fun f5 G5 H5 s5 h5 r5 => ?_)
    · have hj2 : j < 2 ^ c := by
        have := (List.getElem?_eq_some_iff.mp hj).1
        omega
      rw [List.getElem?_map, List.getElem?_range hj2] at hj
      obtain rfl := Option.some.inj hj
      exact ev_callV st3 (ea_consV (ev_var rfl) (ea_consV (ev_var rfl) ea_nilV)) fun G6 s6 => ⟨_, _, rfl, Int.natCast_nonneg _, by omega, rfl⟩
    · obtain ⟨_, _, rfl, a1, _, _, rfl, a2, _, _, rfl, a3, a4⟩ := r2
      obtain rfl := (show _ = _ from a1)
      obtain rfl := (show _ = _ from a2)
      obtain ⟨pw, rfl, _, hw⟩ := a3
      obtain rfl := (show _ = _ from a4)
      rw [List.map_map] at hw
      have hw : G2 pw = some (.lst ((twords c).map V.str)) := by
        rw [hw]
        unfold twords
        rw [List.map_map]
        rfl
      have lw : (twords c).length = 2 ^ c := by unfold twords; rw [List.length_map, List.length_range]
      refine ⟨rfl, tlabel (c : Nat) may, pn, pw, (List.range (2 ^ c)).map fun i => V.int (i : Nat), twords c, tth, tjn may, by rw [es]; rfl, .inl (SqL.of (s2 _ _ hpn)), SqL.of hw, by omega, by omega, twords_nodup c hc1, by omega, off3 _ (by decide +kernel), off3 _ (by decide +kernel), fun y dy pt o fs' G' s3 hy hfs hct hpt hod a b ha hb => ?_, rfl⟩
      have w1 : fs'.lookup ("loose" : Str) = some (.bl may) := (hfs _ (by decide +kernel)).trans on1
      rw [lw] at ha hb
      have at_ : ∀ {d : Nat}, d < 2 ^ c → ((List.range (2 ^ c)).map fun i => V.int (i : Nat))[d]? = some (.int (d : Nat)) := fun {d} hd => by
        rw [List.getElem?_map, List.getElem?_range hd]
        rfl
      have hpt' : G' pt = some (.frz o (.tup (.non :: (List.range (2 ^ c - 1 + 1)).map fun i => V.int (i : Nat)))) := by rw [show 2 ^ c - 1 + 1 = 2 ^ c by omega]; exact hpt
      have cc : ∀ z, z ≠ 0 → z < 2 ^ c + 1 → ((z : Nat) : Int) - 1 = ((z - 1 : Nat) : Int) := fun z _ _ => by omega
      refine ⟨⟨y, dy, pt, fs', o, _, a, b, rfl, hy, hct, (hfs _ (by decide +kernel)).trans (off3 _ (by decide +kernel)), hpt, hod, fun z => by unfold tth; rw [if_pos z], fun ha0 hb0 => ?_⟩, ⟨y, dy, pt, fs', o, _, a, b, rfl, hy, hct, (hfs _ (by decide +kernel)).trans (off3 _ (by decide +kernel)), hpt, hod, fun z => by unfold tjn; rw [if_pos z], fun ha0 hb0 => ?_⟩⟩
      · have c0 := bor_lt c hc1 (a - 1) (by omega) (b - 1) (by omega)
        have c1 : tth a b = Builtin.bitOr ((a - 1 : Nat) : Int) ((b - 1 : Nat) : Int) + 1 := by
          unfold tth
          rw [if_neg (by omega), cc a ha0 ha, cc b hb0 hb]
        rw [c1]
        generalize hc : Builtin.bitOr ((a - 1 : Nat) : Int) ((b - 1 : Nat) : Int) = r at c0
        have c0' : r < ((2 ^ c : Nat) : Int) := by rw [Int.natCast_pow]; exact c0.2
        refine ⟨_, _, IsV (.int (r.toNat : Nat)), r.toNat + 1, at_ (by omega), at_ (by omega), inferInstance, fun G6 s6 => ⟨y, _, _, rfl, by rw [hc, show ((r.toNat : Nat) : Int) = r by omega]⟩, fun v G6 s6 hv => ?_, by rw [show ((r.toNat + 1 : Nat) : Int) = r + 1 by omega]⟩
        obtain rfl := (show v = _ from hv)
        exact idx_count (s6 _ _ hpt') (by omega)
      · have c0 : 0 ≤ teit may ((a - 1 : Nat) : Int) ((b - 1 : Nat) : Int) ∧ teit may ((a - 1 : Nat) : Int) ((b - 1 : Nat) : Int) < 2 ^ c := by
          cases may
          · exact band_lt c hc1 (a - 1) (by omega) (b - 1) (by omega)
          · exact bor_lt c hc1 (a - 1) (by omega) (b - 1) (by omega)
        have c1 : tjn may a b = teit may ((a - 1 : Nat) : Int) ((b - 1 : Nat) : Int) + 1 := by
          unfold tjn
          rw [if_neg (by omega), cc a ha0 ha, cc b hb0 hb]
        rw [c1]
        generalize hc : teit may ((a - 1 : Nat) : Int) ((b - 1 : Nat) : Int) = r at c0
        have c0' : r < ((2 ^ c : Nat) : Int) := by rw [Int.natCast_pow]; exact c0.2
        refine ⟨_, _, IsV (.int (r.toNat : Nat)), r.toNat + 1, at_ (by omega), at_ (by omega), inferInstance, fun G6 s6 => ⟨y, dy, fs', may, _, _, rfl, s6 _ _ hy, w1, by rw [hc, show ((r.toNat : Nat) : Int) = r by omega]⟩, fun v G6 s6 hv => ?_, by rw [show ((r.toNat + 1 : Nat) : Int) = r + 1 by omega]⟩
        obtain rfl := (show v = _ from hv)
        exact idx_count (s6 _ _ hpt') (by omega)
    · exact q_end (q f5 _ _ (own_n h5) ⟨r5.1, fun f hf h1 => (r5.2.1 f hf).trans (off3 f h1)⟩)
abbrev s_WatchScale___init__ : Stmt := inClass (top 16) 0
theorem sc_WatchScale___init__ : ScS ["self", "states", "cells", "still", "state", "number"] ["self", "states"] (defScope s_WatchScale___init__) := ⟨rfl, rfl, rfl, by decide +kernel, rfl, by decide +kernel, by decide +kernel, rfl, by decide +kernel, rfl⟩
abbrev s_WatchScale_arrows : Stmt := inClass (top 16) 1
theorem sc_WatchScale_arrows : FnScope ["self", "place", "cells", "marked", "cell"] ["self", "place"] (defScope s_WatchScale_arrows) := ⟨rfl, rfl, rfl, by decide +kernel, rfl, by decide +kernel, by decide +kernel⟩
abbrev s_WatchScale_make_then : Stmt := inClass (top 16) 2
theorem sc_WatchScale_make_then : FnScope ["self", "first", "second", "found", "start", "amid", "other", "goal"] ["self", "first", "second"] (defScope s_WatchScale_make_then) := ⟨rfl, rfl, rfl, by decide +kernel, rfl, by decide +kernel, by decide +kernel⟩
abbrev s_WatchScale_make_join : Stmt := inClass (top 16) 3
theorem sc_WatchScale_make_join : FnScope ["self", "first", "second"] ["self", "first", "second"] (defScope s_WatchScale_make_join) := ⟨rfl, rfl, rfl, by decide +kernel, rfl, by decide +kernel, by decide +kernel⟩
theorem ok_w_join {f : Addr} {fd : FuncData} (F : Fun K "make_join" "WatchScale.make_join" s_WatchScale_make_join f fd) : FnOk P w K mg base CX0 5 f fd ["self", "first", "second"] (spP PWj) := by
  refine F.ok sc_WatchScale_make_join (fun vs H Q E h => ?_) (fun cdv A outer s H vs Q E hr h => ?_)
  · obtain ⟨G, R, _, ⟨_, _, _, rfl, _⟩, _⟩ := h
    rfl
  · obtain ⟨G, R, hs, ⟨x, i, j, rfl, rfl⟩, q⟩ := h
    refine ⟨_, (pss_cons (ps_ret (pe_op op_or (pv 1) (pv 2)))
  pss_nil), ?_⟩
    have st := stab0 G H
    have h0 : SP0 G H 0 G H := Grow.refl hs
    show tSeq _ _ (Ends.mk _ _ _ _) [some _, some _, some _] _
    exact q_retV st h0 (ev_opV (ev_var rfl) (ev_var rfl) (v_bor st)) fun H1 k1 h1 => q _ _ _ h1 rfl
theorem ok_arrows {C : Addr} (Z : Bi mg) (hC : Cls K C) (hN : NoAttr K C "states") {f : Addr} {fd : FuncData} (F : Fun K "arrows" "WatchScale.arrows" s_WatchScale_arrows f fd) : FnOk P w K mg base CX0 3 f fd ["self", "place"] (spP (PArr C)) := by
  refine F.ok sc_WatchScale_arrows (fun vs H Q E h => ?_) (fun cdv A outer s H vs Q E hr h => ?_)
  · obtain ⟨G, R, _, ⟨_, _, _, _, _, rfl, _⟩, _⟩ := h
    rfl
  · obtain ⟨G, R, hs, ⟨x, dx, fs, s, p, rfl, hx, hst, hs2, rfl⟩, q⟩ := h
    refine ⟨_, (pss_cons (ps_set (i := 2) sc_WatchScale_arrows.nd rfl (Or.inr rfl) (pe_op op_mulA (pe_fldK K (pv 0)) (pe_fldK K (pv 0))))
  (pss_cons (ps_setLc (i := 3) (own := [("cell", 4)]) (g := (gName 4)) rfl sc_WatchScale_arrows.nd rfl rfl (sw_true rfl rfl rfl (by decide +kernel)) (pi_range1 (by rfl) Z.z_range (pa_cons (pv 2) pa_nil)) (blkOk_by (by kernel_rfl)) (fun _ _ _ _ _ => (pg_name (i := 4) sc_WatchScale_arrows.nd rfl (Or.inl rfl))) (fun _ _ _ _ _ => (pts_one (pt_cmpR (op_eqA K hr.units) (pe_op op_and (pe_op op_shr (pv 1) (pe_op op_subA (pe_op op_subA (pv 2) pe_int) (pv 4))) pe_int) pe_int (nomark _)))) (fun _ _ _ _ _ => (pv 4)))
  (pss_cons (ps_ret (pe_lc (own := [("cell", 4)]) (g := (gName 4)) rfl sc_WatchScale_arrows.nd (pi_listK K (pv 3)) (blkOk_by (by kernel_rfl)) (fun _ _ _ _ _ => (pg_name (i := 4) sc_WatchScale_arrows.nd rfl (Or.inl rfl))) (fun _ _ _ _ _ => pts_nil) (fun _ _ _ _ _ => (pe_tup (pa_cons (pe_op op_divA (pv 4) (pe_fldK K (pv 0))) (pa_cons (pe_op op_modA (pv 4) (pe_fldK K (pv 0))) pa_nil))))))
  pss_nil))), ?_⟩
    have st := stab0 G H
    have h0 : SP0 G H 0 G H := Grow.refl hs
    show tSeq _ _ (Ends.mk _ _ _ _) [some _, some _, none, none, none] _
    have fl : ∀ {n : Nat} {σ : L2.St} {G' : Hp}, Same G G' → σ[0]? = some (some (.ref x)) → Ev (SP0 G H) n 0 (tFld K (tVar 0) "states") σ G' (IsV (.int (s : Nat))) := fun s' hσ => ev_fld st (ev_var hσ) (s' _ _ hx) hC hN hst
    have e1 : ((s : Int) * (s : Int)).toNat = s * s := by rw [← Int.natCast_mul, Int.toNat_natCast]
    have b1 : 0 ≤ ((s : Int) * (s : Int)) ∧ ((s : Int) * (s : Int)) ≤ 4 := by rcases hs2 with rfl | rfl <;> exact ⟨by decide, by decide⟩
    refine q_setV st h0 (ev_opV (fl (Same.refl _) rfl) (fl (Same.refl _) rfl) (v_mul st (.inl ⟨by omega, by omega⟩))) fun H1 k1 h1 => ?_
    refine q_set h1 (ev_lcFR (R := fun c : Nat => IsV (.int (c : Nat))) (b := fun c => decide (Builtin.bitAnd (((p : Nat) : Int) / 2 ^ (((s : Int) * s - 1 - (c : Nat)).toNat)) 1 = 1)) (sj := fun c => c) (σf := fun c => [some (.ref x), some (.int (p : Nat)), some (.int ((s : Int) * s)), none, some (.int (c : Nat))]) st (ea_consV (ev_var rfl) ea_nilV) (by omega) (by omega) (fun j J Q q => q) (fun j => rfl)
      (fun j G' hj s' => et_testV (ev_opV (ev_opV (ev_opV (ev_var rfl) (ev_opV (ev_opV (ev_var rfl) ev_c (v_sub st)) (ev_var rfl) (v_sub st)) (v_shr st (by omega))) ev_c (v_band st)) ev_c (v_eqI st))) (fun j G' hj hb s' => ev_var rfl)) fun v2 G2 H2 s2 r2 => ?_
    rw [e1, List.map_id'] at r2
    obtain ⟨p2, rfl, _, g2⟩ := isNX_V (f := fun c : Nat => V.int (c : Nat)) r2
    generalize hm : (List.range (s * s)).filter (fun c => decide (Builtin.bitAnd (((p : Nat) : Int) / 2 ^ (((s : Int) * s - 1 - (c : Nat)).toNat)) 1 = 1)) = ms at g2
    have lms : ms.length ≤ 4 := by
      rw [← hm]
      refine Nat.le_trans (List.length_filter_le _ _) ?_
      rw [List.length_range]
      rcases hs2 with rfl | rfl <;> decide
    have ea : arr s (p : Nat) = ms.map fun c => (((c : Nat) : Int) / (s : Nat), ((c : Nat) : Int) % (s : Nat)) := by
      unfold arr
      rw [hm]
    refine q_ret s2.s (ev_lcG (R := IsPr) (ss := arr s (p : Nat)) (σf := fun j => [some (.ref x), some (.int (p : Nat)), some (.int ((s : Int) * s)), some (.ref p2), some (.int ((ms.getD j 0 : Nat)))]) st (ev_var rfl) (SqL.of g2) (by rw [ea, List.length_map, List.length_map]) (by rw [List.length_map]; omega) (fun j y G' J hy s' t' Qs q' => ?_) (fun _ => rfl) (fun j y z G' hy hz s' => ?_)) fun v3 G3 H3 s3 r3 => q _ _ _ s3.s ?_
    · rw [List.getElem?_map] at hy
      cases hj : ms[j]? with
      | none => rw [hj] at hy; cases hy
      | some c =>
        rw [hj] at hy
        obtain rfl := Option.some.inj hy
        have e2 : ms.getD j 0 = c := by rw [List.getD_eq_getElem?_getD, hj]; rfl
        rw [e2] at q'
        exact q'
    · rw [ea, List.getElem?_map] at hz
      cases hj : ms[j]? with
      | none => rw [hj] at hz; cases hz
      | some c =>
        rw [hj] at hz
        obtain rfl := Option.some.inj hz
        have e2 : ms.getD j 0 = c := by rw [List.getD_eq_getElem?_getD, hj]; rfl
        rw [e2]
        exact (ev_tupN st (ea_consV (ev_opV (ev_var rfl) (fl (s2.g.trans s') rfl) (v_div st ⟨by omega, by omega⟩)) (ea_consV (ev_opV (ev_var rfl) (fl (s2.g.trans s') rfl) (v_mod st (by omega))) ea_nilV)) (by simp)).imp fun v G'' s'' ⟨p, e, _, g⟩ => ⟨p, e, g⟩
    · obtain ⟨p3, xs, rfl, _, g3, rl3⟩ := r3
      exact ⟨p3, xs, rfl, g3, rl3⟩
theorem ok_w_then {C : Addr} (Z : Bi mg) (hC : Cls K C) (hN : NoAttr K C "states") (c_arrows : Method P w K mg base C "arrows" CX0 3 ["self", "place"] [] (spP (PArr C))) {f : Addr} {fd : FuncData} (F : Fun K "make_then" "WatchScale.make_then" s_WatchScale_make_then f fd) : FnOk P w K mg base CX0 5 f fd ["self", "first", "second"] (spP (PWt C)) := by
  refine F.ok sc_WatchScale_make_then (fun vs H Q E h => ?_) (fun cdv A outer s H vs Q E hr h => ?_)
  · obtain ⟨G, R, _, ⟨_, _, _, _, _, _, rfl, _⟩, _⟩ := h
    rfl
  · obtain ⟨G, R, hs, ⟨x, dx, fs, s, a, b, rfl, hx, hst, hna, hs2, ha, hb, rfl⟩, q⟩ := h
    refine ⟨_, (pss_cons (ps_set (i := 3) sc_WatchScale_make_then.nd rfl (Or.inl rfl) pe_int)
  (pss_cons (ps_for PassesOwn.never rfl (pi_listK K (pe_methC c_arrows (hr.mono (by decide)) pass0 (pv 0) (pa_cons (pv 1) pa_nil))) (pg_tup rfl (pgs_cons (pg_name (i := 4) sc_WatchScale_make_then.nd rfl (Or.inl rfl)) (pgs_cons (pg_name (i := 5) sc_WatchScale_make_then.nd rfl (Or.inl rfl)) pgs_nil))) (pss_cons (ps_for PassesOwn.never rfl (pi_listK K (pe_methC c_arrows (hr.mono (by decide)) pass0 (pv 0) (pa_cons (pv 2) pa_nil))) (pg_tup rfl (pgs_cons (pg_name (i := 6) sc_WatchScale_make_then.nd rfl (Or.inl rfl)) (pgs_cons (pg_name (i := 7) sc_WatchScale_make_then.nd rfl (Or.inl rfl)) pgs_nil))) (pss_cons (ps_if (pt_cmpR (op_eqA K hr.units) (pv 5) (pv 6) (nomark _)) (pss_cons (ps_set (i := 3) sc_WatchScale_make_then.nd rfl (Or.inl rfl) (pe_op op_or (pv 3) (pe_op op_shl pe_int (pe_op op_subA (pe_op op_subA (pe_op op_subA (pe_op op_mulA (pe_fldK K (pv 0)) (pe_fldK K (pv 0))) pe_int) (pe_op op_mulA (pv 4) (pe_fldK K (pv 0)))) (pv 7)))))
  pss_nil) pss_nil)
  pss_nil))
  pss_nil))
  (pss_cons (ps_ret (pv 3))
  pss_nil))), ?_⟩
    have st := stab0 G H
    have h0 : SP0 G H 0 G H := Grow.refl hs
    show tSeq _ _ (Ends.mk _ _ _ _) [some _, some _, some _, none, none, none, none, none] _
    have fl : ∀ {n : Nat} {σ : L2.St} {G' : Hp}, Same G G' → σ[0]? = some (some (.ref x)) → Ev (SP0 G H) n 0 (tFld K (tVar 0) "states") σ G' (IsV (.int (s : Nat))) := fun s' hσ => ev_fld st (ev_var hσ) (s' _ _ hx) hC hN hst
    have b1 : 0 ≤ ((s : Int) * (s : Int)) ∧ ((s : Int) * (s : Int)) ≤ 4 := by rcases hs2 with rfl | rfl <;> exact ⟨by decide, by decide⟩
    have hs3 : s < 3 := by omega
    refine q_setV st h0 ev_c fun H1 k1 h1 => ?_
    refine q_forPX (RA := RL IsPr (arr s (a : Nat))) st h1 (ev_meth (RA := IsVs [.int (a : Nat)]) st (ev_var rfl) hx hna (ea_consV (ev_var rfl) ea_nilV) fun vs G' s' e => ?_) (fun j σ' => ∃ c d e f, σ' = [some (.ref x), some (.int (a : Nat)), some (.int (b : Nat)), some (.int (((arr s (a : Nat)).take j).foldl (fun f p => (arr s (b : Nat)).foldl (fun f q => wput s f p q) f) 0)), c, d, e, f]) ⟨_, _, _, _, rfl⟩ fun p1 xs1 G2 H2 s2 g2 r2 => ⟨fun j y σ' J hy hp s3 => ?_, fun σ' J hp s3 => ?_⟩
    · obtain rfl := (show vs = _ from e)
      exact ⟨x, dx, fs, s, a, rfl, s' _ _ hx, hst, hs2, rfl⟩
    · obtain ⟨c, d, e, f, rfl⟩ := hp
      have lx := rl_len r2
      have hj : j < (arr s (a : Nat)).length := by
        have := (List.getElem?_eq_some_iff.mp hy).1
        omega
      have e1 : (arr s (a : Nat))[j]? = some (arr s (a : Nat))[j] := List.getElem?_eq_getElem hj
      obtain ⟨u, hu, pu, rfl, hpu⟩ := rl_get r2 e1
      rw [hu] at hy
      obtain rfl := Option.some.inj hy
      have bd := arr_bd s hs3 a ha _ (List.getElem_mem hj)
      have et : (arr s (a : Nat)).take (j + 1) = (arr s (a : Nat)).take j ++ [(arr s (a : Nat))[j]] := List.take_succ_eq_append_getElem hj
      generalize (arr s (a : Nat))[j] = r at hpu bd et
      refine ⟨pu, _, rfl, SqT.of (st.sub s3.s _ _ (s3.g _ _ hpu)), rfl, _, _, rfl, _, _, rfl, rfl, ?_⟩
      generalize hac : ((arr s (a : Nat)).take j).foldl (fun f p => (arr s (b : Nat)).foldl (fun f q => wput s f p q) f) 0 = acc
      show tSeq _ _ (Ends.mk _ _ _ _) [some (.ref x), some (.int (a : Nat)), some (.int (b : Nat)), some (.int acc), some (.int r.1), some (.int r.2), e, f] _
      refine q_forPX (RA := RL IsPr (arr s (b : Nat))) st s3.s (ev_meth (RA := IsVs [.int (b : Nat)]) st (ev_var rfl) (s2.g _ _ hx) hna (ea_consV (ev_var rfl) ea_nilV) fun vs G' s' e => ?_) (fun i σ' => ∃ e f, σ' = [some (.ref x), some (.int (a : Nat)), some (.int (b : Nat)), some (.int (((arr s (b : Nat)).take i).foldl (fun f q => wput s f r q) acc)), some (.int r.1), some (.int r.2), e, f]) ⟨_, _, rfl⟩ fun p4 xs4 G4 H4 s4 g4 r4 => ⟨fun i y σ' J4 hy hp s5 => ?_, fun σ' J4 hp s5 => ?_⟩
      · obtain rfl := (show vs = _ from e)
        exact ⟨x, dx, fs, s, b, rfl, s' _ _ (s2.g _ _ hx), hst, hs2, rfl⟩
      · obtain ⟨e, f, rfl⟩ := hp
        have lx := rl_len r4
        have hi : i < (arr s (b : Nat)).length := by
          have := (List.getElem?_eq_some_iff.mp hy).1
          omega
        have e1 : (arr s (b : Nat))[i]? = some (arr s (b : Nat))[i] := List.getElem?_eq_getElem hi
        obtain ⟨u, hu, pv, rfl, hpv⟩ := rl_get r4 e1
        rw [hu] at hy
        obtain rfl := Option.some.inj hy
        have bd2 := arr_bd s hs3 b hb _ (List.getElem_mem hi)
        have et2 : (arr s (b : Nat)).take (i + 1) = (arr s (b : Nat)).take i ++ [(arr s (b : Nat))[i]] := List.take_succ_eq_append_getElem hi
        rw [et2, List.foldl_append, List.foldl_cons, List.foldl_nil]
        generalize (arr s (b : Nat))[i] = z at hpv bd2
        refine ⟨pv, _, rfl, SqT.of (st.sub s5.s _ _ (s5.g _ _ hpv)), rfl, _, _, rfl, _, _, rfl, rfl, ?_⟩
        generalize ((arr s (b : Nat)).take i).foldl (fun f q => wput s f r q) acc = ac2
        show tSeq _ _ (Ends.mk _ _ _ _) [some (.ref x), some (.int (a : Nat)), some (.int (b : Nat)), some (.int ac2), some (.int r.1), some (.int r.2), some (.int z.1), some (.int z.2)] _
        have hnn : 0 ≤ (s : Int) * s - 1 - r.1 * s - z.2 ∧ (s : Int) * s - 1 - r.1 * s - z.2 ≤ 4 := by
          rcases hs2 with rfl | rfl <;> constructor <;> omega
        have sx := s2.g.trans s4.g
        refine q_if st s5.s (et_testV (ev_opV (ev_var rfl) (ev_var rfl) (v_eqI st))) (fun H6 p6 k6 h6 => ?_) (fun H6 p6 k6 h6 => ?_)
        · refine q_setV st h6 (ev_opV (ev_var rfl) (ev_opV ev_c (ev_opV (ev_opV (ev_opV (ev_opV (fl sx rfl) (fl sx rfl) (v_mul st (.inl ⟨by omega, by omega⟩))) ev_c (v_sub st)) (ev_opV (ev_var rfl) (fl sx rfl) (v_mul st (.inl ⟨by omega, by omega⟩))) (v_sub st)) (ev_var rfl) (v_sub st)) (v_shl st ⟨hnn.1, by omega, by decide⟩)) (v_bor st)) fun H7 k7 h7 => q_end (q_end ⟨⟨some (.int z.1), some (.int z.2), ?_⟩, (s5.go k6 h6).go k7 h7⟩)
          have ew : wput s ac2 r z = Builtin.bitOr ac2 (1 * 2 ^ (((s : Int) * s - 1 - r.1 * s - z.2).toNat)) := by
            unfold wput
            rw [if_pos (by simpa using p6)]
          rw [ew]
          rfl
        · refine q_end (q_end ⟨⟨some (.int z.1), some (.int z.2), ?_⟩, s5.go k6 h6⟩)
          have ew : wput s ac2 r z = ac2 := by
            unfold wput
            rw [if_neg (by simpa using p6)]
          rw [ew]
      · obtain ⟨e, f, rfl⟩ := hp
        rw [rl_len r4, List.take_length] 
        refine q_end ⟨⟨some (.int r.1), some (.int r.2), e, f, ?_⟩, ?_⟩
        · rw [et, List.foldl_append, List.foldl_cons, List.foldl_nil, hac]
        · have hh := st.anti s3.s s5.s s4.g
          exact ⟨Same.refl _, (s3.k.trans s4.k).trans s5.k, hh, fun _ _ h => .inl h⟩
    · obtain ⟨c, d, e, f, rfl⟩ := hp
      rw [rl_len r2, List.take_length]
      exact q_retV st s3.s (ev_var rfl) fun H4 k4 h4 => q _ G2 _ h4 rfl
theorem ok_WatchScale_init {C fS : Addr} (Z : Bi mg) (hC : Cls K C) (hN : ∀ f ∈ ("states" : Str) :: scF, NoAttr K C f) (opq : PySem.W.nsIn K cStatics "thirdparty.any" = some none) (top0 : (P.main.scope.names.lookup ("super" : Str)).isSome = false)
    (hm : PySem.W.mroIn K C (.ref C) = some true) (hf : PySem.W.ks_superIn K C C "__init__" = some (some (.ref fS))) (c_super : SupC P w K mg base fS CX0 6 ["self", "label", "names", "never_at", "still_at", "depth"] [.int 1] (spI (PScI K C (PWt C) PWj)))
    (c_digits_of : Callee P w K mg base "digits_of" CX0 1 ["number", "width"] [] (spP PDig)) {f : Addr} {fd : FuncData} (F : FunSD P K "__init__" "WatchScale.__init__" s_WatchScale___init__ [] [] f fd C) : FnOk P w K mg base (L2.CX P w) 10 f fd ["self", "states"] (spI (PWtI C)) := by
  refine F.toS.okX sc_WatchScale___init__ Z.z_super opq top0 rfl rfl (fun vs H Q E h => ?_) (fun cdv cc A outer s H vs Q E hr h SA => ?_)
  · obtain ⟨x, C', dx, fs, rest, G, R, rfl, _, _, _, ⟨_, _, s, _, rfl, _⟩, _⟩ := h
    rfl
  · obtain ⟨x, C', dx, fs, rest, G, R, rfl, hx, hG, gx, ⟨rfl, rfl, s, hs2, rfl, rfl⟩, q⟩ := h
    refine ⟨_, (psa_cons (ps_if (pt_cmpR (op_ninA K (hu_of hr)) (pv 1) (pe_tup (pa_cons pe_int (pa_cons pe_int pa_nil))) (by rfl)) (pss_cons ps_never
  pss_nil) pss_nil)
  (psa_cons (ps_fld (pv 0) (pv 1) rfl)
  (psa_cons (ps_set (i := 2) sc_WatchScale___init__.nd rfl (Or.inr rfl) (pe_op op_mulA (pv 1) (pv 1)))
  (psa_cons (ps_set (i := 3) sc_WatchScale___init__.nd rfl (Or.inl rfl) (pe_callB (call_sumA K) (by rfl) Z.z_sum (by decide +kernel) (pa_cons (pe_lc (own := [("state", 4)]) (g := (gName 4)) rfl sc_WatchScale___init__.nd (pi_range1 (by rfl) Z.z_range (pa_cons (pv 1) pa_nil)) (blkOk_by (by kernel_rfl)) (fun _ _ _ _ _ => (pg_name (i := 4) sc_WatchScale___init__.nd rfl (Or.inl rfl))) (fun _ _ _ _ _ => pts_nil) (fun _ _ _ _ _ => (pe_op op_shl pe_int (pe_op op_subA (pe_op op_subA (pv 2) pe_int) (pe_op op_mulA (pv 4) (pe_op op_addA (pv 1) pe_int)))))) pa_nil)))
  (psa_supC SA rfl (Or.inl rfl) c_super (hr.mono (by decide)) pass0 (pa_cons (pe_joined (PJ.cons pe_str (PJ.cons (pe_fmt (pv 1)) (PJ.cons pe_str PJ.nil)))) (pa_cons (pe_lc (own := [("number", 5)]) (g := (gName 5)) rfl sc_WatchScale___init__.nd (pi_range1 (by rfl) Z.z_range (pa_cons (pe_op op_shl pe_int (pv 2)) pa_nil)) (blkOk_by (by kernel_rfl)) (fun _ _ _ _ _ => (pg_name (i := 5) sc_WatchScale___init__.nd rfl (Or.inl rfl))) (fun _ _ _ _ _ => pts_nil) (fun _ _ _ _ _ => (pe_callC c_digits_of (hr.mono (by decide)) pass0 (pa_cons (pv 5) (pa_cons (pv 2) pa_nil))))) (pa_cons pe_int (pa_cons (pv 3) pa_nil))))
  (psa_end pss_nil)))))), ?_⟩
    have h0 := own_start (o := .ins C' dx []) hG gx hx 0
    have st0 := stabO G H x (.ins C' dx [])
    show tSeq _ _ (Ends.mk _ _ _ _) [some _, some _, none, none, none, none] _
    have hs3 : s < 3 := by omega
    refine q_if st0 h0 (et_testV (b := (!inV (.int (s : Nat)) [.int 1, .int 2])) (ev_op (ev_var rfl) (ev_tupN st0 (ea_consV ev_c (ea_consV ev_c ea_nilV)) (by simp)) fun a b G2 s2 ea eb => ?_)) (fun H1 p1 k1 h1 => ?_) (fun H1 p1 k1 h1 => ?_)
    · obtain rfl := (show _ = _ from ea)
      obtain ⟨tp, rfl, _, ht⟩ := eb
      exact v_inT (neg := true) st0 (SqT.of ht) rfl rfl
    · refine absurd p1 ?_
      rcases hs2 with rfl | rfl <;> decide
    refine q_end ?_
    refine q_fldV h1 (ev_var rfl) rfl hC (hN _ (by decide)) (by decide) fun H2 h2 => ?_
    generalize e3 : putF ("states" : Str) (.int (s : Nat)) [] = f3 at h2
    have z3 : f3.length ≤ 1 := by rw [← e3]; exact putF_len _ _ _
    have on1 : f3.lookup ("states" : Str) = some (.int (s : Nat)) := by rw [← e3]; exact lk_eq
    have off3 : ∀ f, f ≠ ("states" : Str) → f3.lookup f = none := fun f a => by rw [← e3, lk_ne a]; rfl
    have st3 := stabO G H x (.ins C' dx f3)
    have lll := wlabel_len s hs3
    have hsz : (100 : Nat) ≤ sizeLine := by decide
    have b1 : 0 ≤ ((s : Int) * (s : Int)) ∧ ((s : Int) * (s : Int)) ≤ 4 := by rcases hs2 with rfl | rfl <;> exact ⟨by decide, by decide⟩
    have e1 : ((s : Int) * (s : Int)) = ((s * s : Nat) : Int) := (Int.natCast_mul _ _).symm
    refine q_setV st3 h2 (ev_opV (ev_var rfl) (ev_var rfl) (v_mul st3 (.inl ⟨by omega, by omega⟩))) fun H3 k3 h3 => ?_
    refine q_setV st3 h3 (x := .int (wstill s)) (ev_cb (ea_cons (ev_lcV (f := fun k => .int (1 * 2 ^ (((s : Int) * s - 1 - (k : Nat) * ((s : Int) + 1)).toNat))) st3 (ea_consV (ev_var rfl) ea_nilV) (by omega) (by omega) (fun _ => rfl) fun j G' hj s' => ?_) ea_nil) fun vs G' s' e => ?_) fun H4 k4 h4 => ?_
    · refine ev_opV ev_c (ev_opV (ev_opV (ev_var rfl) ev_c (v_sub st3)) (ev_opV (ev_var rfl) (ev_opV (ev_var rfl) ev_c (v_add st3)) (v_mul st3 (.inl ⟨by omega, by omega⟩))) (v_sub st3)) (v_shl st3 ⟨?_, ?_, by decide⟩)
      · rcases hs2 with rfl | rfl <;> omega
      · rcases hs2 with rfl | rfl <;> omega
    · obtain ⟨_, _, rfl, ⟨p, rfl, _, g⟩, e2⟩ := e
      obtain rfl := (show _ = _ from e2)
      rw [Int.toNat_natCast] at g
      exact c_sum (ns := (List.range s).map fun k => (1 * 2 ^ (((s : Int) * s - 1 - (k : Nat) * ((s : Int) + 1)).toNat) : Int)) st3 (SqL.of (by rw [g, List.map_map]; rfl))
    have es : Str.empty ++ ("(watch " : Str) = ("(watch " : Str) := by decide +kernel
    have hlog : ∀ i : Nat, i < 64 → ((i : Nat) : Int).natAbs.log2 < 1920 := by decide +kernel
    have e2c : ((1 : Int) * 2 ^ ((s : Int) * (s : Int)).toNat) = ((2 ^ (s * s) : Nat) : Int) := by rw [e1, Int.toNat_natCast, Int.one_mul, Int.natCast_pow]; rfl
    have b2c : 2 ^ (s * s) ≤ 16 := by rcases hs2 with rfl | rfl <;> decide
    refine q_supO h4 rfl hm hf (ea_cons (ev_joined (ej_cons ev_c (by rw [es]; decide +kernel) (ej_cons (ev_fmtI (ev_var rfl) (hlog s (by omega))) (by rw [es]; exact Nat.le_trans lll.1 hsz) (ej_cons ev_c (by rw [es]; exact Nat.le_trans lll.2 hsz) ej_nil))))
      (ea_cons (ev_lcV (f := fun k => .str (digs (s * s) (k : Nat))) st3 (ea_consV (ev_opV ev_c (ev_var rfl) (v_shl st3 ⟨by omega, by omega, by decide⟩)) ea_nilV) (by rw [e2c]; exact Int.le_trans (by decide) (Int.natCast_nonneg _)) (by rw [e2c]; exact Int.ofNat_le.mpr (show 2 ^ (s * s) ≤ 100000 by omega)) (fun _ => rfl) fun j G' hj s' => ?_) (ea_cons ev_c (ea_cons (ev_var rfl) ea_nil)))) (RO := fun _ _ fs' G' => ScIs (wlabel (s : Nat)) (wwords s) 0 (wstill s) 1 (wth s) wjn fs' G' ∧ (∀ f, f ∉ scF → fs'.lookup f = f3.lookup f) ∧ fs'.length ≤ f3.length + 9)
      (fun vs G2 s2 r2 => ?_) (fun f5 G5 H5 s5 h5 r5 => ?_)
    · exact ev_callV st3 (ea_consV (ev_var rfl) (ea_consV (ev_var rfl) ea_nilV)) fun G6 s6 => ⟨_, s * s, by rw [e1]; rfl, Int.natCast_nonneg _, by omega, rfl⟩
    · obtain ⟨_, _, rfl, a1, _, _, rfl, a2, _, _, rfl, a3, _, _, rfl, a4, a5⟩ := r2
      obtain rfl := (show _ = _ from a1)
      obtain ⟨pw, rfl, _, hw⟩ := a2
      obtain rfl := (show _ = _ from a3)
      obtain rfl := (show _ = _ from a4)
      obtain rfl := (show _ = _ from a5)
      rw [e2c, Int.toNat_natCast] at hw
      have hw : G2 pw = some (.lst ((wwords s).map V.str)) := by
        rw [hw]
        unfold wwords
        rw [List.map_map]
        rfl
      have lw : (wwords s).length = 2 ^ (s * s) := by unfold wwords; rw [List.length_map, List.length_range]
      refine ⟨rfl, wlabel (s : Nat), pw, wwords s, 0, wstill s, 1, wth s, wjn, by rw [es]; rfl, SqL.of hw, by omega, wwords_nodup s hs3, by omega, off3 _ (by decide +kernel), off3 _ (by decide +kernel), fun y dy fs' G' s3 hy hfs a b ha hb => ?_, rfl⟩
      have w1 : fs'.lookup ("states" : Str) = some (.int (s : Nat)) := (hfs _ (by decide +kernel)).trans on1
      exact ⟨⟨y, dy, fs', s, a, b, rfl, hy, w1, (hfs _ (by decide +kernel)).trans (off3 _ (by decide +kernel)), hs2, by omega, by omega, rfl⟩, ⟨y, a, b, rfl, rfl⟩⟩
    · exact q_end (q f5 _ _ (own_n h5) ⟨r5.1, fun f hf h1 => (r5.2.1 f hf).trans (off3 f h1)⟩)
abbrev s_is_table_name : Stmt := top 8
theorem sc_is_table_name : FnScope ["name", "sign"] ["name"] (defScope s_is_table_name) := ⟨rfl, rfl, rfl, by decide +kernel, rfl, by decide +kernel, by decide +kernel⟩
abbrev s_table_places : Stmt := top 9
theorem sc_table_places : FnScope ["places", "table", "found", "row", "name"] ["places", "table"] (defScope s_table_places) := ⟨rfl, rfl, rfl, by decide +kernel, rfl, by decide +kernel, by decide +kernel⟩
abbrev s_TableScale___init__ : Stmt := inClass (top 10) 0
theorem sc_TableScale___init__ : ScS ["self", "names", "joins", "products", "never", "still", "places", "blocks", "table", "label", "place", "name", "row"] ["self", "names", "joins", "products", "never", "still"] (defScope s_TableScale___init__) := ⟨rfl, rfl, rfl, by decide +kernel, rfl, by decide +kernel, by decide +kernel, rfl, by decide +kernel, rfl⟩
abbrev s_TableScale_make_then : Stmt := inClass (top 10) 1
theorem sc_TableScale_make_then : FnScope ["self", "first", "second"] ["self", "first", "second"] (defScope s_TableScale_make_then) := ⟨rfl, rfl, rfl, by decide +kernel, rfl, by decide +kernel, by decide +kernel⟩
abbrev s_TableScale_make_join : Stmt := inClass (top 10) 2
theorem sc_TableScale_make_join : FnScope ["self", "first", "second"] ["self", "first", "second"] (defScope s_TableScale_make_join) := ⟨rfl, rfl, rfl, by decide +kernel, rfl, by decide +kernel, by decide +kernel⟩
theorem ok_is_table_name {tS : Tok} {f : Addr} {fd : FuncData} (Z : Bi mg) (g_SIGNS : mg "SIGNS" = some (.str signsL tS)) (F : Fun K "is_table_name" "is_table_name" s_is_table_name f fd) : FnOk P w K mg base CX0 1 f fd ["name"] (spP PIsN) := by
  refine F.ok sc_is_table_name (fun vs H Q E h => ?_) (fun cdv A outer s H vs Q E hr h => ?_)
  · obtain ⟨_, _, _, ⟨_, rfl, _⟩, _⟩ := h
    rfl
  · obtain ⟨G, R, hs, ⟨nm, rfl, hl, rfl⟩, q⟩ := h
    refine ⟨_, (pss_cons (ps_ret (pe_and (pe_chain op_leA op_leA pe_int (pe_callB (call_lenA K) (by rfl) Z.z_len PySem.boot_len (pa_cons (pv 0) pa_nil)) pe_int) (pe_one (pe_callB (call_allA K) (by rfl) Z.z_all (by decide +kernel) (pa_cons (pe_lc (own := [("sign", 1)]) (g := (gName 1)) rfl sc_is_table_name.nd (pi_str (pv 0)) (blkOk_by (by kernel_rfl)) (fun _ _ _ _ _ => (pg_name (i := 1) sc_is_table_name.nd rfl (Or.inl rfl))) (fun _ _ _ _ _ => pts_nil) (fun _ _ _ _ _ => (pe_cmpR op_in_str (pv 1) (pe_glob (v := .str "abcdefghijklmnopqrstuvwxyz0123456789") rfl g_SIGNS ⟨_, rfl⟩) (by rfl)))) pa_nil)))))
  pss_nil), ?_⟩
    have st := stab0 G H
    have h0 : SP0 G H 0 G H := Grow.refl hs
    show tSeq _ _ (Ends.mk _ _ _ _) [some _, none] _
    have hsz : (1000 : Nat) ≤ sizeLine := by decide
    refine q_retV st h0 (x := .bl (okNm nm)) (ev_andV st (ev_chain st ev_c (ev_cbV (ea_consV (ev_var rfl) ea_nilV) (c_lenS st (Nat.le_trans hl hsz))) (v_le st) ev_c (v_le st)) (fun _ => ev_cb (ea_cons (ev_lcS (f := fun c => .bl (sgn c)) st (ev_var rfl) (by omega) (fun _ => rfl) fun c G' hc s' => ev_opV (ev_var rfl) ev_c (v_inS st)) ea_nil) fun vs G' s' e => ?_)) fun H1 k1 h1 => q _ _ _ h1 rfl
    obtain ⟨_, _, rfl, ⟨p, rfl, _, g⟩, e2⟩ := e
    obtain rfl := (show _ = _ from e2)
    exact c_all st (SqL.of (by rw [g, List.map_map]; rfl))
theorem ok_table_places {f : Addr} {fd : FuncData} (Z : Bi mg) (F : Fun K "table_places" "table_places" s_table_places f fd) : FnOk P w K mg base CX0 1 f fd ["places", "table"] (spP PTp) := by
  refine F.ok sc_table_places (fun vs H Q E h => ?_) (fun cdv A outer s H vs Q E hr h => ?_)
  · obtain ⟨_, _, _, ⟨_, _, _, _, rfl, _⟩, _⟩ := h
    rfl
  · obtain ⟨G, R, hs, ⟨pd, pt, names, rows, rfl, hd, hnd, hn, ⟨vs, ht, rl⟩, hl, hr2, rfl⟩, q⟩ := h
    refine ⟨_, (pss_cons (ps_if (PW.pt (pw_or (pt_cmpR (op_neA K hr.units) (pe_callB (call_lenA K) (by rfl) Z.z_len PySem.boot_len (pa_cons (pv 1) pa_nil)) (pe_callB (call_lenA K) (by rfl) Z.z_len PySem.boot_len (pa_cons (pv 0) pa_nil)) (nomark _)) (pw_or1 (pt_val (pe_callB (call_anyA K) (by rfl) Z.z_any (by decide +kernel) (pa_cons (pe_lc (own := [("row", 3)]) (g := (gName 3)) rfl sc_table_places.nd (pi_listK K (pv 1)) (blkOk_by (by kernel_rfl)) (fun _ _ _ _ _ => (pg_name (i := 3) sc_table_places.nd rfl (Or.inl rfl))) (fun _ _ _ _ _ => pts_nil) (fun _ _ _ _ _ => (pe_cmpR (op_neA K hr.units) (pe_callB (call_lenA K) (by rfl) Z.z_len PySem.boot_len (pa_cons (pv 3) pa_nil)) (pe_callB (call_lenA K) (by rfl) Z.z_len PySem.boot_len (pa_cons (pv 0) pa_nil)) (nomark _)))) pa_nil)))))) (pss_cons ps_never
  pss_nil) pss_nil)
  (pss_cons (ps_setLc (i := 2) (own := [("row", 3)]) (g := (gName 3)) rfl sc_table_places.nd rfl rfl (sw_true rfl rfl rfl (by decide +kernel)) (pi_listK K (pv 1)) (blkOk_by (by kernel_rfl)) (fun _ _ _ _ _ => (pg_name (i := 3) sc_table_places.nd rfl (Or.inl rfl))) (fun _ _ _ _ _ => pts_nil) (fun _ _ _ _ _ => (pe_lc (own := [("name", 4)]) (g := (gName 4)) rfl sc_table_places.nd (pi_listK K (pv 3)) (blkOk_by (by kernel_rfl)) (fun _ _ _ _ _ => (pg_name (i := 4) sc_table_places.nd rfl (Or.inl rfl))) (fun _ _ _ _ _ => pts_nil) (fun _ _ _ _ _ => (pe_dget1 (hu_of hr) (pv 0) (pv 4) ⟨rfl, rfl, rfl, rfl⟩)))))
  (pss_cons (ps_if (pt_val (pe_callB (call_anyA K) (by rfl) Z.z_any (by decide +kernel) (pa_cons (pe_lc (own := [("row", 3)]) (g := (gName 3)) rfl sc_table_places.nd (pi_listK K (pv 2)) (blkOk_by (by kernel_rfl)) (fun _ _ _ _ _ => (pg_name (i := 3) sc_table_places.nd rfl (Or.inl rfl))) (fun _ _ _ _ _ => pts_nil) (fun _ _ _ _ _ => (pe_cmpR (op_inA K (hu_of hr)) pe_non (pv 3) (by rfl)))) pa_nil))) (pss_cons ps_never
  pss_nil) pss_nil)
  (pss_cons (ps_ret (pv 2))
  pss_nil)))), ?_⟩
    have st := stab0 G H
    have h0 : SP0 G H 0 G H := Grow.refl hs
    show tSeq _ _ (Ends.mk _ _ _ _) [some _, some _, none, none, none] _
    have lv := rl_len rl
    have lp := plc_len names 0
    have row : ∀ {j : Nat} {y : V} {G' : Hp}, vs[j]? = some y → Same G G' → ∃ r, rows[j]? = some r ∧ r ∈ rows ∧ IsSR r y G' := fun {j y G'} hy s' => by
      have hj : j < rows.length := by
        have := (List.getElem?_eq_some_iff.mp hy).1
        omega
      have e1 : rows[j]? = some rows[j] := List.getElem?_eq_getElem hj
      obtain ⟨u, hu, iu⟩ := rl_get rl e1
      rw [hu] at hy
      obtain rfl := Option.some.inj hy
      exact ⟨_, e1, List.getElem_mem hj, Mon.mon s' iu⟩
    refine q_if st h0 (et_or st (et_testV (ev_opV (ev_cbV (ea_consV (ev_var rfl) ea_nilV) (c_lenL st (SqL.of ht))) (ev_cbV (ea_consV (ev_var rfl) ea_nilV) (c_lenD st hd)) (v_neI st))) (fun _ => et_B (b := false) (ev_cb (ea_cons (ev_lcVL (f := fun _ => .bl false) st (ev_var rfl) (SqL.of ht) (by omega) (fun _ => rfl) fun j y G' hy s' => ?_) ea_nil) fun us G' s' e => ?_))) (fun H1 p1 k1 h1 => ?_) (fun H1 p1 k1 h1 => ?_)
    · obtain ⟨r, _, hm, p, rfl, hp⟩ := row hy s'
      refine ev_eq ?_ (ev_opV (ev_cbV (ea_consV (ev_var rfl) ea_nilV) (c_lenL st (SqL.of hp))) (ev_cbV (ea_consV (ev_var rfl) ea_nilV) (c_lenD st (s' _ _ hd))) (v_neI st))
      rw [List.length_map, lp, (hr2 r hm).1]
      simp
    · obtain ⟨_, _, rfl, ⟨p, rfl, _, g⟩, e2⟩ := e
      obtain rfl := (show _ = _ from e2)
      have e3 : (vs.map fun _ => false).any id = false := by
        rw [List.any_eq_false]
        intro b hb
        obtain ⟨_, _, rfl⟩ := List.mem_map.mp hb
        simp
      rw [← e3]
      exact c_any st (SqL.of (by rw [g, List.map_map]; rfl))
    · rw [lv, hl, lp] at p1
      simp at p1
    refine q_end ?_
    refine q_set (R := IsNX G (RL (IsIR names) rows)) h1 (ev_lcG (R := IsIR names) (ss := rows) (σf := fun j => [some (.ref pd), some (.ref pt), none, vs[j]?, none]) st (ev_var rfl) (SqL.of ht) lv (by omega) (fun j y G' J hy s' t' Qs q' => ?_) (fun _ => rfl) (fun j y r G' hy hrj s' => ?_)) fun v2 G2 H2 s2 r2 => ?_
    · rw [hy] at q'
      exact q'
    · show Ev _ _ _ _ [some (.ref pd), some (.ref pt), none, vs[j]?, none] _ _
      rw [hy]
      obtain ⟨r', er, hm, p, rfl, hp⟩ := row hy s'
      rw [hrj] at er
      obtain rfl := Option.some.inj er
      refine (ev_lcVL (f := fun v => match v with | .str e => .int (names.idxOf e : Nat) | _ => .non) st (ev_var rfl) (SqL.of hp) (by rw [List.length_map, (hr2 r hm).1]; omega) (fun _ => rfl) fun i z G'' hz s'' => ?_).imp fun v G'' s'' ⟨p2, e, _, g⟩ => ⟨p2, e, by rw [g, List.map_map]; rfl⟩
      obtain ⟨hi, rfl⟩ := map_get hz
      have hmem := (hr2 r hm).2 _ (List.getElem_mem hi)
      refine ev_eq ?_ (ev_dget (k := .inr r[i]) st (ev_var rfl) (s'' _ _ (s' _ _ hd)) (ev_var rfl))
      rw [plc_some hnd (idx_get hmem), Nat.zero_add]
      rfl
    obtain ⟨p2, ws, rfl, _, g2, rl2⟩ := r2
    have lw := rl_len rl2
    refine q_if st s2.s (et_B (b := false) (ev_cb (ea_cons (ev_lcVL (f := fun _ => .bl false) st (ev_var rfl) (SqL.of g2) (by omega) (fun _ => rfl) fun j y G' hy s' => ?_) ea_nil) fun us G' s' e => ?_)) (fun H3 p3 k3 h3 => ?_) (fun H3 p3 k3 h3 => ?_)
    · have hj : j < rows.length := by
        have := (List.getElem?_eq_some_iff.mp hy).1
        omega
      obtain ⟨u, hu, p, rfl, hp⟩ := rl_get rl2 (List.getElem?_eq_getElem hj)
      rw [hu] at hy
      obtain rfl := Option.some.inj hy
      refine ev_eq ?_ (ev_opV ev_c (ev_var rfl) (v_inL (neg := false) st (SqL.of (s' _ _ hp)) rfl ?_))
      · have e4 : inV .non (rows[j].map fun e => V.int (names.idxOf e : Nat)) = false := by
          unfold inV
          rw [List.any_eq_false]
          intro b hb
          obtain ⟨_, _, rfl⟩ := List.mem_map.mp hb
          exact Bool.false_ne_true
        rw [e4]
        rfl
      · rw [List.all_map, List.all_eq_true]
        exact fun _ _ => rfl
    · obtain ⟨_, _, rfl, ⟨p, rfl, _, g⟩, e2⟩ := e
      obtain rfl := (show _ = _ from e2)
      have e3 : (ws.map fun _ => false).any id = false := by
        rw [List.any_eq_false]
        intro b hb
        obtain ⟨_, _, rfl⟩ := List.mem_map.mp hb
        simp
      rw [← e3]
      exact c_any st (SqL.of (by rw [g, List.map_map]; rfl))
    · cases p3
    · refine q_end ?_
      refine q_ret h3 (ev_var rfl) fun v G4 H4 s4 e4 => q v G4 H4 s4.s ⟨p2, e4, ws, s4.g _ _ g2, rl_mon s4.g rl2⟩
theorem ok_tb_m {C : Addr} {fld : Str} (hC : Cls K C) (hN : NoAttr K C fld) {G H : Hp} {x dx p : Addr} {fs : List (Str × V)} {names : List Str} {rows : List (List Str)} {a b : Nat} {σ : L2.St} {n : Nat} (st : Stab (SP0 G H)) (h0 : σ[0]? = some (some (.ref x))) (h1 : σ[1]? = some (some (.int (a : Nat)))) (h2 : σ[2]? = some (some (.int (b : Nat))))
    (hx : G x = some (.ins C dx fs)) (hf : fs.lookup fld = some (.ref p)) (ht : TabI names G p rows) (ha : a < rows.length) (hb : ∀ r ∈ rows, b < r.length) : Ev (SP0 G H) n (0 + 0 + 0) (tOp (rIxA K) (tOp (rIxA K) (tFld K (tVar 0) fld) (tVar 1)) (tVar 2)) σ G (IsV (.int (idxT names rows a b))) := by
  obtain ⟨vs, hp, rl⟩ := ht
  have e1 : rows[a]? = some rows[a] := List.getElem?_eq_getElem ha
  obtain ⟨u, hu, q, rfl, hq⟩ := rl_get rl e1
  have hb' := hb _ (List.getElem_mem ha)
  refine ev_opV (ev_opV (ev_fld st (ev_var h0) hx hC hN hf) (ev_var h1) (v_ixL st (SqL.of hp) (atI_nat hu))) (ev_var h2) (v_ixL st (SqL.of hq) (atI_nat ?_))
  unfold idxT
  rw [List.getElem?_map, List.getElem?_eq_getElem hb', List.getD_eq_getElem?_getD, List.getD_eq_getElem?_getD, e1]
  show _ = some (V.int ((names.idxOf ((rows[a])[b]?.getD ("" : Str)) : Nat)))
  rw [List.getElem?_eq_getElem hb']
  rfl
theorem ok_tb_then {C : Addr} (hC : Cls K C) (hN : NoAttr K C "written_products") {f : Addr} {fd : FuncData} (F : Fun K "make_then" "TableScale.make_then" s_TableScale_make_then f fd) : FnOk P w K mg base CX0 5 f fd ["self", "first", "second"] (spP (PTbM C "written_products")) := by
  refine F.ok sc_TableScale_make_then (fun vs H Q E h => ?_) (fun cdv A outer s H vs Q E hr h => ?_)
  · obtain ⟨G, R, _, ⟨_, _, _, _, _, _, _, _, rfl, _⟩, _⟩ := h
    rfl
  · obtain ⟨G, R, hs, ⟨x, dx, p, fs, names, rows, a, b, rfl, hx, hf, ht, ha, hb, rfl⟩, q⟩ := h
    refine ⟨_, (pss_cons (ps_ret (pe_ix (ix_any K (hu_of hr)) (pe_ix (ix_any K (hu_of hr)) (pe_fldK K (pv 0)) (pv 1) (fun _ _ => rfl)) (pv 2) (fun _ _ => rfl)))
  pss_nil), ?_⟩
    have st := stab0 G H
    have h0 : SP0 G H 0 G H := Grow.refl hs
    show tSeq _ _ (Ends.mk _ _ _ _) [some _, some _, some _] _
    exact q_retV st h0 (ok_tb_m hC hN st rfl rfl rfl hx hf ht ha hb) fun H1 k1 h1 => q _ _ _ h1 rfl
theorem ok_tb_join {C : Addr} (hC : Cls K C) (hN : NoAttr K C "written_joins") {f : Addr} {fd : FuncData} (F : Fun K "make_join" "TableScale.make_join" s_TableScale_make_join f fd) : FnOk P w K mg base CX0 5 f fd ["self", "first", "second"] (spP (PTbM C "written_joins")) := by
  refine F.ok sc_TableScale_make_join (fun vs H Q E h => ?_) (fun cdv A outer s H vs Q E hr h => ?_)
  · obtain ⟨G, R, _, ⟨_, _, _, _, _, _, _, _, rfl, _⟩, _⟩ := h
    rfl
  · obtain ⟨G, R, hs, ⟨x, dx, p, fs, names, rows, a, b, rfl, hx, hf, ht, ha, hb, rfl⟩, q⟩ := h
    refine ⟨_, (pss_cons (ps_ret (pe_ix (ix_any K (hu_of hr)) (pe_ix (ix_any K (hu_of hr)) (pe_fldK K (pv 0)) (pv 1) (fun _ _ => rfl)) (pv 2) (fun _ _ => rfl)))
  pss_nil), ?_⟩
    have st := stab0 G H
    have h0 : SP0 G H 0 G H := Grow.refl hs
    show tSeq _ _ (Ends.mk _ _ _ _) [some _, some _, some _] _
    exact q_retV st h0 (ok_tb_m hC hN st rfl rfl rfl hx hf ht ha hb) fun H1 k1 h1 => q _ _ _ h1 rfl
theorem ok_TableScale_init {C fS : Addr} (Z : Bi mg) (hC : Cls K C) (hN : ∀ f ∈ ("written_joins" : Str) :: "written_products" :: scF, NoAttr K C f) (opq : PySem.W.nsIn K cStatics "thirdparty.any" = some none) (top0 : (P.main.scope.names.lookup ("super" : Str)).isSome = false)
    (hm : PySem.W.mroIn K C (.ref C) = some true) (hf : PySem.W.ks_superIn K C C "__init__" = some (some (.ref fS))) (c_super : SupC P w K mg base fS CX0 6 ["self", "label", "names", "never_at", "still_at", "depth"] [.int 1] (spI (PScI K C (PTbM C "written_products") (PTbM C "written_joins"))))
    (c_is_table_name : Callee P w K mg base "is_table_name" CX0 1 ["name"] [] (spP PIsN)) (c_table_places : Callee P w K mg base "table_places" CX0 1 ["places", "table"] [] (spP PTp)) {f : Addr} {fd : FuncData} (F : FunSD P K "__init__" "TableScale.__init__" s_TableScale___init__ [] [] f fd C) :
    FnOk P w K mg base (L2.CX P w) 10 f fd ["self", "names", "joins", "products", "never", "still"] (spI (PTbI C)) := by
  refine F.toS.okX sc_TableScale___init__ Z.z_super opq top0 rfl rfl (fun vs H Q E h => ?_) (fun cdv cc A outer s H vs Q E hr h SA => ?_)
  · obtain ⟨x, C', dx, fs, rest, G, R, rfl, _, _, _, ⟨_, _, _, _, _, _, _, _, _, _, rfl, _⟩, _⟩ := h
    rfl
  · obtain ⟨x, C', dx, fs, rest, G, R, rfl, hx, hG, gx, ⟨rfl, rfl, pn, pj, pp, names, joins, products, never, still, rfl, gn, tj, tp, T, rfl⟩, q⟩ := h
    refine ⟨_, (psa_cons (ps_setDc (i := 6) (own := [("place", 10), ("name", 11)]) (g := (gTup _ 2 (gCons (gName 10) (gCons (gName 11) gNil)))) rfl sc_TableScale___init__.nd rfl rfl (sw_dc rfl rfl rfl (by decide +kernel)) (pi_enum (by rfl) Z.z_enumerate (pa_cons (pv 1) pa_nil)) (blkOk_by (by kernel_rfl)) (fun _ _ _ _ _ => (pg_tup rfl (pgs_cons (pg_name (i := 10) sc_TableScale___init__.nd rfl (Or.inl rfl)) (pgs_cons (pg_name (i := 11) sc_TableScale___init__.nd rfl (Or.inl rfl)) pgs_nil)))) (fun _ _ _ _ _ => pts_nil) (fun _ _ _ _ _ => (pv 11)) (fun _ _ _ _ _ => (pv 10)))
  (psa_cons (ps_if (PW.pt (pw_or (pt_not (pt_chain op_leA op_leA pe_int (pe_callB (call_lenA K) (by rfl) Z.z_len PySem.boot_len (pa_cons (pv 1) pa_nil)) pe_int)) (pw_or1 (pt_cmpR (op_neA K hr.units) (pe_callB (call_lenA K) (by rfl) Z.z_len PySem.boot_len (pa_cons (pv 6) pa_nil)) (pe_callB (call_lenA K) (by rfl) Z.z_len PySem.boot_len (pa_cons (pv 1) pa_nil)) (nomark _))))) (pss_cons ps_never
  pss_nil) pss_nil)
  (psa_cons (ps_if (PW.pt (pw_or (pt_not (pt_val (pe_callB (call_allA K) (by rfl) Z.z_all (by decide +kernel) (pa_cons (pe_lc (own := [("name", 11)]) (g := (gName 11)) rfl sc_TableScale___init__.nd (pi_listK K (pv 1)) (blkOk_by (by kernel_rfl)) (fun _ _ _ _ _ => (pg_name (i := 11) sc_TableScale___init__.nd rfl (Or.inl rfl))) (fun _ _ _ _ _ => pts_nil) (fun _ _ _ _ _ => (pe_callC c_is_table_name (hr.mono (by decide)) pass0 (pa_cons (pv 11) pa_nil)))) pa_nil)))) (pw_or (pt_cmpR (op_ninA K (hu_of hr)) (pv 4) (pv 6) (by rfl)) (pw_or1 (pt_cmpR (op_ninA K (hu_of hr)) (pv 5) (pv 6) (by rfl)))))) (pss_cons ps_never
  pss_nil) pss_nil)
  (psa_cons (ps_fld (pv 0) (pe_callC c_table_places (hr.mono (by decide)) pass0 (pa_cons (pv 6) (pa_cons (pv 2) pa_nil))) rfl)
  (psa_cons (ps_fld (pv 0) (pe_callC c_table_places (hr.mono (by decide)) pass0 (pa_cons (pv 6) (pa_cons (pv 3) pa_nil))) rfl)
  (psa_cons (ps_set (i := 7) sc_TableScale___init__.nd rfl (Or.inl rfl) (pe_lst (pa_cons (pe_joinK K pe_str (pv 1)) (pa_cons (pe_joined (PJ.cons (pe_fmt (pv 4)) (PJ.cons pe_str (PJ.cons (pe_fmt (pv 5)) PJ.nil)))) pa_nil))))
  (psa_cons (ps_for (passes_of rfl) rfl (pi_listK K (pe_lst (pa_cons (pv 2) (pa_cons (pv 3) pa_nil)))) (pg_name (i := 8) sc_TableScale___init__.nd rfl (Or.inl rfl)) (pss_cons (ps_expr (pe_bm PySem.F.plainAttrs_list PySem.F.slot_list_append PySem.F.type_list_append mt_append (pv 7) (pa_cons (pe_joinK K pe_str (pe_lc (own := [("row", 12)]) (g := (gName 12)) rfl sc_TableScale___init__.nd (pi_listK K (pv 8)) (blkOk_by (by kernel_rfl)) (fun _ _ _ _ _ => (pg_name (i := 12) sc_TableScale___init__.nd rfl (Or.inl rfl))) (fun _ _ _ _ _ => pts_nil) (fun _ _ _ _ _ => (pe_joinK K pe_str (pv 12))))) pa_nil)))
  pss_nil))
  (psa_cons (ps_set (i := 9) sc_TableScale___init__.nd rfl (Or.inl rfl) (pe_joined (PJ.cons pe_str (PJ.cons (pe_fmt (pe_ix (ix_any K (hu_of hr)) (pv 7) pe_int (fun _ _ => rfl))) (PJ.cons pe_str (PJ.cons (pe_fmt (pe_ix (ix_any K (hu_of hr)) (pv 7) pe_int (fun _ _ => rfl))) (PJ.cons pe_str (PJ.cons (pe_fmt (pe_ix (ix_any K (hu_of hr)) (pv 7) pe_int (fun _ _ => rfl))) (PJ.cons pe_str (PJ.cons (pe_fmt (pe_ix (ix_any K (hu_of hr)) (pv 7) pe_int (fun _ _ => rfl))) (PJ.cons pe_str PJ.nil)))))))))))
  (psa_supC SA rfl (Or.inl rfl) c_super (hr.mono (by decide)) pass0 (pa_cons (pv 9) (pa_cons (pv 1) (pa_cons (pe_ix (ix_any K (hu_of hr)) (pv 6) (pv 4) (fun _ _ => rfl)) (pa_cons (pe_ix (ix_any K (hu_of hr)) (pv 6) (pv 5) (fun _ _ => rfl)) pa_nil))))
  (psa_end pss_nil)))))))))), ?_⟩
    have h0 := own_start (o := .ins C' dx []) hG gx hx 0
    have st0 := stabO G H x (.ins C' dx [])
    show tSeq _ _ (Ends.mk _ _ _ _) [some _, some _, some _, some _, some _, some _, none, none, none, none, none, none, none] _
    have l1 := T.l1
    have l2 := T.l2
    have lm : (names.map V.str).length = names.length := List.length_map _
    refine q_set h0 (ev_dcE st0 (ea_consV (ev_var rfl) ea_nilV) (SqL.of gn) (by omega) T.nd (by decide) (Nat.le_of_ble_eq_true rfl) (Nat.le_of_ble_eq_true rfl) (fun _ _ => rfl)) fun v1 G1 H1 s1 r1 => ?_
    obtain ⟨pd, rfl, _, gd⟩ := r1
    have gn1 := s1.g _ _ gn
    have lp := plc_len names 0
    refine q_if st0 s1.s (et_or st0 (et_not (et_testV (ev_chain st0 ev_c (ev_cbV (ea_consV (ev_var rfl) ea_nilV) (c_lenL st0 (SqL.of gn1))) (v_le st0) ev_c (v_le st0)))) (fun _ => et_testV (ev_opV (ev_cbV (ea_consV (ev_var rfl) ea_nilV) (c_lenD st0 gd)) (ev_cbV (ea_consV (ev_var rfl) ea_nilV) (c_lenL st0 (SqL.of gn1))) (v_neI st0)))) (fun H2 p2 k2 h2 => ?_) (fun H2 p2 k2 h2 => ?_)
    · refine absurd p2 ?_
      rw [lm, lp]
      simp
      omega
    refine q_end ?_
    have isn : ∀ {nm : Str}, nm ∈ names → okNm nm = true := fun h => T.ok _ h
    refine q_if st0 h2 (et_or st0 (et_not (et_B (b := true) (ev_cb (ea_cons (ev_lcVL (f := fun _ => .bl true) st0 (ev_var rfl) (SqL.of gn1) (by omega) (fun _ => rfl) fun j y G' hy s' => ?_) ea_nil) fun us G' s' e => ?_))) (fun _ => et_or st0 (et_testV (ev_opV (ev_var rfl) (ev_var rfl) (v_inD (neg := true) (key := .inr never) st0 gd))) (fun _ => et_testV (ev_opV (ev_var rfl) (ev_var rfl) (v_inD (neg := true) (key := .inr still) st0 gd))))) (fun H3 p3 k3 h3 => ?_) (fun H3 p3 k3 h3 => ?_)
    · obtain ⟨hj, rfl⟩ := map_get hy
      exact ev_eq (congrArg V.bl (isn (List.getElem_mem hj))) (ev_callV st0 (ea_consV (ev_var rfl) ea_nilV) fun G6 s6 => ⟨_, rfl, by have := okNm_len (isn (List.getElem_mem hj)); omega, rfl⟩)
    · obtain ⟨_, _, rfl, ⟨p, rfl, _, g⟩, e2⟩ := e
      obtain rfl := (show _ = _ from e2)
      have e3 : ((names.map V.str).map fun _ => true).all id = true := by
        rw [List.all_eq_true]
        intro b hb
        obtain ⟨_, _, rfl⟩ := List.mem_map.mp hb
        rfl
      rw [← e3]
      exact c_all st0 (SqL.of (by rw [g, List.map_map, List.map_map, List.map_map]; rfl))
    · refine absurd p3 ?_
      rw [plc_some T.nd (idx_get T.nv), plc_some T.nd (idx_get T.sl)]
      simp
    refine q_end ?_
    refine q_fldO h3 (ev_callV (R := fun v G' => ∃ p, v = .ref p ∧ TabI names G' p joins) (ws := [.ref pd, .ref pj]) st0 (ea_consV (ev_var rfl) (ea_consV (ev_var rfl) ea_nilV)) fun G' s' => ⟨pd, pj, names, joins, rfl, s' _ _ gd, T.nd, by omega, tj.mono (s1.g.trans s'), T.jl, T.jr, rfl⟩) rfl hC (hN _ (by decide)) (by decide) fun v4 G4 H4 s4 h4 r4 => ?_
    obtain ⟨p4, rfl, t4⟩ := r4
    generalize e4 : putF ("written_joins" : Str) (.ref p4) [] = f4 at h4
    have z4 : f4.length ≤ 1 := by rw [← e4]; exact putF_len _ _ _
    have st4 := stabO G H x (.ins C' dx f4)
    have gd4 := s4 _ _ gd
    refine q_fldO h4 (ev_callV (R := fun v G' => ∃ p, v = .ref p ∧ TabI names G' p products) (ws := [.ref pd, .ref pp]) st4 (ea_consV (ev_var rfl) (ea_consV (ev_var rfl) ea_nilV)) fun G' s' => ⟨pd, pp, names, products, rfl, s' _ _ gd4, T.nd, by omega, tp.mono ((s1.g.trans s4).trans s'), T.pl, T.pr, rfl⟩) rfl hC (hN _ (by decide)) (by omega) fun v5 G5 H5 s5 h5 r5 => ?_
    obtain ⟨p5, rfl, t5⟩ := r5
    generalize e5 : putF ("written_products" : Str) (.ref p5) f4 = f5 at h5
    have z5 : f5.length ≤ 2 := by rw [← e5]; exact Nat.le_trans (putF_len _ _ _) (by omega)
    have on4 : f5.lookup ("written_joins" : Str) = some (.ref p4) := by rw [← e5, lk_ne (by decide +kernel), ← e4]; exact lk_eq
    have on5 : f5.lookup ("written_products" : Str) = some (.ref p5) := by rw [← e5]; exact lk_eq
    have off5 : ∀ f, f ≠ ("written_joins" : Str) → f ≠ ("written_products" : Str) → f5.lookup f = none := fun f a b => by rw [← e5, lk_ne b, ← e4, lk_ne a]; rfl
    have st5 := stabO G H x (.ins C' dx f5)
    have s15 := (s1.g.trans s4).trans s5
    have gn5 := s15 _ _ gn
    have nj := names_join T.ok l2
    have jj := joinR_len T.ok l2 T.jl T.jr
    have jp := joinR_len T.ok l2 T.pl T.pr
    have hsz : (100000 : Nat) ≤ sizeLine := by decide
    have w1 : (" " : Str).length = 1 := by decide +kernel
    have ln := okNm_len (T.ok _ T.nv)
    have ls := okNm_len (T.ok _ T.sl)
    have ee : ∀ z : Str, Str.empty ++ z = z := Str.empty_append
    refine q_newX (R := fun s : Str => IsV (.str s)) (ss := [Txt.join (" " : Str) names, never ++ (" " : Str) ++ still]) st5 h5 (ea_cons (ev_join st5 ev_c ((ev_var rfl).imp fun v G' s' e => ⟨pn, e, SqL.of (s' _ _ gn5)⟩) (by rw [w1]; exact nj.1)) (ea_cons (ev_joined (ej_cons (ev_fmtS (ev_var rfl) (by omega)) (by rw [ee]; omega) (ej_cons ev_c (by rw [ee, Str.length_append]; omega) (ej_cons (ev_fmtS (ev_var rfl) (by omega)) (by rw [ee, Str.length_append, Str.length_append]; omega) (by rw [ee]; exact ej_nil))))) ea_nil)) (by simp) fun D G6 H6 J s6 hD hJ => ?_
    obtain ⟨G7, g7, s7, mv⟩ := hJ.step2 st5 s6.s hD
    have old : ∀ {b : Addr} {o : HO} {G' : Hp}, G b = some o → Same G6 G' → G' b = some o := fun e s' => s' _ _ (s6.g _ _ (s15 _ _ e))
    have rowsJ : ∀ {rows : List (List Str)} {pt : Addr} {G' : Hp} {n : Nat} {σ : L2.St}, TabS G pt rows → (∀ r ∈ rows, (r.map (·.length)).sum + r.length * 1 ≤ 208 ∧ (Txt.join (" " : Str) r).length ≤ 208) → rows.length ≤ 16 → ((rows.map fun r => Txt.join (" " : Str) r).map (·.length)).sum + (rows.map fun r => Txt.join (" " : Str) r).length * 1 ≤ 16777216 → Same G6 G' →
        σ = [some (.ref x), some (.ref pn), some (.ref pj), some (.ref pp), some (.str never), some (.str still), some (.ref pd), some (.ref D), some (.ref pt), none, none, none, none] →
        Ev (Own G H x (.ins C' dx f5)) n (0 + 0) (tM1 (rJoinK K) (tC (.str (" " : Str))) (tLc (iList K (tVar 8)) (gName 12) tYes (tM1 (rJoinK K) (tC (.str (" " : Str))) (tVar 12)) [12])) σ G' (IsV (.str (joinR rows))) := fun {rows pt G' n σ} ht hl h16 hs' s' eσ => by
      subst eσ
      obtain ⟨vs, hp, rl⟩ := ht
      have lv := rl_len rl
      refine ev_join st5 ev_c ((ev_lcG (R := fun r : List Str => IsV (.str (Txt.join (" " : Str) r))) (ss := rows) (σf := fun j => [some (.ref x), some (.ref pn), some (.ref pj), some (.ref pp), some (.str never), some (.str still), some (.ref pd), some (.ref D), some (.ref pt), none, none, none, vs[j]?]) st5 (ev_var rfl) (SqL.of (old hp s')) lv (by omega) (fun j y G'' J'' hy s'' t'' Qs q' => ?_) (fun _ => rfl) (fun j y r G'' hy hr s'' => ?_)).imp fun v G'' s'' ⟨p, ys, e, _, g, rl'⟩ => ?_) (by rw [w1]; exact hs')
      · rw [hy] at q'
        exact q'
      · show Ev _ _ _ _ [some (.ref x), some (.ref pn), some (.ref pj), some (.ref pp), some (.str never), some (.str still), some (.ref pd), some (.ref D), some (.ref pt), none, none, none, vs[j]?] _ _
        rw [hy]
        obtain ⟨u, hu, pr, rfl, hpr⟩ := rl_get rl hr
        rw [hu] at hy
        obtain rfl := Option.some.inj hy
        exact ev_join st5 ev_c ((ev_var rfl).imp fun v G3 s3 e => ⟨pr, e, SqL.of (s3 _ _ (s'' _ _ (old hpr s')))⟩) (by rw [w1]; have := (hl r (List.mem_of_getElem? hr)).1; omega)
      · rw [rl_vals rl'] at g
        exact ⟨p, e, SqL.of (by rw [g, List.map_map]; rfl)⟩
    refine q_forIX (RA := IsVs [.ref pj, .ref pp]) st5 s7 ((ev_lstN st5 (ea_consV (ev_var rfl) (ea_consV (ev_var rfl) ea_nilV)) (by simp)).imp fun v G' s' ⟨p, e, _, g⟩ => ⟨p, _, e, g, rfl⟩)
      (fun q j τ J => (∃ a, τ = [some (.ref x), some (.ref pn), some (.ref pj), some (.ref pp), some (.str never), some (.str still), some (.ref pd), some (.ref D), a, none, none, none, none]) ∧ LcQ (Own G H x (.ins C' dx f5)) G6 H6 0 D (fun s : Str => IsV (.str s)) ([Txt.join (" " : Str) names, never ++ (" " : Str) ++ still] ++ [joinR joins, joinR products].take j) J ∧ J q = some (.lst [.ref pj, .ref pp]) ∧ q ≠ D) fun q0 xs G8 H8 s8 gq ex => ?_
    obtain rfl := (show xs = _ from ex)
    refine ⟨fun j τ J hp => SqL.of hp.2.2.1, ⟨⟨_, rfl⟩, (mv s8).1, st5.sub s8.s _ _ gq, fun e => by rw [e, (mv s8).2] at gq; cases gq⟩, fun j y σ' J hy hp => ?_, fun σ' J hp => ?_⟩
    · obtain ⟨⟨a, rfl⟩, hq, hJq, hne⟩ := hp
      rcases j with _ | _ | j
      · cases hy
        show tSeq _ _ (Ends.mk _ _ _ _) [some (.ref x), some (.ref pn), some (.ref pj), some (.ref pp), some (.str never), some (.str still), some (.ref pd), some (.ref D), some (.ref pj), none, none, none, none] _
        exact q_appX2 st5 s6.s hD hq (x := joinR joins) (by simp) rfl (fun G' g' => ea_cons (rowsJ tj (rows_len T.ok l2 T.jl T.jr) (by rw [T.jl]; exact l2) jj.1 g' rfl) ea_nil) fun J' h' kp => q_end ⟨⟨_, rfl⟩, h', kp _ _ (fun z => z) hne hJq, hne⟩
      · cases hy
        show tSeq _ _ (Ends.mk _ _ _ _) [some (.ref x), some (.ref pn), some (.ref pj), some (.ref pp), some (.str never), some (.str still), some (.ref pd), some (.ref D), some (.ref pp), none, none, none, none] _
        exact q_appX2 st5 s6.s hD hq (x := joinR products) (by simp) rfl (fun G' g' => ea_cons (rowsJ tp (rows_len T.ok l2 T.pl T.pr) (by rw [T.pl]; exact l2) jp.1 g' rfl) ea_nil) fun J' h' kp => q_end ⟨⟨_, rfl⟩, h', kp _ _ (fun z => z) hne hJq, hne⟩
      · simp at hy
    · obtain ⟨⟨a, rfl⟩, hq, _, _⟩ := hp
      obtain ⟨G9, s9, r9⟩ := hq.pub st5 s6.s (Nat.le_refl _) hD
      obtain ⟨p9, ys, e, _, g9, rl9⟩ := r9
      obtain rfl : D = p9 := by cases e; rfl
      rw [rl_vals (g := V.str) rl9] at g9
      have ix : ∀ {n j : Nat} {z : Str} {σ : L2.St}, σ[7]? = some (some (.ref D)) → [Txt.join (" " : Str) names, never ++ (" " : Str) ++ still, joinR joins, joinR products][j]? = some z → Ev (Own G H x (.ins C' dx f5)) n (0 + 0) (tOp (rIxA K) (tVar 7) (tC (.int (j : Nat)))) σ G9 (IsV (.str z)) := fun hv hz => ev_opV (ev_var hv) ev_c (v_ixL st5 (SqL.of g9) (atI_nat (by
        show (List.map V.str [Txt.join (" " : Str) names, never ++ (" " : Str) ++ still, joinR joins, joinR products])[_]? = _
        rw [List.getElem?_map, hz]
        rfl)))
      have c1 : ("(table (" : Str).length = 8 ∧ (") " : Str).length = 2 ∧ (" (" : Str).length = 2 ∧ (") (" : Str).length = 3 ∧ ("))" : Str).length = 2 := by decide +kernel
      have la : ∀ a b : Str, (a ++ b).length = a.length + b.length := Str.length_append
      refine q_setV st5 s9.s (x := .str (tbLab names never still joins products)) (ev_joined (ej_cons ev_c (by rw [ee]; omega) (ej_cons (ev_fmtS (ix (j := 0) rfl rfl) (by omega)) (by simp only [ee, la]; omega) (ej_cons ev_c (by simp only [ee, la]; omega) (ej_cons (ev_fmtS (ix (j := 1) rfl rfl) (by simp only [la]; omega)) (by simp only [ee, la]; omega)
        (ej_cons ev_c (by simp only [ee, la]; omega) (ej_cons (ev_fmtS (ix (j := 2) rfl rfl) (by omega)) (by simp only [ee, la]; omega) (ej_cons ev_c (by simp only [ee, la]; omega) (ej_cons (ev_fmtS (ix (j := 3) rfl rfl) (by omega)) (by simp only [ee, la]; omega) (ej_cons ev_c (by simp only [ee, la]; omega) (by rw [ee]; exact ej_nil))))))))))) fun H10 k10 h10 => ?_
      have s69 := s6.g.trans s9.g
      have gd9 : G9 pd = some (.dK (plc names 0)) := s69 _ _ (s5 _ _ (s4 _ _ gd))
      refine q_supO h10 rfl hm hf (ea_cons (ev_var rfl) (ea_cons (ev_var rfl) (ea_cons (ev_opV (ev_var rfl) (ev_var rfl) (v_ixDs st5 gd9 (plc_some T.nd (idx_get T.nv)))) (ea_cons (ev_opV (ev_var rfl) (ev_var rfl) (v_ixDs st5 gd9 (plc_some T.nd (idx_get T.sl)))) ea_nil))))
        (RO := fun _ _ fs' G' => ScIs (tbLab names never still joins products) names (names.idxOf never : Nat) (names.idxOf still : Nat) 1 (idxT names products) (idxT names joins) fs' G' ∧ (∀ f, f ∉ scF → fs'.lookup f = f5.lookup f) ∧ fs'.length ≤ f5.length + 9) (fun vs G2 s2 r2 => ?_) (fun f6 G11 H11 s11 h11 r11 => ?_)
      · obtain ⟨_, _, rfl, a1, _, _, rfl, a2, _, _, rfl, a3, _, _, rfl, a4, a5⟩ := r2
        obtain rfl := (show _ = _ from a1)
        obtain rfl := (show _ = _ from a2)
        obtain rfl := (show _ = _ from a3)
        obtain rfl := (show _ = _ from a4)
        obtain rfl := (show _ = _ from a5)
        have sGs : Same G5 G2 := s69.trans s2
        refine ⟨rfl, tbLab names never still joins products, pn, names, (names.idxOf never : Nat), (names.idxOf still : Nat), 1, idxT names products, idxT names joins, by rw [Nat.zero_add, Nat.zero_add]; rfl, SqL.of (s2 _ _ (old gn s9.g)), by omega, T.nd, by omega, off5 _ (by decide +kernel) (by decide +kernel), off5 _ (by decide +kernel) (by decide +kernel), fun y dy fs' G' s3 hy hfs a b ha hb => ?_, rfl⟩
        have w4 := (hfs ("written_joins" : Str) (by decide +kernel)).trans on4
        have w5 := (hfs ("written_products" : Str) (by decide +kernel)).trans on5
        exact ⟨⟨y, dy, p5, fs', names, products, a, b, rfl, hy, w5, t5.mono (sGs.trans s3), by rw [T.pl]; exact ha, fun r hr => by rw [(T.pr r hr).1]; exact hb, rfl⟩, ⟨y, dy, p4, fs', names, joins, a, b, rfl, hy, w4, t4.mono ((s5.trans sGs).trans s3), by rw [T.jl]; exact ha, fun r hr => by rw [(T.jr r hr).1]; exact hb, rfl⟩⟩
      · exact q_end (q f6 _ _ (own_n h11) ⟨r11.1, fun f hf h1 => (r11.2.1 f hf).trans (off5 f (fun e => h1 (by rw [e]; decide)) (fun e => h1 (by rw [e]; decide)))⟩)
abbrev s_depth_above : Stmt := top 22
theorem sc_depth_above : FnScope ["size", "inner", "depth", "scale"] ["size", "inner"] (defScope s_depth_above) := ⟨rfl, rfl, rfl, by decide +kernel, rfl, by decide +kernel, by decide +kernel⟩
abbrev s_half_places : Stmt := top 24
theorem sc_half_places : FnScope ["place", "many"] ["place", "many"] (defScope s_half_places) := ⟨rfl, rfl, rfl, by decide +kernel, rfl, by decide +kernel, by decide +kernel⟩
abbrev s_PairScale___init__ : Stmt := inClass (top 23) 0
theorem sc_PairScale___init__ : ScS ["self", "left", "right", "depth", "pairs", "names", "never", "still", "a", "b"] ["self", "left", "right"] (defScope s_PairScale___init__) := ⟨rfl, rfl, rfl, by decide +kernel, rfl, by decide +kernel, by decide +kernel, rfl, by decide +kernel, rfl⟩
abbrev s_PairScale_make_then : Stmt := inClass (top 23) 1
theorem sc_PairScale_make_then : FnScope ["self", "first", "second", "a", "b", "c", "d"] ["self", "first", "second"] (defScope s_PairScale_make_then) := ⟨rfl, rfl, rfl, by decide +kernel, rfl, by decide +kernel, by decide +kernel⟩
abbrev s_PairScale_make_join : Stmt := inClass (top 23) 2
theorem sc_PairScale_make_join : FnScope ["self", "first", "second", "a", "b", "c", "d"] ["self", "first", "second"] (defScope s_PairScale_make_join) := ⟨rfl, rfl, rfl, by decide +kernel, rfl, by decide +kernel, by decide +kernel⟩
abbrev s_TurnedScale___init__ : Stmt := inClass (top 25) 0
theorem sc_TurnedScale___init__ : ScS ["self", "inner", "depth", "names", "place"] ["self", "inner"] (defScope s_TurnedScale___init__) := ⟨rfl, rfl, rfl, by decide +kernel, rfl, by decide +kernel, by decide +kernel, rfl, by decide +kernel, rfl⟩
abbrev s_TurnedScale_make_then : Stmt := inClass (top 25) 1
theorem sc_TurnedScale_make_then : FnScope ["self", "first", "second"] ["self", "first", "second"] (defScope s_TurnedScale_make_then) := ⟨rfl, rfl, rfl, by decide +kernel, rfl, by decide +kernel, by decide +kernel⟩
abbrev s_TurnedScale_make_join : Stmt := inClass (top 25) 2
theorem sc_TurnedScale_make_join : FnScope ["self", "first", "second"] ["self", "first", "second"] (defScope s_TurnedScale_make_join) := ⟨rfl, rfl, rfl, by decide +kernel, rfl, by decide +kernel, by decide +kernel⟩
theorem ok_depth_above {Cs : List Addr} {tM tD : Tok} (Z : Bi mg) (g_MOST_WORTHS : mg "MOST_WORTHS" = some (.int 64 tM)) (g_DEEPEST : mg "DEEPEST" = some (.int 10 tD)) {f : Addr} {fd : FuncData} (F : Fun K "depth_above" "depth_above" s_depth_above f fd) (hm : mg "depth_above" = some (.ref f)) (hk : PySem.W.keepIn K (.ref f) = true) :
    CalleeR P w K mg base "depth_above" CX0 2 (spP (PDepC K Cs)) := by
  refine ⟨f, hm, hk, (okStar (ps := ["size"]) (pv := "inner") (k := 1) (sp0 := spP (PDep K Cs)) F sc_depth_above (fun kV doc pm an cdv ct => StX.bind_star1 (p1 := "size") (pv := "inner") (B := fun us => bindArgs (PySem.W.fnOf "depth_above" "depth_above" (defArgs s_depth_above) (defBody s_depth_above) (defScope s_depth_above) .none kV doc pm an cdv ct) ⟨us, []⟩) (fun a => rfl) (fun a r rs => rfl)) (fun cdv A outer s H vs Q E hr h => ?_)).imp fun vs H Q E h => ?_⟩
  · obtain ⟨G, R, hs, ⟨size, p, xs, ds, rfl, hp, rl, hz, hd, rfl⟩, q⟩ := h
    refine ⟨_, (pss_cons (ps_set (i := 2) sc_depth_above.nd rfl (Or.inl rfl) pe_int)
  (pss_cons (ps_for PassesOwn.never rfl (pi_tupK K (pv 1)) (pg_name (i := 3) sc_depth_above.nd rfl (Or.inl rfl)) (pss_cons (ps_if (pt_cmpR op_geA (pe_fldK K (pv 3)) (pv 2) (nomark _)) (pss_cons (ps_set (i := 2) sc_depth_above.nd rfl (Or.inl rfl) (pe_op op_addA (pe_fldK K (pv 3)) pe_int))
  pss_nil) pss_nil)
  pss_nil))
  (pss_cons (ps_if (PW.pt (pw_or (pt_cmpR op_gtA (pv 0) (pe_glob (v := .int 64) rfl g_MOST_WORTHS ⟨_, rfl⟩) (nomark _)) (pw_or1 (pt_cmpR op_gtA (pv 2) (pe_glob (v := .int 10) rfl g_DEEPEST ⟨_, rfl⟩) (nomark _))))) (pss_cons ps_never
  pss_nil) pss_nil)
  (pss_cons (ps_ret (pv 2))
  pss_nil)))), ?_⟩
    have st := stab0 G H
    have h0 : SP0 G H 0 G H := Grow.refl hs
    show tSeq _ _ (Ends.mk _ _ _ _) [some _, some _, none, none] _
    refine q_setV st h0 ev_c fun H1 k1 h1 => ?_
    have lx := rl_len rl
    refine q_forPT st h1 (ev_var rfl) (SqT.of hp) (fun j σ' => ∃ a, σ' = [some (.int size), some (.ref p), some (.int (depL (ds.take j))), a]) ⟨_, rfl⟩ (fun j y σ' J hy hp' s2 => ?_) (fun σ' J hp' s2 => ?_)
    · obtain ⟨a, rfl⟩ := hp'
      have hj : j < ds.length := by
        have := (List.getElem?_eq_some_iff.mp hy).1
        omega
      obtain ⟨u, hu, x, rfl, hx⟩ := rl_get rl (List.getElem?_eq_getElem hj)
      rw [hu] at hy
      obtain rfl := Option.some.inj hy
      have e : depL (ds.take (j + 1)) = if (ds[j]).dep ≥ depL (ds.take j) then (ds[j]).dep + 1 else depL (ds.take j) := by
        unfold depL
        rw [List.take_succ_eq_append_getElem hj, List.foldl_append]
        rfl
      rw [e]
      generalize depL (ds.take j) = acc
      show tSeq _ _ (Ends.mk _ _ _ _) [some (.int size), some (.ref p), some (.int acc), some (.ref x)] _
      have fd := fun {n : Nat} {σ : L2.St} (e : σ[3]? = some (some (.ref x))) => (ev_sF (K := K) (n := n) st hx (ev_var e)).2.2.2.2
      refine q_if st s2.s (et_testV (ev_opV (fd rfl) (ev_var rfl) (v_ge st))) (fun H3 p3 k3 h3 => ?_) (fun H3 p3 k3 h3 => ?_)
      · have p3 : (ds[j]).dep ≥ acc := by simpa using p3
        refine q_setV st h3 (ev_opV (fd rfl) ev_c (v_add st)) fun H4 k4 h4 => q_end (q_end ⟨⟨_, by rw [if_pos p3]; rfl⟩, (s2.go k3 h3).go k4 h4⟩)
      · have p3 : ¬ (ds[j]).dep ≥ acc := by simpa using p3
        exact q_end (q_end ⟨⟨_, by rw [if_neg p3]⟩, s2.go k3 h3⟩)
    · obtain ⟨a, rfl⟩ := hp'
      rw [lx, List.take_length]
      refine q_if st s2.s (et_or st (et_testV (ev_opV (ev_var rfl) ev_c (v_gt st))) (fun _ => et_testV (ev_opV (ev_var rfl) ev_c (v_gt st)))) (fun H3 p3 k3 h3 => ?_) (fun H3 p3 k3 h3 => ?_)
      · refine absurd p3 ?_
        simp
        omega
      · refine q_end ?_
        exact q_retV st h3 (ev_var rfl) fun H4 k4 h4 => q _ _ _ h4 rfl
  · obtain ⟨G, R, hs, ⟨size, xs, ds, rfl, hl, rl, hz, hd, rfl⟩, q⟩ := h
    refine ⟨[.int size], xs, rfl, rfl, Nat.le_trans hl (by decide), fun p hp => ?_⟩
    have g := Grow.new hs hp (.tup xs)
    exact ⟨_, _, g.s, ⟨size, p, xs, ds, rfl, upd_same, rl_mon g.g rl, hz, hd, rfl⟩, fun v G' H' g' r => q v G' H' (g.trans g') r⟩
theorem ok_half {f : Addr} {fd : FuncData} (F : Fun K "half_places" "half_places" s_half_places f fd) : FnOk P w K mg base CX0 1 f fd ["place", "many"] (spP PHalf) := by
  refine F.ok sc_half_places (fun vs H Q E h => ?_) (fun cdv A outer s H vs Q E hr h => ?_)
  · obtain ⟨_, _, _, ⟨_, _, rfl, _⟩, _⟩ := h
    rfl
  · obtain ⟨G, R, hs, ⟨a, n, rfl, hn, hn2, rfl⟩, q⟩ := h
    refine ⟨_, (pss_cons (ps_ret (pe_tup (pa_cons (pe_op op_divA (pv 0) (pv 1)) (pa_cons (pe_op op_modA (pv 0) (pv 1)) pa_nil))))
  pss_nil), ?_⟩
    have st := stab0 G H
    have h0 : SP0 G H 0 G H := Grow.refl hs
    show tSeq _ _ (Ends.mk _ _ _ _) [some _, some _] _
    refine q_ret h0 (ev_tupN st (vs := [.int ((a / n : Nat)), .int ((a % n : Nat))]) (ea_consV (ev_eq (congrArg V.int (Int.natCast_ediv a n).symm) (ev_opV (ev_var rfl) (ev_var rfl) (v_div st ⟨by omega, by omega⟩))) (ea_consV (ev_eq (congrArg V.int (Int.natCast_emod a n).symm) (ev_opV (ev_var rfl) (ev_var rfl) (v_mod st (by omega)))) ea_nilV)) (by simp)) fun v G1 H1 s1 r1 => q _ _ _ s1.s ?_
    obtain ⟨p, rfl, _, g⟩ := r1
    exact ⟨p, rfl, g⟩
theorem ok_pair_m {Cs : List Addr} {C : Addr} {m : Str} {pk : SD → Nat → Nat → Int} {sel : (Nat → Nat → Int) → (Nat → Nat → Int) → Nat → Nat → Int} (hC : Cls K C) (hl : NoAttr K C "left") (hr : NoAttr K C "right") (hm : m ∈ metF)
    (hpk : ∀ d1 d2 a b, pk (pairSD d1 d2) a b = sel d1.th d1.jn (a / d2.names.length) (b / d2.names.length) * d2.names.length + sel d2.th d2.jn (a % d2.names.length) (b % d2.names.length))
    (hb : ∀ (d : SD), SdOk d → ∀ a b, a < d.names.length → b < d.names.length → 0 ≤ sel d.th d.jn a b ∧ sel d.th d.jn a b < d.names.length)
    {G H : Hp} {nx bk ct : L2.St → Hp → Prop} {Q : VK} {x dx l r : Addr} {fs : List (Str × V)} {d1 d2 : SD} {a b : Nat} (hx : G x = some (.ins C dx fs)) (fl : fs.lookup ("left" : Str) = some (.ref l)) (fr : fs.lookup ("right" : Str) = some (.ref r)) (h1 : ScD K Cs d1 l G) (h2 : ScD K Cs d2 r G) (o1 : SdOk d1) (o2 : SdOk d2)
    (ha : a < d1.names.length * d2.names.length) (hbb : b < d1.names.length * d2.names.length) (h0 : SP0 G H 0 G H) (hQ : ∀ G' H', SP0 G H 0 G' H' → Q (.int (pk (pairSD d1 d2) a b)) H') :
    tSeq (tAsg (tCall (spP PHalf) [] E0 (tCons (tVar 1) (tCons (tFld K (tFld K (tVar 0) "right") "size") tNil))) (gTup K 2 (gCons (gName 3) (gCons (gName 4) gNil))))
      (tSeq (tAsg (tCall (spP PHalf) [] E0 (tCons (tVar 2) (tCons (tFld K (tFld K (tVar 0) "right") "size") tNil))) (gTup K 2 (gCons (gName 5) (gCons (gName 6) gNil))))
        (tSeq (tRet (tOp rAddA (tOp rMul (tMethA Cs m (spP (PAt K fun th jn a b => .int (sel th jn a b))) [] E0 (tFld K (tVar 0) "left") (tCons (tVar 3) (tCons (tVar 5) tNil))) (tFld K (tFld K (tVar 0) "right") "size")) (tMethA Cs m (spP (PAt K fun th jn a b => .int (sel th jn a b))) [] E0 (tFld K (tVar 0) "right") (tCons (tVar 4) (tCons (tVar 6) tNil))))) tNext))
      (Ends.mk nx Q bk ct) [some (.ref x), some (.int (a : Nat)), some (.int (b : Nat)), none, none, none, none] H := by
  have st := stab0 G H
  have n2 : 0 < d2.names.length := o2.l1
  have a1 : ∀ {c : Nat}, c < d1.names.length * d2.names.length → c / d2.names.length < d1.names.length := fun h => Nat.div_lt_of_lt_mul (by rw [Nat.mul_comm]; exact h)
  have a2 : ∀ {c : Nat}, c % d2.names.length < d2.names.length := Nat.mod_lt _ n2
  have l2 := o2.l2
  have sz : ∀ {n : Nat} {σ : L2.St} {G' : Hp}, Same G G' → σ[0]? = some (some (.ref x)) → Ev (SP0 G H) n 0 (tFld K (tFld K (tVar 0) "right") "size") σ G' (IsV (.int (d2.names.length : Nat))) := fun s e => (ev_sF st (h2.mono s) (ev_fld st (ev_var e) (s _ _ hx) hC hr fr)).1
  refine q_asg2 st h0 (ev_callV (ws := [.int (a : Nat), .int (d2.names.length : Nat)]) st (ea_consV (ev_var rfl) (ea_consV (sz (Same.refl _) rfl) ea_nilV)) fun G' s' => ⟨a, _, rfl, n2, by omega, rfl⟩) fun G1 H1 s1 => ?_
  refine q_asg2 st s1.s (ev_callV (ws := [.int (b : Nat), .int (d2.names.length : Nat)]) st (ea_consV (ev_var rfl) (ea_consV (sz s1.g rfl) ea_nilV)) fun G' s' => ⟨b, _, rfl, n2, by omega, rfl⟩) fun G2 H2 s2 => ?_
  have s12 := s1.g.trans s2.g
  have v1 := hb d1 o1 _ _ (a1 ha) (a1 hbb)
  have l1 := o1.l2
  refine q_retV st s2.s (ev_opV (ev_opV (ev_sAt (pk := fun th jn a b => .int (sel th jn a b)) st (h1.mono s12) hm (ev_fld st (ev_var rfl) (s12 _ _ hx) hC hl fl) (ea_consV (ev_var rfl) (ea_consV (ev_var rfl) ea_nilV)) (a1 ha) (a1 hbb)) (sz s12 rfl) (v_mul st (.inl ⟨by omega, by omega⟩))) (ev_sAt (pk := fun th jn a b => .int (sel th jn a b)) st (h2.mono s12) hm (ev_fld st (ev_var rfl) (s12 _ _ hx) hC hr fr) (ea_consV (ev_var rfl) (ea_consV (ev_var rfl) ea_nilV)) a2 a2) (v_add st)) fun H3 k3 h3 => ?_
  have z := hQ _ _ h3
  rw [hpk] at z
  exact z
theorem ok_pair_then {Cs : List Addr} {C : Addr} (hC : Cls K C) (hl : NoAttr K C "left") (hri : NoAttr K C "right") (c_half_places : Callee P w K mg base "half_places" CX0 1 ["place", "many"] [] (spP PHalf)) (c_then_at : ∀ C ∈ Cs, Method P w K mg base C "then_at" CX0 1 ["self", "first", "second"] [] (spP (PAt K fun th _ a b => .int (th a b))))
    {f : Addr} {fd : FuncData} (F : Fun K "make_then" "PairScale.make_then" s_PairScale_make_then f fd) : FnOk P w K mg base CX0 5 f fd ["self", "first", "second"] (spP (PPrM K Cs C SD.th)) := by
  refine F.ok sc_PairScale_make_then (fun vs H Q E h => ?_) (fun cdv A outer s H vs Q E hr h => ?_)
  · obtain ⟨G, R, _, ⟨_, _, _, _, _, _, _, _, _, rfl, _⟩, _⟩ := h
    rfl
  · obtain ⟨G, R, hs, ⟨x, dx, l, r, fs, d1, d2, a, b, rfl, hx, fl, fr, h1, h2, o1, o2, ha, hb, rfl⟩, q⟩ := h
    refine ⟨_, (pss_cons (ps_asg (pe_callC c_half_places (hr.mono (by decide)) pass0 (pa_cons (pv 1) (pa_cons (pe_fldK K (pe_fldK K (pv 0))) pa_nil))) (pg_tup rfl (pgs_cons (pg_name (i := 3) sc_PairScale_make_then.nd rfl (Or.inl rfl)) (pgs_cons (pg_name (i := 4) sc_PairScale_make_then.nd rfl (Or.inl rfl)) pgs_nil))))
  (pss_cons (ps_asg (pe_callC c_half_places (hr.mono (by decide)) pass0 (pa_cons (pv 2) (pa_cons (pe_fldK K (pe_fldK K (pv 0))) pa_nil))) (pg_tup rfl (pgs_cons (pg_name (i := 5) sc_PairScale_make_then.nd rfl (Or.inl rfl)) (pgs_cons (pg_name (i := 6) sc_PairScale_make_then.nd rfl (Or.inl rfl)) pgs_nil))))
  (pss_cons (ps_ret (pe_op op_addA (pe_op op_mulA (pe_methA c_then_at (hr.mono (by decide)) pass0 (pe_fldK K (pv 0)) (pa_cons (pv 3) (pa_cons (pv 5) pa_nil))) (pe_fldK K (pe_fldK K (pv 0)))) (pe_methA c_then_at (hr.mono (by decide)) pass0 (pe_fldK K (pv 0)) (pa_cons (pv 4) (pa_cons (pv 6) pa_nil)))))
  pss_nil))), ?_⟩
    have h0 : SP0 G H 0 G H := Grow.refl hs
    exact ok_pair_m (sel := fun th _ => th) (pk := SD.th) hC hl hri (by decide) (fun _ _ _ _ => rfl) (fun d o => o.th) hx fl fr h1 h2 o1 o2 ha hb h0 fun G' H' s => q _ _ _ s rfl
theorem ok_pair_join {Cs : List Addr} {C : Addr} (hC : Cls K C) (hl : NoAttr K C "left") (hri : NoAttr K C "right") (c_half_places : Callee P w K mg base "half_places" CX0 1 ["place", "many"] [] (spP PHalf)) (c_join_at : ∀ C ∈ Cs, Method P w K mg base C "join_at" CX0 1 ["self", "first", "second"] [] (spP (PAt K fun _ jn a b => .int (jn a b))))
    {f : Addr} {fd : FuncData} (F : Fun K "make_join" "PairScale.make_join" s_PairScale_make_join f fd) : FnOk P w K mg base CX0 5 f fd ["self", "first", "second"] (spP (PPrM K Cs C SD.jn)) := by
  refine F.ok sc_PairScale_make_join (fun vs H Q E h => ?_) (fun cdv A outer s H vs Q E hr h => ?_)
  · obtain ⟨G, R, _, ⟨_, _, _, _, _, _, _, _, _, rfl, _⟩, _⟩ := h
    rfl
  · obtain ⟨G, R, hs, ⟨x, dx, l, r, fs, d1, d2, a, b, rfl, hx, fl, fr, h1, h2, o1, o2, ha, hb, rfl⟩, q⟩ := h
    refine ⟨_, (pss_cons (ps_asg (pe_callC c_half_places (hr.mono (by decide)) pass0 (pa_cons (pv 1) (pa_cons (pe_fldK K (pe_fldK K (pv 0))) pa_nil))) (pg_tup rfl (pgs_cons (pg_name (i := 3) sc_PairScale_make_join.nd rfl (Or.inl rfl)) (pgs_cons (pg_name (i := 4) sc_PairScale_make_join.nd rfl (Or.inl rfl)) pgs_nil))))
  (pss_cons (ps_asg (pe_callC c_half_places (hr.mono (by decide)) pass0 (pa_cons (pv 2) (pa_cons (pe_fldK K (pe_fldK K (pv 0))) pa_nil))) (pg_tup rfl (pgs_cons (pg_name (i := 5) sc_PairScale_make_join.nd rfl (Or.inl rfl)) (pgs_cons (pg_name (i := 6) sc_PairScale_make_join.nd rfl (Or.inl rfl)) pgs_nil))))
  (pss_cons (ps_ret (pe_op op_addA (pe_op op_mulA (pe_methA c_join_at (hr.mono (by decide)) pass0 (pe_fldK K (pv 0)) (pa_cons (pv 3) (pa_cons (pv 5) pa_nil))) (pe_fldK K (pe_fldK K (pv 0)))) (pe_methA c_join_at (hr.mono (by decide)) pass0 (pe_fldK K (pv 0)) (pa_cons (pv 4) (pa_cons (pv 6) pa_nil)))))
  pss_nil))), ?_⟩
    have h0 : SP0 G H 0 G H := Grow.refl hs
    exact ok_pair_m (sel := fun _ jn => jn) (pk := SD.jn) hC hl hri (by decide) (fun _ _ _ _ => rfl) (fun d o => o.jn) hx fl fr h1 h2 o1 o2 ha hb h0 fun G' H' s => q _ _ _ s rfl
theorem ok_turn_then {Cs : List Addr} {C : Addr} (hC : Cls K C) (hl : NoAttr K C "inner") (c_then_at : ∀ C ∈ Cs, Method P w K mg base C "then_at" CX0 1 ["self", "first", "second"] [] (spP (PAt K fun th _ a b => .int (th a b))))
    {f : Addr} {fd : FuncData} (F : Fun K "make_then" "TurnedScale.make_then" s_TurnedScale_make_then f fd) : FnOk P w K mg base CX0 5 f fd ["self", "first", "second"] (spP (PTuM K Cs C SD.th)) := by
  refine F.ok sc_TurnedScale_make_then (fun vs H Q E h => ?_) (fun cdv A outer s H vs Q E hr h => ?_)
  · obtain ⟨G, R, _, ⟨_, _, _, _, _, _, _, rfl, _⟩, _⟩ := h
    rfl
  · obtain ⟨G, R, hs, ⟨x, dx, l, fs, d, a, b, rfl, hx, fl, h1, ha, hb, rfl⟩, q⟩ := h
    refine ⟨_, (pss_cons (ps_ret (pe_methA c_then_at (hr.mono (by decide)) pass0 (pe_fldK K (pv 0)) (pa_cons (pv 2) (pa_cons (pv 1) pa_nil))))
  pss_nil), ?_⟩
    have st := stab0 G H
    have h0 : SP0 G H 0 G H := Grow.refl hs
    show tSeq _ _ (Ends.mk _ _ _ _) [some _, some _, some _] _
    exact q_retV st h0 (ev_sAt (pk := fun th _ a b => .int (th a b)) st h1 (by decide) (ev_fld st (ev_var rfl) hx hC hl fl) (ea_consV (ev_var rfl) (ea_consV (ev_var rfl) ea_nilV)) hb ha) fun H1 k1 h1 => q _ _ _ h1 rfl
theorem ok_turn_join {Cs : List Addr} {C : Addr} (hC : Cls K C) (hl : NoAttr K C "inner") (c_join_at : ∀ C ∈ Cs, Method P w K mg base C "join_at" CX0 1 ["self", "first", "second"] [] (spP (PAt K fun _ jn a b => .int (jn a b))))
    {f : Addr} {fd : FuncData} (F : Fun K "make_join" "TurnedScale.make_join" s_TurnedScale_make_join f fd) : FnOk P w K mg base CX0 5 f fd ["self", "first", "second"] (spP (PTuM K Cs C SD.jn)) := by
  refine F.ok sc_TurnedScale_make_join (fun vs H Q E h => ?_) (fun cdv A outer s H vs Q E hr h => ?_)
  · obtain ⟨G, R, _, ⟨_, _, _, _, _, _, _, rfl, _⟩, _⟩ := h
    rfl
  · obtain ⟨G, R, hs, ⟨x, dx, l, fs, d, a, b, rfl, hx, fl, h1, ha, hb, rfl⟩, q⟩ := h
    refine ⟨_, (pss_cons (ps_ret (pe_methA c_join_at (hr.mono (by decide)) pass0 (pe_fldK K (pv 0)) (pa_cons (pv 1) (pa_cons (pv 2) pa_nil))))
  pss_nil), ?_⟩
    have st := stab0 G H
    have h0 : SP0 G H 0 G H := Grow.refl hs
    show tSeq _ _ (Ends.mk _ _ _ _) [some _, some _, some _] _
    exact q_retV st h0 (ev_sAt (pk := fun _ jn a b => .int (jn a b)) st h1 (by decide) (ev_fld st (ev_var rfl) hx hC hl fl) (ea_consV (ev_var rfl) (ea_consV (ev_var rfl) ea_nilV)) ha hb) fun H1 k1 h1 => q _ _ _ h1 rfl
theorem ok_TurnedScale_init {Cs : List Addr} {C fS : Addr} (Z : Bi mg) (hC : Cls K C) (hN : ∀ f ∈ ("inner" : Str) :: scF, NoAttr K C f) (opq : PySem.W.nsIn K cStatics "thirdparty.any" = some none) (top0 : (P.main.scope.names.lookup ("super" : Str)).isSome = false)
    (hm : PySem.W.mroIn K C (.ref C) = some true) (hf : PySem.W.ks_superIn K C C "__init__" = some (some (.ref fS))) (c_super : SupC P w K mg base fS CX0 6 ["self", "label", "names", "never_at", "still_at", "depth"] [] (spI (PScI K C (PTuM K Cs C SD.th) (PTuM K Cs C SD.jn))))
    (c_depth_above : CalleeR P w K mg base "depth_above" CX0 2 (spP (PDepC K Cs))) (c_name_at : ∀ C ∈ Cs, Method P w K mg base C "name_at" CX0 1 ["self", "place"] [] (spP (PName K))) {f : Addr} {fd : FuncData} (F : FunSD P K "__init__" "TurnedScale.__init__" s_TurnedScale___init__ [] [] f fd C) :
    FnOk P w K mg base (L2.CX P w) 10 f fd ["self", "inner"] (spI (PTuI K Cs C)) := by
  refine F.toS.okX sc_TurnedScale___init__ Z.z_super opq top0 rfl rfl (fun vs H Q E h => ?_) (fun cdv cc A outer s H vs Q E hr h SA => ?_)
  · obtain ⟨x, C', dx, fs, rest, G, R, rfl, _, _, _, ⟨_, _, _, _, rfl, _⟩, _⟩ := h
    rfl
  · obtain ⟨x, C', dx, fs, rest, G, R, rfl, hx, hG, gx, ⟨rfl, rfl, l, d, rfl, h1, o, hd, rfl⟩, q⟩ := h
    refine ⟨_, (psa_cons (ps_set (i := 2) sc_TurnedScale___init__.nd rfl (Or.inl rfl) (pe_callRC c_depth_above (hr.mono (by decide)) pass0 (pa_cons (pe_fldK K (pv 1)) (pa_cons (pv 1) pa_nil))))
  (psa_cons (ps_fld (pv 0) (pv 1) rfl)
  (psa_cons (ps_setLc (i := 3) (own := [("place", 4)]) (g := (gName 4)) rfl sc_TurnedScale___init__.nd rfl rfl (sw_true rfl rfl rfl (by decide +kernel)) (pi_range1 (by rfl) Z.z_range (pa_cons (pe_fldK K (pv 1)) pa_nil)) (blkOk_by (by kernel_rfl)) (fun _ _ _ _ _ => (pg_name (i := 4) sc_TurnedScale___init__.nd rfl (Or.inl rfl))) (fun _ _ _ _ _ => pts_nil) (fun _ _ _ _ _ => (pe_methA c_name_at (hr.mono (by decide)) pass0 (pv 1) (pa_cons (pv 4) pa_nil))))
  (psa_supC SA rfl (Or.inl rfl) c_super (hr.mono (by decide)) pass0 (pa_cons (pe_joined (PJ.cons pe_str (PJ.cons (pe_fmt (pe_fldK K (pv 1))) (PJ.cons pe_str PJ.nil)))) (pa_cons (pv 3) (pa_cons (pe_fldK K (pv 1)) (pa_cons (pe_fldK K (pv 1)) (pa_cons (pv 2) pa_nil)))))
  (psa_end pss_nil))))), ?_⟩
    have h0 := own_start (o := .ins C' dx []) hG gx hx 0
    have st0 := stabO G H x (.ins C' dx [])
    show tSeq _ _ (Ends.mk _ _ _ _) [some _, some _, none, none, none] _
    have l2 := o.l2
    refine q_setV st0 h0 (x := .int (depL [d])) (ev_call st0 (ea_cons (ev_sF st0 h1 (ev_var rfl)).1 (ea_cons (ev_var rfl) ea_nil)) fun vs G' s' e => ?_) fun H1 k1 h1' => ?_
    · obtain ⟨_, _, rfl, a1, _, _, rfl, a2, a3⟩ := e
      obtain rfl := (show _ = _ from a1)
      obtain rfl := (show _ = _ from a2)
      obtain rfl := (show _ = _ from a3)
      exact ⟨_, [.ref l], [d], rfl, by simp, ⟨.ref l, [], rfl, ⟨l, rfl, h1.mono s'⟩, rfl⟩, by omega, hd, rfl⟩
    refine q_fldV h1' (ev_var rfl) rfl hC (hN _ (by decide)) (by decide) fun H2 h2 => ?_
    generalize e3 : putF ("inner" : Str) (.ref l) [] = f3 at h2
    have z3 : f3.length ≤ 1 := by rw [← e3]; exact putF_len _ _ _
    have on1 : f3.lookup ("inner" : Str) = some (.ref l) := by rw [← e3]; exact lk_eq
    have off3 : ∀ f, f ≠ ("inner" : Str) → f3.lookup f = none := fun f a => by rw [← e3, lk_ne a]; rfl
    have st3 := stabO G H x (.ins C' dx f3)
    refine q_set h2 (ev_lcV (f := fun k => .str (d.names.getD k ("" : Str))) st3 (ea_consV (ev_sF st3 h1 (ev_var rfl)).1 ea_nilV) (by omega) (by omega) (fun _ => rfl) fun j G' hj s' => ev_sNm st3 (h1.mono s') (ev_var rfl) (ea_consV (ev_var rfl) ea_nilV) (getD_names (by omega))) fun v4 G4 H4 s4 r4 => ?_
    obtain ⟨p4, rfl, _, g4⟩ := r4
    rw [Int.toNat_natCast] at g4
    have g4 : G4 p4 = some (.lst (d.names.map V.str)) := by
      rw [g4]
      refine congrArg (fun z => some (HO.lst z)) (List.ext_getElem? fun j => ?_)
      rw [List.getElem?_map, List.getElem?_map]
      by_cases hj : j < d.names.length
      · rw [List.getElem?_range hj, getD_names hj]
        rfl
      · rw [List.getElem?_eq_none (by rw [List.length_range]; omega), List.getElem?_eq_none (by omega)]
        rfl
    have es : ∀ z : Str, Str.empty ++ z = z := Str.empty_append
    have ll := o.ll
    have hsz : (2000000 : Nat) ≤ sizeLine := by decide
    have c1 : ("(turned " : Str).length = 8 ∧ (")" : Str).length = 1 := by decide +kernel
    have la : ∀ a b : Str, (a ++ b).length = a.length + b.length := Str.length_append
    have h14 := h1.mono s4.g
    refine q_supO s4.s rfl hm hf (ea_cons (ev_joined (ej_cons ev_c (by simp only [es]; omega) (ej_cons (ev_fmtS (ev_sF st3 h14 (ev_var rfl)).2.2.2.1 (by omega)) (by simp only [es, la]; omega) (ej_cons ev_c (by simp only [es, la]; omega) ej_nil))))
      (ea_cons (ev_var rfl) (ea_cons (ev_sF st3 h14 (ev_var rfl)).2.1 (ea_cons (ev_sF st3 h14 (ev_var rfl)).2.2.1 (ea_cons (ev_var rfl) ea_nil))))) (RO := fun _ _ fs' G' => ScI (turnSD d) fs' G' ∧ (∀ f, f ∉ scF → fs'.lookup f = f3.lookup f) ∧ fs'.length ≤ f3.length + 9) (fun vs G2 s2 r2 => ?_) (fun f5 G5 H5 s5 h5 r5 => ?_)
    · obtain ⟨_, _, rfl, a1, _, _, rfl, a2, _, _, rfl, a3, _, _, rfl, a4, _, _, rfl, a5, a6⟩ := r2
      obtain rfl := (show _ = _ from a1)
      obtain rfl := (show _ = _ from a2)
      obtain rfl := (show _ = _ from a3)
      obtain rfl := (show _ = _ from a4)
      obtain rfl := (show _ = _ from a5)
      obtain rfl := (show _ = _ from a6)
      refine ⟨rfl, (turnSD d).label, p4, d.names, d.nv, d.sl, depL [d], (turnSD d).th, (turnSD d).jn, by rw [es]; rfl, SqL.of (s2 _ _ g4), by omega, o.nd, by omega, off3 _ (by decide +kernel), off3 _ (by decide +kernel), fun y dy fs' G' s3 hy hfs a b ha hb => ?_, rfl⟩
      have w1 : fs'.lookup ("inner" : Str) = some (.ref l) := (hfs _ (by decide +kernel)).trans on1
      have h15 := h14.mono (s2.trans s3)
      exact ⟨⟨y, dy, l, fs', d, a, b, rfl, hy, w1, h15, ha, hb, rfl⟩, ⟨y, dy, l, fs', d, a, b, rfl, hy, w1, h15, ha, hb, rfl⟩⟩
    · exact q_end (q f5 _ _ (own_n h5) ⟨r5.1, fun f hf h1 => (r5.2.1 f hf).trans (off3 f h1), (r5.2.1 _ (by decide +kernel)).trans on1⟩)
theorem ok_PairScale_init {Cs : List Addr} {C fS : Addr} (Z : Bi mg) (hC : Cls K C) (hN : ∀ f ∈ ("left" : Str) :: "right" :: scF, NoAttr K C f) (opq : PySem.W.nsIn K cStatics "thirdparty.any" = some none) (top0 : (P.main.scope.names.lookup ("super" : Str)).isSome = false)
    (hm : PySem.W.mroIn K C (.ref C) = some true) (hf : PySem.W.ks_superIn K C C "__init__" = some (some (.ref fS))) (c_super : SupC P w K mg base fS CX0 6 ["self", "label", "names", "never_at", "still_at", "depth"] [] (spI (PScI K C (PPrM K Cs C SD.th) (PPrM K Cs C SD.jn))))
    (c_depth_above : CalleeR P w K mg base "depth_above" CX0 2 (spP (PDepC K Cs))) (c_name_at : ∀ C ∈ Cs, Method P w K mg base C "name_at" CX0 1 ["self", "place"] [] (spP (PName K))) {f : Addr} {fd : FuncData} (F : FunSD P K "__init__" "PairScale.__init__" s_PairScale___init__ [] [] f fd C) :
    FnOk P w K mg base (L2.CX P w) 10 f fd ["self", "left", "right"] (spI (PPrI K Cs C)) := by
  refine F.toS.okX sc_PairScale___init__ Z.z_super opq top0 rfl rfl (fun vs H Q E h => ?_) (fun cdv cc A outer s H vs Q E hr h SA => ?_)
  · obtain ⟨x, C', dx, fs, rest, G, R, rfl, _, _, _, ⟨_, _, _, _, _, _, rfl, _⟩, _⟩ := h
    rfl
  · obtain ⟨x, C', dx, fs, rest, G, R, rfl, hx, hG, gx, ⟨rfl, rfl, l, r, d1, d2, rfl, h1, h2, o1, o2, h64, hd, hnd, rfl⟩, q⟩ := h
    refine ⟨_, (psa_cons (ps_set (i := 3) sc_PairScale___init__.nd rfl (Or.inl rfl) (pe_callRC c_depth_above (hr.mono (by decide)) pass0 (pa_cons (pe_op op_mulA (pe_fldK K (pv 1)) (pe_fldK K (pv 2))) (pa_cons (pv 1) (pa_cons (pv 2) pa_nil)))))
  (psa_cons (ps_fld (pv 0) (pv 1) rfl)
  (psa_cons (ps_fld (pv 0) (pv 2) rfl)
  (psa_cons (ps_setLc2 (i := 4) (own := [("a", 8), ("b", 9)]) (vs1 := [9]) (g := (gName 8)) (g1 := (gName 9)) rfl sc_PairScale___init__.nd rfl rfl (sw_true rfl rfl rfl (by decide +kernel)) (pi_range1 (by rfl) Z.z_range (pa_cons (pe_fldK K (pv 1)) pa_nil)) (blkOk_by (by kernel_rfl)) (by decide) (fun _ _ _ _ _ => (pg_name (i := 8) sc_PairScale___init__.nd rfl (Or.inl rfl))) (fun _ _ _ _ _ => pts_nil) (fun _ _ _ _ _ => (pi_range1 (by rfl) Z.z_range (pa_cons (pe_fldK K (pv 2)) pa_nil))) (fun _ _ _ _ _ => (pg_name (i := 9) sc_PairScale___init__.nd rfl (Or.inl rfl))) (fun _ _ _ _ _ => pts_nil) (fun _ _ _ _ _ => (pe_tup (pa_cons (pv 8) (pa_cons (pv 9) pa_nil)))))
  (psa_cons (ps_setLc (i := 5) (own := [("a", 8), ("b", 9)]) (g := (gTup _ 2 (gCons (gName 8) (gCons (gName 9) gNil)))) rfl sc_PairScale___init__.nd rfl rfl (sw_true rfl rfl rfl (by decide +kernel)) (pi_listK K (pv 4)) (blkOk_by (by kernel_rfl)) (fun _ _ _ _ _ => (pg_tup rfl (pgs_cons (pg_name (i := 8) sc_PairScale___init__.nd rfl (Or.inl rfl)) (pgs_cons (pg_name (i := 9) sc_PairScale___init__.nd rfl (Or.inl rfl)) pgs_nil)))) (fun _ _ _ _ _ => pts_nil) (fun _ _ _ _ _ => (pe_joined (PJ.cons pe_str (PJ.cons (pe_fmt (pe_methA c_name_at (hr.mono (by decide)) pass0 (pv 1) (pa_cons (pv 8) pa_nil))) (PJ.cons pe_str (PJ.cons (pe_fmt (pe_methA c_name_at (hr.mono (by decide)) pass0 (pv 2) (pa_cons (pv 9) pa_nil))) (PJ.cons pe_str PJ.nil))))))))
  (psa_cons (ps_set (i := 6) sc_PairScale___init__.nd rfl (Or.inl rfl) (pe_bm PySem.F.plainAttrs_list PySem.F.slot_list_index PySem.F.type_list_index (mt_indexD (Nat.lt_of_succ_lt (hu2 hr))) (pv 4) (pa_cons (pe_tup (pa_cons (pe_fldK K (pv 1)) (pa_cons (pe_fldK K (pv 2)) pa_nil))) pa_nil)))
  (psa_cons (ps_set (i := 7) sc_PairScale___init__.nd rfl (Or.inl rfl) (pe_bm PySem.F.plainAttrs_list PySem.F.slot_list_index PySem.F.type_list_index (mt_indexD (Nat.lt_of_succ_lt (hu2 hr))) (pv 4) (pa_cons (pe_tup (pa_cons (pe_fldK K (pv 1)) (pa_cons (pe_fldK K (pv 2)) pa_nil))) pa_nil)))
  (psa_supC SA rfl (Or.inl rfl) c_super (hr.mono (by decide)) pass0 (pa_cons (pe_joined (PJ.cons pe_str (PJ.cons (pe_fmt (pe_fldK K (pv 1))) (PJ.cons pe_str (PJ.cons (pe_fmt (pe_fldK K (pv 2))) (PJ.cons pe_str PJ.nil)))))) (pa_cons (pv 5) (pa_cons (pv 6) (pa_cons (pv 7) (pa_cons (pv 3) pa_nil)))))
  (psa_end pss_nil))))))))), ?_⟩
    have h0 := own_start (o := .ins C' dx []) hG gx hx 0
    have st0 := stabO G H x (.ins C' dx [])
    show tSeq _ _ (Ends.mk _ _ _ _) [some _, some _, some _, none, none, none, none, none, none, none] _
    have l12 := o1.l2
    have l22 := o2.l2
    have eN : ((d1.names.length : Nat) : Int) * ((d2.names.length : Nat) : Int) = ((d1.names.length * d2.names.length : Nat) : Int) := (Int.natCast_mul _ _).symm
    refine q_setV st0 h0 (x := .int (depL [d1, d2])) (ev_call st0 (ea_cons (ev_opV (ev_sF st0 h1 (ev_var rfl)).1 (ev_sF st0 h2 (ev_var rfl)).1 (v_mul st0 (.inl ⟨by omega, by omega⟩))) (ea_cons (ev_var rfl) (ea_cons (ev_var rfl) ea_nil))) fun vs G' s' e => ?_) fun H1 k1 h1' => ?_
    · obtain ⟨_, _, rfl, a1, _, _, rfl, a2, _, _, rfl, a3, a4⟩ := e
      obtain rfl := (show _ = _ from a1)
      obtain rfl := (show _ = _ from a2)
      obtain rfl := (show _ = _ from a3)
      obtain rfl := (show _ = _ from a4)
      exact ⟨_, [.ref l, .ref r], [d1, d2], rfl, by simp, ⟨.ref l, [.ref r], rfl, ⟨l, rfl, h1.mono s'⟩, .ref r, [], rfl, ⟨r, rfl, h2.mono s'⟩, rfl⟩, by rw [eN]; omega, hd, rfl⟩
    refine q_fldV h1' (ev_var rfl) rfl hC (hN _ (by decide)) (by decide) fun H2 h2' => ?_
    have st2 := stabO G H x (.ins C' dx (putF ("left" : Str) (.ref l) []))
    refine q_fldV h2' (ev_var rfl) rfl hC (hN _ (by decide)) (Nat.lt_of_le_of_lt (putF_len _ _ _) (by decide)) fun H3 h3 => ?_
    generalize e3 : putF ("right" : Str) (.ref r) (putF ("left" : Str) (.ref l) []) = f3 at h3
    have z3 : f3.length ≤ 2 := by rw [← e3]; exact Nat.le_trans (putF_len _ _ _) (Nat.succ_le_succ (putF_len _ _ _))
    have on1 : f3.lookup ("left" : Str) = some (.ref l) := by rw [← e3, lk_ne (by decide +kernel)]; exact lk_eq
    have on2 : f3.lookup ("right" : Str) = some (.ref r) := by rw [← e3]; exact lk_eq
    have off3 : ∀ f, f ≠ ("left" : Str) → f ≠ ("right" : Str) → f3.lookup f = none := fun f a b => by rw [← e3, lk_ne b, lk_ne a]; rfl
    have st3 := stabO G H x (.ins C' dx f3)
    refine q_set (R := IsNX G (RL IsPr (pairsL d1.names.length d2.names.length))) h3 (ev_lc2R1 (R := IsPr) (m := d1.names.length) (c := d2.names.length) (f := fun a b => (((a : Nat) : Int), ((b : Nat) : Int))) (σa := fun a => [some (.ref x), some (.ref l), some (.ref r), some (.int (depL [d1, d2])), none, none, none, none, some (.int (a : Nat)), none]) (σb := fun a b => [some (.ref x), some (.ref l), some (.ref r), some (.int (depL [d1, d2])), none, none, none, none, some (.int (a : Nat)), some (.int (b : Nat))]) st3
      (ea_consV (ev_sF st3 h1 (ev_var rfl)).1 ea_nilV) (by omega) (by omega) (fun _ => rfl) (fun _ _ => rfl) (fun _ => rfl) (fun _ _ => rfl) (fun a G' ha s => ea_consV (ev_sF st3 (h2.mono s) (ev_var rfl)).1 ea_nilV) (fun a b G' ha hb s => (ev_tupN st3 (ea_consV (ev_var rfl) (ea_consV (ev_var rfl) ea_nilV)) (by simp)).imp fun v G'' s' ⟨p, e, _, g⟩ => ⟨p, e, g⟩)) fun v4 G4 H4 s4 r4 => ?_
    obtain ⟨p4, ws, rfl, _, g4, rl4⟩ := r4
    have lws := rl_len rl4
    have lpr : (pairsL d1.names.length d2.names.length).length = d1.names.length * d2.names.length := flat_len _ _ _
    have h14 := h1.mono s4.g
    have h24 := h2.mono s4.g
    have es : ∀ z : Str, Str.empty ++ z = z := Str.empty_append
    have ll1 := o1.ll
    have ll2 := o2.ll
    have hsz : (3000000 : Nat) ≤ sizeLine := by decide
    have c1 : ("<" : Str).length = 1 ∧ ("/" : Str).length = 1 ∧ (">" : Str).length = 1 ∧ ("(pair " : Str).length = 6 ∧ (" " : Str).length = 1 ∧ (")" : Str).length = 1 := by decide +kernel
    have la : ∀ a b : Str, (a ++ b).length = a.length + b.length := Str.length_append
    have sh1 : ∀ {a : Nat}, a < d1.names.length → (d1.names.getD a ("" : Str)).length ≤ 100000 := fun h => o1.sh _ (getD_mem h)
    have sh2 : ∀ {a : Nat}, a < d2.names.length → (d2.names.getD a ("" : Str)).length ≤ 100000 := fun h => o2.sh _ (getD_mem h)
    have prAt : ∀ {j : Nat} {s : Int × Int}, (pairsL d1.names.length d2.names.length)[j]? = some s → ∃ a b : Nat, s = (((a : Nat) : Int), ((b : Nat) : Int)) ∧ a < d1.names.length ∧ b < d2.names.length := fun {j s} h => by
      obtain ⟨a, ha, hb⟩ := List.mem_flatMap.mp (List.mem_of_getElem? h)
      obtain ⟨b, hb2, rfl⟩ := List.mem_map.mp hb
      exact ⟨a, b, rfl, List.mem_range.mp ha, List.mem_range.mp hb2⟩
    let nmOf : Int × Int → Str := fun s => ("<" : Str) ++ d1.names.getD s.1.toNat ("" : Str) ++ ("/" : Str) ++ d2.names.getD s.2.toNat ("" : Str) ++ (">" : Str)
    refine q_set (R := IsNX G4 (RL (fun s : Int × Int => IsV (.str (nmOf s))) (pairsL d1.names.length d2.names.length))) s4.s (ev_lcG (R := fun s : Int × Int => IsV (.str (nmOf s))) (ss := pairsL d1.names.length d2.names.length) (σf := fun j => [some (.ref x), some (.ref l), some (.ref r), some (.int (depL [d1, d2])), some (.ref p4), none, none, none, some (.int ((pairsL d1.names.length d2.names.length).getD j (0, 0)).1), some (.int ((pairsL d1.names.length d2.names.length).getD j (0, 0)).2)]) st3 (ev_var rfl) (SqL.of g4) lws (by omega)
      (fun j y G' J hy s' t' Qs q' => ?_) (fun _ => rfl) (fun j y s0 G' hy hs0 s' => ?_)) fun v5 G5 H5 s5 r5 => ?_
    · have hj : j < (pairsL d1.names.length d2.names.length).length := by
        have := (List.getElem?_eq_some_iff.mp hy).1
        omega
      have e1 : (pairsL d1.names.length d2.names.length)[j]? = some (pairsL d1.names.length d2.names.length)[j] := List.getElem?_eq_getElem hj
      obtain ⟨u, hu, pu, rfl, hpu⟩ := rl_get rl4 e1
      rw [hu] at hy
      obtain rfl := Option.some.inj hy
      have e2 : (pairsL d1.names.length d2.names.length).getD j (0, 0) = (pairsL d1.names.length d2.names.length)[j] := by rw [List.getD_eq_getElem?_getD, e1]; rfl
      rw [e2] at q'
      exact ⟨pu, _, rfl, SqT.of (t' _ _ (s' _ _ hpu)), rfl, _, _, rfl, _, _, rfl, rfl, q'⟩
    · have e2 : (pairsL d1.names.length d2.names.length).getD j (0, 0) = s0 := by rw [List.getD_eq_getElem?_getD, hs0]; rfl
      rw [e2]
      obtain ⟨a, b, rfl, ha, hb⟩ := prAt hs0
      have s1' := sh1 ha
      have s2' := sh2 hb
      exact ev_joined (ej_cons ev_c (by simp only [es]; omega) (ej_cons (ev_fmtS (ev_sNm st3 (h14.mono s') (ev_var rfl) (ea_consV (ev_var rfl) ea_nilV) (getD_names ha)) (by omega)) (by simp only [es, la]; omega) (ej_cons ev_c (by simp only [es, la]; omega) (ej_cons (ev_fmtS (ev_sNm st3 (h24.mono s') (ev_var rfl) (ea_consV (ev_var rfl) ea_nilV) (getD_names hb)) (by omega)) (by simp only [es, la]; omega) (ej_cons ev_c (by simp only [es, la]; omega) (by rw [es]; exact ej_nil))))))
    obtain ⟨p5, ys, rfl, _, g5, rl5⟩ := r5
    rw [rl_vals rl5] at g5
    have enm : ((pairsL d1.names.length d2.names.length).map fun s => V.str (nmOf s)) = (pairNames d1 d2).map V.str := by
      unfold pairNames pairsL
      rw [List.map_flatMap, List.map_flatMap]
      refine congrArg (fun f => List.flatMap f _) (funext fun a => ?_)
      rw [List.map_map, List.map_map]
      rfl
    rw [enm] at g5
    have g45 := s5.g _ _ g4
    have rl45 := rl_mon s5.g rl4
    have h15 := h14.mono s5.g
    have h25 := h24.mono s5.g
    have ixp : ∀ {n : Nat} {σ : L2.St} {u v : Int} {fld : Str}, 0 ≤ u → u < (d1.names.length : Nat) → 0 ≤ v → v < (d2.names.length : Nat) → σ[4]? = some (some (.ref p4)) → (∀ {n : Nat}, Ev (Own G H x (.ins C' dx f3)) n 0 (tFld K (tVar 1) fld) σ G5 (IsV (.int u))) → (∀ {n : Nat}, Ev (Own G H x (.ins C' dx f3)) n 0 (tFld K (tVar 2) fld) σ G5 (IsV (.int v))) →
        Ev (Own G H x (.ins C' dx f3)) n (0 + (0 + (0 + 0) + 0)) (tBM K "list" (rIndexD K) (tVar 4) (tCons (tTup (tCons (tFld K (tVar 1) fld) (tCons (tFld K (tVar 2) fld) tNil))) tNil)) σ G5 (IsV (.int (u * (d2.names.length : Nat) + v))) := fun {n σ u v fld} u0 u1 v0 v1 e4 eu ev' => by
      obtain ⟨a, rfl⟩ : ∃ a : Nat, u = (a : Nat) := ⟨u.toNat, by omega⟩
      obtain ⟨b, rfl⟩ : ∃ b : Nat, v = (b : Nat) := ⟨v.toNat, by omega⟩
      have ha : a < d1.names.length := by omega
      have hb : b < d2.names.length := by omega
      refine ev_bmL st3 (ev_var e4) (SqL.of g45) (ea_cons (ev_tupN st3 (ea_consV eu (ea_consV ev' ea_nilV)) (by simp)) ea_nil) fun vs G' s' rr => ?_
      obtain ⟨y, _, rfl, ⟨q, rfl, _, gq⟩, rn⟩ := rr
      obtain rfl := (show _ = [] from rn)
      have z := idx_prL (K := K) (s := (((a : Nat) : Int), ((b : Nat) : Int))) st3 (SqL.of (s' _ _ g45)) (rl_mon s' rl45) (pairs_mem ha hb) ⟨q, rfl, gq⟩
      rw [pairs_idx ha hb, Int.natCast_add, Int.natCast_mul] at z
      exact z
    refine q_setV st3 s5.s (ixp o1.nv.1 o1.nv.2 o2.nv.1 o2.nv.2 rfl (ev_sF st3 h15 (ev_var rfl)).2.1 (ev_sF st3 h25 (ev_var rfl)).2.1) fun H6 k6 h6 => ?_
    refine q_setV st3 h6 (ixp o1.sl.1 o1.sl.2 o2.sl.1 o2.sl.2 rfl (ev_sF st3 h15 (ev_var rfl)).2.2.1 (ev_sF st3 h25 (ev_var rfl)).2.2.1) fun H7 k7 h7 => ?_
    refine q_supO h7 rfl hm hf (ea_cons (ev_joined (ej_cons ev_c (by simp only [es]; omega) (ej_cons (ev_fmtS (ev_sF st3 h15 (ev_var rfl)).2.2.2.1 (by omega)) (by simp only [es, la]; omega) (ej_cons ev_c (by simp only [es, la]; omega) (ej_cons (ev_fmtS (ev_sF st3 h25 (ev_var rfl)).2.2.2.1 (by omega)) (by simp only [es, la]; omega) (ej_cons ev_c (by simp only [es, la]; omega) ej_nil))))))
      (ea_cons (ev_var rfl) (ea_cons (ev_var rfl) (ea_cons (ev_var rfl) (ea_cons (ev_var rfl) ea_nil))))) (RO := fun _ _ fs' G' => ScI (pairSD d1 d2) fs' G' ∧ (∀ f, f ∉ scF → fs'.lookup f = f3.lookup f) ∧ fs'.length ≤ f3.length + 9) (fun vs G2 s2 r2 => ?_) (fun f5 G8 H8 s8 h8 r8 => ?_)
    · obtain ⟨_, _, rfl, a1, _, _, rfl, a2, _, _, rfl, a3, _, _, rfl, a4, _, _, rfl, a5, a6⟩ := r2
      obtain rfl := (show _ = _ from a1)
      obtain rfl := (show _ = _ from a2)
      obtain rfl := (show _ = _ from a3)
      obtain rfl := (show _ = _ from a4)
      obtain rfl := (show _ = _ from a5)
      obtain rfl := (show _ = _ from a6)
      have lpn := pairNames_len d1 d2
      refine ⟨rfl, (pairSD d1 d2).label, p5, pairNames d1 d2, (pairSD d1 d2).nv, (pairSD d1 d2).sl, depL [d1, d2], (pairSD d1 d2).th, (pairSD d1 d2).jn, by rw [es]; rfl, SqL.of (s2 _ _ g5), by omega, hnd, by omega, off3 _ (by decide +kernel) (by decide +kernel), off3 _ (by decide +kernel) (by decide +kernel), fun y dy fs' G' s3 hy hfs a b ha hb => ?_, rfl⟩
      have w1 : fs'.lookup ("left" : Str) = some (.ref l) := (hfs _ (by decide +kernel)).trans on1
      have w2 : fs'.lookup ("right" : Str) = some (.ref r) := (hfs _ (by decide +kernel)).trans on2
      have h16 := h15.mono (s2.trans s3)
      have h26 := h25.mono (s2.trans s3)
      rw [lpn] at ha hb
      exact ⟨⟨y, dy, l, r, fs', d1, d2, a, b, rfl, hy, w1, w2, h16, h26, o1, o2, ha, hb, rfl⟩, ⟨y, dy, l, r, fs', d1, d2, a, b, rfl, hy, w1, w2, h16, h26, o1, o2, ha, hb, rfl⟩⟩
    · exact q_end (q f5 _ _ (own_n h8) ⟨r8.1, fun f hf h1 h2 => (r8.2.1 f hf).trans (off3 f h1 h2), (r8.2.1 _ (by decide +kernel)).trans on1, (r8.2.1 _ (by decide +kernel)).trans on2⟩)
abbrev s_HeapScale___init__ : Stmt := inClass (top 26) 0
theorem sc_HeapScale___init__ : ScS ["self", "inner", "depth", "places", "words", "names", "number", "heap", "word", "k"] ["self", "inner"] (defScope s_HeapScale___init__) := ⟨rfl, rfl, rfl, by decide +kernel, rfl, by decide +kernel, by decide +kernel, rfl, by decide +kernel, rfl⟩
abbrev s_HeapScale_make_then : Stmt := inClass (top 26) 1
theorem sc_HeapScale_make_then : FnScope ["self", "first", "second", "found", "a", "b"] ["self", "first", "second"] (defScope s_HeapScale_make_then) := ⟨rfl, rfl, rfl, by decide +kernel, rfl, by decide +kernel, by decide +kernel⟩
abbrev s_HeapScale_make_join : Stmt := inClass (top 26) 2
theorem sc_HeapScale_make_join : FnScope ["self", "first", "second"] ["self", "first", "second"] (defScope s_HeapScale_make_join) := ⟨rfl, rfl, rfl, by decide +kernel, rfl, by decide +kernel, by decide +kernel⟩
theorem ok_heap_join {f : Addr} {fd : FuncData} (F : Fun K "make_join" "HeapScale.make_join" s_HeapScale_make_join f fd) : FnOk P w K mg base CX0 5 f fd ["self", "first", "second"] (spP PHpJ) := by
  refine F.ok sc_HeapScale_make_join (fun vs H Q E h => ?_) (fun cdv A outer s H vs Q E hr h => ?_)
  · obtain ⟨G, R, _, ⟨_, _, _, _, rfl, _⟩, _⟩ := h
    rfl
  · obtain ⟨G, R, hs, ⟨x, d, i, j, rfl, rfl⟩, q⟩ := h
    refine ⟨_, (pss_cons (ps_ret (pe_op op_or (pv 1) (pv 2)))
  pss_nil), ?_⟩
    have st := stab0 G H
    have h0 : SP0 G H 0 G H := Grow.refl hs
    show tSeq _ _ (Ends.mk _ _ _ _) [some _, some _, some _] _
    exact q_retV st h0 (ev_opV (ev_var rfl) (ev_var rfl) (v_bor st)) fun H1 k1 h1 => q _ _ _ h1 rfl
theorem ok_heap_then {Cs : List Addr} {C : Addr} (hC : Cls K C) (hi : NoAttr K C "inner") (hh : NoAttr K C "heaps") (c_then_at : ∀ C ∈ Cs, Method P w K mg base C "then_at" CX0 1 ["self", "first", "second"] [] (spP (PAt K fun th _ a b => .int (th a b))))
    {f : Addr} {fd : FuncData} (F : Fun K "make_then" "HeapScale.make_then" s_HeapScale_make_then f fd) : FnOk P w K mg base CX0 5 f fd ["self", "first", "second"] (spP (PHpM K Cs C)) := by
  refine F.ok sc_HeapScale_make_then (fun vs H Q E h => ?_) (fun cdv A outer s H vs Q E hr h => ?_)
  · obtain ⟨G, R, _, ⟨_, _, _, _, _, _, _, _, rfl, _⟩, _⟩ := h
    rfl
  · obtain ⟨G, R, hs, ⟨x, dx, l, hp, fs, d, a, b, rfl, hx, fi, fh, hd, o, hH, ha, hb, rfl⟩, q⟩ := h
    refine ⟨_, (pss_cons (ps_set (i := 3) sc_HeapScale_make_then.nd rfl (Or.inl rfl) pe_int)
  (pss_cons (ps_for PassesOwn.never rfl (pi_listK K (pe_ix (ix_any K (hu_of hr)) (pe_fldK K (pv 0)) (pv 1) (fun _ _ => rfl))) (pg_name (i := 4) sc_HeapScale_make_then.nd rfl (Or.inl rfl)) (pss_cons (ps_for PassesOwn.never rfl (pi_listK K (pe_ix (ix_any K (hu_of hr)) (pe_fldK K (pv 0)) (pv 2) (fun _ _ => rfl))) (pg_name (i := 5) sc_HeapScale_make_then.nd rfl (Or.inl rfl)) (pss_cons (ps_set (i := 3) sc_HeapScale_make_then.nd rfl (Or.inl rfl) (pe_op op_or (pv 3) (pe_op op_shl pe_int (pe_methA c_then_at (hr.mono (by decide)) pass0 (pe_fldK K (pv 0)) (pa_cons (pv 4) (pa_cons (pv 5) pa_nil))))))
  pss_nil))
  pss_nil))
  (pss_cons (ps_ret (pv 3))
  pss_nil))), ?_⟩
    have st := stab0 G H
    have h0 : SP0 G H 0 G H := Grow.refl hs
    show tSeq _ _ (Ends.mk _ _ _ _) [some _, some _, some _, none, none, none] _
    obtain ⟨hs1, gh, lh, hat⟩ := hH.at
    obtain ⟨qa, ea, ga⟩ := hat a ha
    obtain ⟨qb, eb, gb⟩ := hat b hb
    have l2 := o.l2
    have hpf : ∀ {n i c : Nat} {z : Addr} {σ : L2.St}, σ[0]? = some (some (.ref x)) → σ[i]? = some (some (.int (c : Nat))) → hs1[c]? = some (.ref z) → Ev (SP0 G H) n (0 + 0) (tOp (rIxA K) (tFld K (tVar 0) "heaps") (tVar i)) σ G (IsV (.ref z)) := fun e0 ei hz => ev_opV (ev_fld st (ev_var e0) hx hC hh fh) (ev_var ei) (v_ixL st (SqL.of gh) (atI_nat hz))
    let inn : Int → Nat → Int := fun f k => (bitsOf d.names.length b).foldl (fun f l => Builtin.bitOr f (1 * 2 ^ (d.th k l).toNat)) f
    refine q_setV st h0 ev_c fun H1 k1 h1 => ?_
    refine q_forPL st h1 (hpf rfl rfl ea) (SqL.of ga) (fun j σ' => ∃ y z, σ' = [some (.ref x), some (.int (a : Nat)), some (.int (b : Nat)), some (.int (((bitsOf d.names.length a).take j).foldl inn 0)), y, z]) ⟨_, _, rfl⟩ (fun j y σ' J hy hp s2 => ?_) (fun σ' J hp s2 => ?_)
    · obtain ⟨y1, y2, rfl⟩ := hp
      obtain ⟨hj, rfl⟩ := map_get hy
      have hk : (bitsOf d.names.length a)[j] < d.names.length := bits_lt (List.getElem_mem hj)
      rw [List.take_succ_eq_append_getElem hj, List.foldl_append, List.foldl_cons, List.foldl_nil]
      generalize (bitsOf d.names.length a)[j] = k at hk
      generalize ((bitsOf d.names.length a).take j).foldl inn 0 = acc
      show tSeq _ _ (Ends.mk _ _ _ _) [some (.ref x), some (.int (a : Nat)), some (.int (b : Nat)), some (.int acc), some (.int (k : Nat)), y2] _
      refine q_forPL st s2.s (hpf rfl rfl eb) (SqL.of gb) (fun j σ' => ∃ z, σ' = [some (.ref x), some (.int (a : Nat)), some (.int (b : Nat)), some (.int (((bitsOf d.names.length b).take j).foldl (fun f l => Builtin.bitOr f (1 * 2 ^ (d.th k l).toNat)) acc)), some (.int (k : Nat)), z]) ⟨_, rfl⟩ (fun i y σ' J3 hy hp s3 => ?_) (fun σ' J3 hp s3 => ?_)
      · obtain ⟨y3, rfl⟩ := hp
        obtain ⟨hi2, rfl⟩ := map_get hy
        have hl : (bitsOf d.names.length b)[i] < d.names.length := bits_lt (List.getElem_mem hi2)
        rw [List.take_succ_eq_append_getElem hi2, List.foldl_append, List.foldl_cons, List.foldl_nil]
        generalize (bitsOf d.names.length b)[i] = m at hl
        generalize ((bitsOf d.names.length b).take i).foldl (fun f l => Builtin.bitOr f (1 * 2 ^ (d.th k l).toNat)) acc = ac2
        have bd := o.th k m hk hl
        show tSeq _ _ (Ends.mk _ _ _ _) [some (.ref x), some (.int (a : Nat)), some (.int (b : Nat)), some (.int ac2), some (.int (k : Nat)), some (.int (m : Nat))] _
        refine q_setV st s3.s (ev_opV (ev_var rfl) (ev_opV ev_c (ev_sAt (pk := fun th _ a b => .int (th a b)) st hd (by decide) (ev_fld st (ev_var rfl) hx hC hi fi) (ea_consV (ev_var rfl) (ea_consV (ev_var rfl) ea_nilV)) hk hl) (v_shl st ⟨bd.1, by omega, by decide⟩)) (v_bor st)) fun H4 k4 h4 => q_end ⟨⟨_, rfl⟩, s3.go k4 h4⟩
      · obtain ⟨y3, rfl⟩ := hp
        rw [List.length_map, List.take_length]
        exact q_end ⟨⟨_, _, rfl⟩, ⟨Same.refl _, s2.k.trans s3.k, s3.s, fun _ _ h => .inl h⟩⟩
    · obtain ⟨y1, y2, rfl⟩ := hp
      rw [List.length_map, List.take_length]
      exact q_retV st s2.s (ev_var rfl) fun H4 k4 h4 => q _ _ _ h4 rfl
theorem ok_HeapScale_init {Cs : List Addr} {C fS : Addr} (Z : Bi mg) (hC : Cls K C) (hN : ∀ f ∈ ("inner" : Str) :: "heaps" :: scF, NoAttr K C f) (opq : PySem.W.nsIn K cStatics "thirdparty.any" = some none) (top0 : (P.main.scope.names.lookup ("super" : Str)).isSome = false)
    (hm : PySem.W.mroIn K C (.ref C) = some true) (hf : PySem.W.ks_superIn K C C "__init__" = some (some (.ref fS))) (c_super : SupC P w K mg base fS CX0 6 ["self", "label", "names", "never_at", "still_at", "depth"] [] (spI (PScI K C (PHpM K Cs C) PHpJ)))
    (c_depth_above : CalleeR P w K mg base "depth_above" CX0 2 (spP (PDepC K Cs))) (c_name_at : ∀ C ∈ Cs, Method P w K mg base C "name_at" CX0 1 ["self", "place"] [] (spP (PName K))) {f : Addr} {fd : FuncData} (F : FunSD P K "__init__" "HeapScale.__init__" s_HeapScale___init__ [] [] f fd C) :
    FnOk P w K mg base (L2.CX P w) 10 f fd ["self", "inner"] (spI (PHpI K Cs C)) := by
  refine F.toS.okX sc_HeapScale___init__ Z.z_super opq top0 rfl rfl (fun vs H Q E h => ?_) (fun cdv cc A outer s H vs Q E hr h SA => ?_)
  · obtain ⟨x, C', dx, fs, rest, G, R, rfl, _, _, _, ⟨_, _, _, _, rfl, _⟩, _⟩ := h
    rfl
  · obtain ⟨x, C', dx, fs, rest, G, R, rfl, hx, hG, gx, ⟨rfl, rfl, l, d, rfl, h1, o, h6, hd, hnd, rfl⟩, q⟩ := h
    refine ⟨_, (psa_cons (ps_set (i := 2) sc_HeapScale___init__.nd rfl (Or.inl rfl) (pe_callRC c_depth_above (hr.mono (by decide)) pass0 (pa_cons (pe_op op_shl pe_int (pe_fldK K (pv 1))) (pa_cons (pv 1) pa_nil))))
  (psa_cons (ps_fld (pv 0) (pv 1) rfl)
  (psa_cons (ps_set (i := 3) sc_HeapScale___init__.nd rfl (Or.inr rfl) (pe_listRg rfl (by rfl) Z.z_list (prg_1 (by rfl) Z.z_range (pe_fldK K (pv 1)))))
  (psa_cons (ps_fld (pv 0) (pe_lc (own := [("number", 6)]) (g := (gName 6)) rfl sc_HeapScale___init__.nd (pi_range1 (by rfl) Z.z_range (pa_cons (pe_op op_shl pe_int (pe_fldK K (pv 1))) pa_nil)) (blkOk_by (by kernel_rfl)) (fun _ _ _ _ _ => (pg_name (i := 6) sc_HeapScale___init__.nd rfl (Or.inr rfl))) (fun _ _ _ _ _ => pts_nil) (fun _ _ _ _ _ => (pe_lc (own := [("k", 9)]) (g := (gName 9)) rfl sc_HeapScale___init__.nd (pi_listK K (pv 3)) (blkOk_by (by kernel_rfl)) (fun _ _ _ _ _ => (pg_name (i := 9) sc_HeapScale___init__.nd rfl (Or.inl rfl))) (fun _ _ _ _ _ => (pts_one (pt_cmpR (op_eqA K hr.units) (pe_op op_and (pe_op op_shr (pv 6) (pv 9)) pe_int) pe_int (nomark _)))) (fun _ _ _ _ _ => (pv 9))))) rfl)
  (psa_cons (ps_setLc (i := 4) (own := [("heap", 7)]) (g := (gName 7)) rfl sc_HeapScale___init__.nd rfl rfl (sw_true rfl rfl rfl (by decide +kernel)) (pi_listK K (pe_fldK K (pv 0))) (blkOk_by (by kernel_rfl)) (fun _ _ _ _ _ => (pg_name (i := 7) sc_HeapScale___init__.nd rfl (Or.inl rfl))) (fun _ _ _ _ _ => pts_nil) (fun _ _ _ _ _ => (pe_joinK K pe_str (pe_lc (own := [("k", 9)]) (g := (gName 9)) rfl sc_HeapScale___init__.nd (pi_listK K (pv 7)) (blkOk_by (by kernel_rfl)) (fun _ _ _ _ _ => (pg_name (i := 9) sc_HeapScale___init__.nd rfl (Or.inl rfl))) (fun _ _ _ _ _ => pts_nil) (fun _ _ _ _ _ => (pe_methA c_name_at (hr.mono (by decide)) pass0 (pv 1) (pa_cons (pv 9) pa_nil)))))))
  (psa_cons (ps_setLc (i := 5) (own := [("word", 8)]) (g := (gName 8)) rfl sc_HeapScale___init__.nd rfl rfl (sw_true rfl rfl rfl (by decide +kernel)) (pi_listK K (pv 4)) (blkOk_by (by kernel_rfl)) (fun _ _ _ _ _ => (pg_name (i := 8) sc_HeapScale___init__.nd rfl (Or.inl rfl))) (fun _ _ _ _ _ => pts_nil) (fun _ _ _ _ _ => (pe_op op_addA (pe_op op_addA pe_str (pv 8)) pe_str)))
  (psa_supC SA rfl (Or.inl rfl) c_super (hr.mono (by decide)) pass0 (pa_cons (pe_joined (PJ.cons pe_str (PJ.cons (pe_fmt (pe_fldK K (pv 1))) (PJ.cons pe_str PJ.nil)))) (pa_cons (pv 5) (pa_cons pe_int (pa_cons (pe_op op_shl pe_int (pe_fldK K (pv 1))) (pa_cons (pv 2) pa_nil)))))
  (psa_end pss_nil)))))))), ?_⟩
    have h0 := own_start (o := .ins C' dx []) hG gx hx 0
    have st0 := stabO G H x (.ins C' dx [])
    show tSeq _ _ (Ends.mk _ _ _ _) [some _, some _, none, none, none, none, none, none, none, none] _
    have l1 := o.l1
    have p2n : 2 ^ d.names.length ≤ 64 := Nat.pow_le_pow_right (n := 2) (by decide) h6
    have e2n : ((1 : Int) * 2 ^ ((d.names.length : Nat) : Int).toNat) = ((2 ^ d.names.length : Nat) : Int) := by rw [Int.toNat_natCast, Int.one_mul, Int.natCast_pow]; rfl
    refine q_setV st0 h0 (x := .int (depL [d])) (ev_call st0 (ea_cons (ev_opV ev_c (ev_sF st0 h1 (ev_var rfl)).1 (v_shl st0 ⟨by omega, by omega, by decide⟩)) (ea_cons (ev_var rfl) ea_nil)) fun vs G' s' e => ?_) fun H1 k1 h1' => ?_
    · obtain ⟨_, _, rfl, a1, _, _, rfl, a2, a3⟩ := e
      obtain rfl := (show _ = _ from a1)
      obtain rfl := (show _ = _ from a2)
      obtain rfl := (show _ = _ from a3)
      exact ⟨_, [.ref l], [d], rfl, by simp, ⟨.ref l, [], rfl, ⟨l, rfl, h1.mono s'⟩, rfl⟩, by rw [e2n]; exact Int.ofNat_le.mpr p2n, hd, rfl⟩
    refine q_fldV h1' (ev_var rfl) rfl hC (hN _ (by decide)) (by decide) fun H2 h2 => ?_
    generalize e3 : putF ("inner" : Str) (.ref l) [] = f3 at h2
    have z3 : f3.length ≤ 1 := by rw [← e3]; exact putF_len _ _ _
    have on3 : f3.lookup ("inner" : Str) = some (.ref l) := by rw [← e3]; exact lk_eq
    have off3 : ∀ f, f ≠ ("inner" : Str) → f3.lookup f = none := fun f a => by rw [← e3, lk_ne a]; rfl
    have st3 := stabO G H x (.ins C' dx f3)
    refine q_set h2 (ev_listRg st3 (ev_sF st3 h1 (ev_var rfl)).1 (by omega) (by omega)) fun v4 G4 H4 s4 r4 => ?_
    obtain ⟨p4, rfl, _, g4⟩ := r4
    rw [Int.toNat_natCast] at g4
    have h14 := h1.mono s4.g
    have lr : ((List.range d.names.length).map fun i => V.int (i : Nat)).length = d.names.length := by rw [List.length_map, List.length_range]
    refine q_fldO s4.s (R := IsNX G4 (RL (fun a => IsIL (bitsOf d.names.length a)) (List.range (2 ^ d.names.length)))) ((ev_lcFR (R := fun a => IsIL (bitsOf d.names.length a)) (b := fun _ => true) (sj := fun a => a) (σf := fun a => [some (.ref x), some (.ref l), some (.int (depL [d])), some (.ref p4), none, none, some (.int (a : Nat)), none, none, none]) st3 (ea_consV (ev_opV ev_c (ev_sF st3 h14 (ev_var rfl)).1 (v_shl st3 ⟨by omega, by omega, by decide⟩)) ea_nilV) (by rw [e2n]; exact Int.le_trans (by decide) (Int.natCast_nonneg _)) (by rw [e2n]; exact Int.ofNat_le.mpr (show 2 ^ d.names.length ≤ 100000 by omega)) (fun j J Q q => q) (fun j => rfl) (fun j G' _ _ => et_yes)
      (fun a G' ha _ s' => (ev_lcF (R := fun k : Nat => IsV (.int (k : Nat))) (b := fun k => decide (Builtin.bitAnd (((a : Nat) : Int) / 2 ^ k) 1 = 1)) (sj := fun k => k) (σf := fun k => [some (.ref x), some (.ref l), some (.int (depL [d])), some (.ref p4), none, none, some (.int (a : Nat)), none, none, some (.int (k : Nat))]) st3 (ev_var rfl) (SqL.of (s' _ _ g4)) (by omega) (fun j y G'' J hy s'' t'' Qs q' => ?_) (fun j => rfl) (fun k y G'' hy s'' => et_testV (ev_opV (ev_opV (ev_opV (ev_var rfl) (ev_var rfl) (v_shr st3 (by omega))) ev_c (v_band st3)) ev_c (v_eqI st3))) (fun k y G'' hy _ s'' => ev_var rfl)).imp fun v G'' s'' r => ?_)).imp fun v G' s' r => ?_) rfl hC (hN _ (by decide)) (by omega) fun v5 G5 H5 s5 h5 r5 => ?_
    · obtain ⟨hj, rfl⟩ := map_get hy
      rw [List.getElem_range] at *
      exact q'
    · rw [lr, List.map_id'] at r
      obtain ⟨q, e, _, g⟩ := isNX_V (f := fun k : Nat => V.int (k : Nat)) r
      exact ⟨q, e, g⟩
    · rw [filt_true, List.map_id', e2n, Int.toNat_natCast] at r
      exact r
    obtain ⟨p5, hs5, rfl, _, g5, rl5⟩ := r5
    generalize e5 : putF ("heaps" : Str) (.ref p5) f3 = f5 at h5
    have z5 : f5.length ≤ 2 := by rw [← e5]; exact Nat.le_trans (putF_len _ _ _) (by omega)
    have on5 : f5.lookup ("inner" : Str) = some (.ref l) := by rw [← e5, lk_ne (by decide +kernel)]; exact on3
    have on6 : f5.lookup ("heaps" : Str) = some (.ref p5) := by rw [← e5]; exact lk_eq
    have off5 : ∀ f, f ≠ ("inner" : Str) → f ≠ ("heaps" : Str) → f5.lookup f = none := fun f a b => by rw [← e5, lk_ne b]; exact off3 f a
    have st5 := stabO G H x (.ins C' dx f5)
    have h15 := h14.mono s5
    have l5 := rl_len rl5
    rw [List.length_range] at l5
    have hsz : (10000000 : Nat) ≤ sizeLine := by decide
    have wc : ("," : Str).length = 1 := by decide +kernel
    have shn : ∀ {k : Nat}, k < d.names.length → (d.names.getD k ("" : Str)).length ≤ 100000 := fun h => o.sh _ (getD_mem h)
    have jl : ∀ a : Nat, ((((bitsOf d.names.length a).map fun k => d.names.getD k ("" : Str)).map (·.length)).sum + ((bitsOf d.names.length a).map fun k => d.names.getD k ("" : Str)).length * ("," : Str).length ≤ 6 * 100001) ∧ (Txt.join ("," : Str) ((bitsOf d.names.length a).map fun k => d.names.getD k ("" : Str))).length ≤ 6 * 100001 := fun a => by
      have hb := bits_len d.names.length a
      have hall : ∀ y ∈ (bitsOf d.names.length a).map (fun k => d.names.getD k ("" : Str)), y.length ≤ 100000 := fun y hy => by
        obtain ⟨k, hk, rfl⟩ := List.mem_map.mp hy
        exact shn (bits_lt hk)
      have z : ∀ ys : List Str, (∀ y ∈ ys, y.length ≤ 100000) → (ys.map (·.length)).sum + ys.length * 1 ≤ ys.length * 100001 := fun ys h => by
        induction ys with
        | nil => simp
        | cons y r ih =>
          have := ih fun z hz => h z (List.mem_cons_of_mem _ hz)
          have hy := h y List.mem_cons_self
          simp only [List.map_cons, List.sum_cons, List.length_cons, Nat.succ_mul]
          omega
      have z1 := z _ hall
      have z2 := StrLaws.join_length_le ("," : Str) ((bitsOf d.names.length a).map fun k => d.names.getD k ("" : Str))
      rw [wc] at z2 ⊢
      have z3 : ((bitsOf d.names.length a).map fun k => d.names.getD k ("" : Str)).length ≤ 6 := by rw [List.length_map]; omega
      have z4 : ((bitsOf d.names.length a).map fun k => d.names.getD k ("" : Str)).length * 100001 ≤ 6 * 100001 := Nat.mul_le_mul_right _ z3
      refine ⟨Nat.le_trans z1 z4, ?_⟩
      show (Builtin.Str.glued ("," : Str) _).length ≤ _
      rw [StrLaws.glued_eq_join]
      exact Nat.le_trans z2 (Nat.le_trans z1 z4)
    refine q_set (R := IsNX G5 (RL (fun a : Nat => IsV (.str (Txt.join ("," : Str) ((bitsOf d.names.length a).map fun k => d.names.getD k ("" : Str))))) (List.range (2 ^ d.names.length)))) h5 (ev_lcG (R := fun a : Nat => IsV (.str (Txt.join ("," : Str) ((bitsOf d.names.length a).map fun k => d.names.getD k ("" : Str))))) (ss := List.range (2 ^ d.names.length)) (σf := fun j => [some (.ref x), some (.ref l), some (.int (depL [d])), some (.ref p4), none, none, none, hs5[j]?, none, none]) st5 (ev_fldOwn rfl hC (hN _ (by decide)) on6) (SqL.of g5) (by rw [l5, List.length_range]) (by omega) (fun j y G' J hy s' t' Qs q' => ?_) (fun _ => rfl) (fun j y a G' hy ha s' => ?_)) fun v6 G6 H6 s6 r6 => ?_
    · rw [hy] at q'
      exact q'
    · show Ev _ _ _ _ [some (.ref x), some (.ref l), some (.int (depL [d])), some (.ref p4), none, none, none, hs5[j]?, none, none] _ _
      have hj : j < 2 ^ d.names.length := by
        have := (List.getElem?_eq_some_iff.mp ha).1
        rw [List.length_range] at this
        exact this
      obtain ⟨u, hu, qr, rfl, hqr⟩ := rl_get rl5 (List.getElem?_range hj)
      rw [List.getElem?_range hj] at ha
      obtain rfl := Option.some.inj ha
      rw [hu]
      refine ev_join st5 ev_c ((ev_lcVL (f := fun v => match v with | .int k => .str (d.names.getD k.toNat ("" : Str)) | _ => .non) st5 (ev_var rfl) (SqL.of (s' _ _ hqr)) (by rw [List.length_map]; have := bits_len d.names.length j; omega) (fun _ => rfl) fun i z G'' hz s'' => ?_).imp fun v G'' s'' ⟨p, e, _, g⟩ => ⟨p, e, SqL.of (by rw [g, List.map_map, List.map_map]; rfl)⟩) (Nat.le_trans (jl j).1 (by decide))
      obtain ⟨hi2, rfl⟩ := map_get hz
      have hk := bits_lt (List.getElem_mem hi2)
      exact ev_sNm st5 ((h15.mono s').mono s'') (ev_var rfl) (ea_consV (ev_var rfl) ea_nilV) (by rw [getD_names hk]; rfl)
    obtain ⟨p6, ws6, rfl, _, g6, rl6⟩ := r6
    rw [rl_vals rl6] at g6
    have h16 := h15.mono s6.g
    have la : ∀ a b : Str, (a ++ b).length = a.length + b.length := Str.length_append
    have c1 : ("{" : Str).length = 1 ∧ ("}" : Str).length = 1 ∧ ("(heap " : Str).length = 6 ∧ (")" : Str).length = 1 := by decide +kernel
    refine q_set s6.s (ev_lcVL (f := fun v => match v with | .str z => .str (("{" : Str) ++ z ++ ("}" : Str)) | _ => .non) st5 (ev_var rfl) (SqL.of g6) (by rw [List.length_map, List.length_range]; omega) (fun _ => rfl) fun j z G' hz s' => ?_) fun v7 G7 H7 s7 r7 => ?_
    · obtain ⟨hj, rfl⟩ := map_get hz
      have := (jl (List.range (2 ^ d.names.length))[j]).2
      exact ev_opV (ev_opV ev_c (ev_var rfl) (v_adds st5 (by omega))) ev_c (v_adds st5 (by simp only [la]; omega))
    obtain ⟨p7, rfl, _, g7⟩ := r7
    have g7 : G7 p7 = some (.lst ((heapNames d.names).map V.str)) := by
      rw [g7, List.map_map]
      unfold heapNames
      rw [List.map_map]
      rfl
    have es : ∀ z : Str, Str.empty ++ z = z := Str.empty_append
    have ll := o.ll
    have h17 := h16.mono s7.g
    have osl := o.sl
    refine q_supO s7.s rfl hm hf (ea_cons (ev_joined (ej_cons ev_c (by simp only [es]; omega) (ej_cons (ev_fmtS (ev_sF st5 h17 (ev_var rfl)).2.2.2.1 (by omega)) (by simp only [es, la]; omega) (ej_cons ev_c (by simp only [es, la]; omega) ej_nil))))
      (ea_cons (ev_var rfl) (ea_cons ev_c (ea_cons (ev_opV ev_c (ev_sF st5 h17 (ev_var rfl)).2.2.1 (v_shl st5 ⟨osl.1, by omega, by decide⟩)) (ea_cons (ev_var rfl) ea_nil))))) (RO := fun _ _ fs' G' => ScI (heapSD d) fs' G' ∧ (∀ f, f ∉ scF → fs'.lookup f = f5.lookup f) ∧ fs'.length ≤ f5.length + 9) (fun vs G2 s2 r2 => ?_) (fun f8 G8 H8 s8 h8 r8 => ?_)
    · obtain ⟨_, _, rfl, a1, _, _, rfl, a2, _, _, rfl, a3, _, _, rfl, a4, _, _, rfl, a5, a6⟩ := r2
      obtain rfl := (show _ = _ from a1)
      obtain rfl := (show _ = _ from a2)
      obtain rfl := (show _ = _ from a3)
      obtain rfl := (show _ = _ from a4)
      obtain rfl := (show _ = _ from a5)
      obtain rfl := (show _ = _ from a6)
      have lhn := heapNames_len d.names
      refine ⟨rfl, (heapSD d).label, p7, heapNames d.names, 0, (heapSD d).sl, depL [d], (heapSD d).th, (heapSD d).jn, by rw [es]; rfl, SqL.of (s2 _ _ g7), by omega, hnd, by omega, off5 _ (by decide +kernel) (by decide +kernel), off5 _ (by decide +kernel) (by decide +kernel), fun y dy fs' G' s3 hy hfs a b ha hb => ?_, rfl⟩
      have w1 : fs'.lookup ("inner" : Str) = some (.ref l) := (hfs _ (by decide +kernel)).trans on5
      have w2 : fs'.lookup ("heaps" : Str) = some (.ref p5) := (hfs _ (by decide +kernel)).trans on6
      rw [lhn] at ha hb
      exact ⟨⟨y, dy, l, p5, fs', d, a, b, rfl, hy, w1, w2, h17.mono (s2.trans s3), o, ⟨hs5, s3 _ _ (s2 _ _ (s7.g _ _ (s6.g _ _ g5))), rl_mon (((s6.g.trans s7.g).trans s2).trans s3) rl5⟩, ha, hb, rfl⟩, ⟨y, d, a, b, rfl, rfl⟩⟩
    · exact q_end (q f8 _ _ (own_n h8) ⟨r8.1, fun f hf h1 h2 => (r8.2.1 f hf).trans (off5 f h1 h2), (r8.2.1 _ (by decide +kernel)).trans on5⟩)
def sp_depX (K : PySem.W.Frag) (Cs : List Addr) (CB : Addr) : Sp := fun vs H Q E => ∃ (size : Int) (p : Addr) (xs : List V) (ds : List SD) (G : Hp), vs = [.int size, .ref p] ∧ Same G H ∧ G p = some (.tup xs) ∧ RL (IsScD K Cs) ds xs G ∧ (64 < size ∨ 10 < depL ds) ∧ ∀ H', Grow G H G H' → E (.ref CB) none H'
def sp_depXC (K : PySem.W.Frag) (Cs : List Addr) (CB : Addr) : Sp := fun vs H Q E => ∃ (size : Int) (xs : List V) (ds : List SD) (G : Hp), vs = .int size :: xs ∧ xs.length ≤ 100 ∧ Same G H ∧ RL (IsScD K Cs) ds xs G ∧ (64 < size ∨ 10 < depL ds) ∧ ∀ H', Grow G H G H' → E (.ref CB) none H'
theorem okStarX {x qual : Str} {stm : Stmt} {f : Addr} {fd : FuncData} {N ps : List Str} {pv : Str} {k : Nat} {sp0 : Sp} (F : Fun K x qual stm f fd) (S : FnScope N (ps ++ [pv]) (defScope stm))
    (hb : ∀ (kV doc pm : Value) (an : Option Addr) (cdv ct : Value) (us rest : List Value), us.length = ps.length → bindArgs (PySem.W.fnOf x qual (defArgs stm) (defBody stm) (defScope stm) .none kV doc pm an cdv ct) ⟨us ++ rest, []⟩ = (newTuple rest >>= fun t => pure (ps.zip us ++ [(pv, t)])))
    (hbody : ∀ (cdv : Value) (A : Around) (outer : List Env) (s : Shared) (H : Hp) (vs : List V) (Q : VK) (E : XK), Room k (A.deeper (envOfC qual (defScope stm) s.heap.objs.size f cdv)) → sp0 vs H Q E →
      ∃ t, PSs (cxOf (L2.CX P w) P w K mg base N qual (defScope stm) f cdv A outer s H E) (defBody stm) t ∧ t { nx := fun _ H' => Q .non H', rt := Q } (start N vs) H) :
    FnR P w K mg base (L2.CX P w) (k + 1) f (fun vs H Q E => ∃ ws rest, vs = ws ++ rest ∧ ws.length = ps.length ∧ rest.length ≤ sizeLine ∧ ∀ p, H p = none → sp0 (ws ++ [V.ref p]) (upd H p (.tup rest)) Q E) := by
  obtain ⟨oc, od, kV, doc, pm, an, cdv, ct, osl, rfl, lk, hcd⟩ := F.ex
  exact StX.fn_star lk hcd S StX.cxUp (hb kV doc pm an cdv ct) fun A outer s H vs Q E hr hsp => hbody cdv A outer s H vs Q E hr hsp
theorem ok_depth_aboveX {Cs : List Addr} {CB : Addr} {tM tD : Tok} (Z : Bi mg) (e_Bad : Ex0C K CB) (m_Bad : mg "BadScale" = some (.ref CB)) (g_MOST_WORTHS : mg "MOST_WORTHS" = some (.int 64 tM)) (g_DEEPEST : mg "DEEPEST" = some (.int 10 tD)) {f : Addr} {fd : FuncData} (F : Fun K "depth_above" "depth_above" s_depth_above f fd) (hm : mg "depth_above" = some (.ref f)) (hk : PySem.W.keepIn K (.ref f) = true) :
    CalleeR P w K mg base "depth_above" (L2.CX P w) 2 (sp_depXC K Cs CB) := by
  refine ⟨f, hm, hk, (okStarX (ps := ["size"]) (pv := "inner") (k := 1) (sp0 := sp_depX K Cs CB) F sc_depth_above (fun kV doc pm an cdv ct => StX.bind_star1 (p1 := "size") (pv := "inner") (B := fun us => bindArgs (PySem.W.fnOf "depth_above" "depth_above" (defArgs s_depth_above) (defBody s_depth_above) (defScope s_depth_above) .none kV doc pm an cdv ct) ⟨us, []⟩) (fun a => rfl) (fun a r rs => rfl)) (fun cdv A outer s H vs Q E hr h => ?_)).imp fun vs H Q E h => ?_⟩
  · obtain ⟨size, p, xs, ds, G, rfl, hs, hp, rl, hz, q⟩ := h
    refine ⟨_, (pss_cons (ps_set (i := 2) sc_depth_above.nd rfl (Or.inl rfl) pe_int)
  (pss_cons (ps_for (passes_of rfl) rfl (pi_tupK K (pv 1)) (pg_name (i := 3) sc_depth_above.nd rfl (Or.inl rfl)) (pss_cons (ps_if (pt_cmpR op_geA (pe_fldK K (pv 3)) (pv 2) (nomark _)) (pss_cons (ps_set (i := 2) sc_depth_above.nd rfl (Or.inl rfl) (pe_op op_addA (pe_fldK K (pv 3)) pe_int))
  pss_nil) pss_nil)
  pss_nil))
  (pss_cons (ps_if (PW.pt (pw_or (pt_cmpR op_gtA (pv 0) (pe_glob (v := .int 64) rfl g_MOST_WORTHS ⟨_, rfl⟩) (nomark _)) (pw_or1 (pt_cmpR op_gtA (pv 2) (pe_glob (v := .int 10) rfl g_DEEPEST ⟨_, rfl⟩) (nomark _))))) (pss_cons (ps_raiseS rfl e_Bad m_Bad (takes_of rfl rfl rfl rfl))
  pss_nil) pss_nil)
  (pss_cons (ps_ret (pv 2))
  pss_nil)))), ?_⟩
    have st := stab0 G H
    have h0 : SP0 G H 0 G H := Grow.refl hs
    show tSeq _ _ (Ends.mk _ _ _ _) [some _, some _, none, none] _
    refine q_setV st h0 ev_c fun H1 k1 h1 => ?_
    have lx := rl_len rl
    refine q_forPT st h1 (ev_var rfl) (SqT.of hp) (fun j σ' => ∃ a, σ' = [some (.int size), some (.ref p), some (.int (depL (ds.take j))), a]) ⟨_, rfl⟩ (fun j y σ' J hy hp' s2 => ?_) (fun σ' J hp' s2 => ?_)
    · obtain ⟨a, rfl⟩ := hp'
      have hj : j < ds.length := by
        have := (List.getElem?_eq_some_iff.mp hy).1
        omega
      obtain ⟨u, hu, x, rfl, hx⟩ := rl_get rl (List.getElem?_eq_getElem hj)
      rw [hu] at hy
      obtain rfl := Option.some.inj hy
      have e : depL (ds.take (j + 1)) = if (ds[j]).dep ≥ depL (ds.take j) then (ds[j]).dep + 1 else depL (ds.take j) := by
        unfold depL
        rw [List.take_succ_eq_append_getElem hj, List.foldl_append]
        rfl
      rw [e]
      generalize depL (ds.take j) = acc
      show tSeq _ _ (Ends.mk _ _ _ _) [some (.int size), some (.ref p), some (.int acc), some (.ref x)] _
      have fd := fun {n : Nat} {σ : L2.St} (e : σ[3]? = some (some (.ref x))) => (ev_sF (K := K) (n := n) st hx (ev_var e)).2.2.2.2
      refine q_if st s2.s (et_testV (ev_opV (fd rfl) (ev_var rfl) (v_ge st))) (fun H3 p3 k3 h3 => ?_) (fun H3 p3 k3 h3 => ?_)
      · have p3 : (ds[j]).dep ≥ acc := by simpa using p3
        exact q_setV st h3 (ev_opV (fd rfl) ev_c (v_add st)) fun H4 k4 h4 => q_end (q_end ⟨⟨_, by rw [if_pos p3]; rfl⟩, (s2.go k3 h3).go k4 h4⟩)
      · have p3 : ¬ (ds[j]).dep ≥ acc := by simpa using p3
        exact q_end (q_end ⟨⟨_, by rw [if_neg p3]⟩, s2.go k3 h3⟩)
    · obtain ⟨a, rfl⟩ := hp'
      rw [lx, List.take_length]
      refine q_if st s2.s (et_or st (et_testV (ev_opV (ev_var rfl) ev_c (v_gt st))) (fun _ => et_testV (ev_opV (ev_var rfl) ev_c (v_gt st)))) (fun H3 p3 k3 h3 => ?_) (fun H3 p3 k3 h3 => ?_)
      · exact q_raise0 (q H3 h3)
      · refine absurd p3 ?_
        simp
        omega
  · obtain ⟨size, xs, ds, G, rfl, hl, hs, rl, hz, q⟩ := h
    refine ⟨[.int size], xs, rfl, rfl, Nat.le_trans hl (by decide), fun p hp => ?_⟩
    have g := Grow.new hs hp (.tup xs)
    refine ⟨size, p, xs, ds, upd G p (.tup xs), rfl, g.s, upd_same, rl_mon g.g rl, hz, fun H' g' => q H' ?_⟩
    have z := g.trans g'
    exact ⟨Same.refl _, z.h, g.g.trans z.s, fun b o e => .inl e⟩
/-- what a maker finds that raises at once -/
theorem ok_CountX {CB D : Addr} {tM : Tok} (Z : Bi mg) (e_Bad : Ex0C K CB) (m_Bad : mg "BadScale" = some (.ref CB)) (g_MOST_WORTHS : mg "MOST_WORTHS" = some (.int 64 tM)) (opq : PySem.W.nsIn K cStatics "thirdparty.any" = some none) (top0 : (P.main.scope.names.lookup ("super" : Str)).isSome = false)
    {f : Addr} {fd : FuncData} (F : FunSD P K "__init__" "CountScale.__init__" s_CountScale___init__ [] [("order", .str "up")] f fd D) : FnOk P w K mg base (L2.CX P w) 10 f fd ["self", "most", "order"] (spXI CB PCsX) := by
  refine F.toS.okX sc_CountScale___init__ Z.z_super opq top0 rfl rfl (fun vs H Q E h => ?_) (fun cdv cc A outer s H vs Q E hr h SA => ?_)
  · obtain ⟨x, C', dx, rest, G, rfl, _, _, _, ⟨m, o, rfl, _⟩, _⟩ := h
    rfl
  · obtain ⟨x, C', dx, rest, G, rfl, hx, hG, gx, ⟨m, o, rfl, hb⟩, q⟩ := h
    refine ⟨_, (psa_cons (ps_if (PW.pt (pw_or (pt_cmpR (op_ninA K (hu_of hr)) (pv 2) (pe_tup (pa_cons pe_str (pa_cons pe_str pa_nil))) (by rfl)) (pw_or1 (pt_not (pt_chain op_leA op_leA pe_int (pv 1) (pe_op op_subA (pe_glob (v := .int 64) rfl g_MOST_WORTHS ⟨_, rfl⟩) pe_int)))))) (pss_cons (ps_raiseS rfl e_Bad m_Bad (takes_of rfl rfl rfl rfl))
  pss_nil) pss_nil)
  (psa_cons ps_never
  (psa_cons ps_never
  (psa_cons ps_never
  (psa_cons ps_never
  (psa_end pss_nil)))))), ?_⟩
    have h0 := own_start (o := .ins C' dx []) hG gx hx 0
    have st0 := stabO G H x (.ins C' dx [])
    show tSeq _ _ (Ends.mk _ _ _ _) [some _, some _, some _, none, none] _
    refine q_if st0 h0 (et_or st0 (et_testV (b := (!inV (.str o) [.str ("up" : Str), .str ("down" : Str)])) (ev_op (ev_var rfl) (ev_tupN st0 (ea_consV ev_c (ea_consV ev_c ea_nilV)) (by simp)) fun a b G2 s2 ea eb => ?_)) (fun _ => et_not (et_testV (ev_chain st0 ev_c (ev_var rfl) (v_le st0) (ev_opV ev_c ev_c (v_sub st0)) (v_le st0))))) (fun H1 p1 k1 h1 => ?_) (fun H1 p1 k1 h1 => ?_)
    · obtain rfl := (show _ = _ from ea)
      obtain ⟨tp, rfl, _, ht⟩ := eb
      exact v_inT (neg := true) st0 (SqT.of ht) rfl rfl
    · exact q_raise0 (q _ _ _ (own_n h1))
    · refine absurd p1 ?_
      rcases hb with ⟨a, b⟩ | hb
      · have e1 : inV (.str o) [.str ("up" : Str), .str ("down" : Str)] = false := by
          simp [inV, eqV, a, b, Ne.symm a, Ne.symm b]
        rw [e1]
        simp
      · simp
        intro _
        omega
theorem ok_SpanX {CB D : Addr} {tM : Tok} (Z : Bi mg) (e_Bad : Ex0C K CB) (m_Bad : mg "BadScale" = some (.ref CB)) (g_MOST_WORTHS : mg "MOST_WORTHS" = some (.int 64 tM)) (opq : PySem.W.nsIn K cStatics "thirdparty.any" = some none) (top0 : (P.main.scope.names.lookup ("super" : Str)).isSome = false)
    {f : Addr} {fd : FuncData} (F : FunSD P K "__init__" "SpanScale.__init__" s_SpanScale___init__ [] [] f fd D) : FnOk P w K mg base (L2.CX P w) 10 f fd ["self", "most"] (spXI CB PSpX) := by
  refine F.toS.okX sc_SpanScale___init__ Z.z_super opq top0 rfl rfl (fun vs H Q E h => ?_) (fun cdv cc A outer s H vs Q E hr h SA => ?_)
  · obtain ⟨x, C', dx, rest, G, rfl, _, _, _, ⟨m, rfl, _⟩, _⟩ := h
    rfl
  · obtain ⟨x, C', dx, rest, G, rfl, hx, hG, gx, ⟨m, rfl, h3, hb⟩, q⟩ := h
    refine ⟨_, (psa_cons (ps_if (PW.pt (pw_or (pt_cmpR op_ltA (pv 1) pe_int (nomark _)) (pw_or1 (pt_cmpR op_geA (pe_op op_divA (pe_op op_mulA (pe_op op_addA (pv 1) pe_int) (pe_op op_addA (pv 1) pe_int)) pe_int) (pe_glob (v := .int 64) rfl g_MOST_WORTHS ⟨_, rfl⟩) (nomark _))))) (pss_cons (ps_raiseS rfl e_Bad m_Bad (takes_of rfl rfl rfl rfl))
  pss_nil) pss_nil)
  (psa_cons ps_never
  (psa_cons ps_never
  (psa_cons ps_never
  (psa_cons ps_never
  (psa_end pss_nil)))))), ?_⟩
    have h0 := own_start (o := .ins C' dx []) hG gx hx 0
    have st0 := stabO G H x (.ins C' dx [])
    have lg : ∀ z : Int, 0 ≤ z → z < 2 ^ 301 → z.natAbs.log2 < 301 := fun z h1 h2 => by
      by_cases h0 : z.natAbs = 0
      · rw [h0]
        decide
      · rw [Nat.log2_lt h0]
        have : ((z.natAbs : Nat) : Int) < ((2 ^ 301 : Nat) : Int) := by
          rw [Int.natAbs_of_nonneg h1]
          exact h2
        exact_mod_cast this
    show tSeq _ _ (Ends.mk _ _ _ _) [some _, some _, none, none, none, none] _
    refine q_if st0 h0 (et_or st0 (et_testV (ev_opV (ev_var rfl) ev_c (v_lt st0))) (fun hn => et_testV (ev_opV (ev_opV (ev_opV (ev_opV (ev_var rfl) ev_c (v_add st0)) (ev_opV (ev_var rfl) ev_c (v_add st0)) (v_mulW st0 ?_)) ev_c (v_divW st0 ⟨by decide, by decide⟩)) ev_c (v_ge st0)))) (fun H1 p1 k1 h1 => ?_) (fun H1 p1 k1 h1 => ?_)
    · have hn := of_decide_eq_false hn
      have a1 := lg (m + 1) (by omega) (by omega)
      have a2 := lg (m + 2) (by omega) (by omega)
      show (m + 1).natAbs.log2 + (m + 2).natAbs.log2 < 1000000
      omega
    · exact q_raise0 (q _ _ _ (own_n h1))
    · refine absurd p1 ?_
      simp
      intro hm
      have h10 : 10 ≤ m := by omega
      have hp : (11 : Int) * 12 ≤ (m + 1) * (m + 2) := Int.mul_le_mul (by omega) (by omega) (by decide) (by omega)
      generalize (m + 1) * (m + 2) = z at hp
      omega
theorem ok_SetX {CB D : Addr} (Z : Bi mg) (e_Bad : Ex0C K CB) (m_Bad : mg "BadScale" = some (.ref CB)) (opq : PySem.W.nsIn K cStatics "thirdparty.any" = some none) (top0 : (P.main.scope.names.lookup ("super" : Str)).isSome = false)
    {f : Addr} {fd : FuncData} (F : FunSD P K "__init__" "SetScale.__init__" s_SetScale___init__ [] [("join", .str "may")] f fd D) : FnOk P w K mg base (L2.CX P w) 10 f fd ["self", "count", "join"] (spXI CB PStX) := by
  refine F.toS.okX sc_SetScale___init__ Z.z_super opq top0 rfl rfl (fun vs H Q E h => ?_) (fun cdv cc A outer s H vs Q E hr h SA => ?_)
  · obtain ⟨x, C', dx, rest, G, rfl, _, _, _, ⟨m, o, rfl, _⟩, _⟩ := h
    rfl
  · obtain ⟨x, C', dx, rest, G, rfl, hx, hG, gx, ⟨m, o, rfl, hb⟩, q⟩ := h
    refine ⟨_, (psa_cons (ps_if (PW.pt (pw_or (pt_cmpR (op_ninA K (hu_of hr)) (pv 2) (pe_tup (pa_cons pe_str (pa_cons pe_str pa_nil))) (by rfl)) (pw_or1 (pt_not (pt_chain op_leA op_leA pe_int (pv 1) pe_int))))) (pss_cons (ps_raiseS rfl e_Bad m_Bad (takes_of rfl rfl rfl rfl))
  pss_nil) pss_nil)
  (psa_cons ps_never
  (psa_cons ps_never
  (psa_cons ps_never
  (psa_end pss_nil))))), ?_⟩
    have h0 := own_start (o := .ins C' dx []) hG gx hx 0
    have st0 := stabO G H x (.ins C' dx [])
    show tSeq _ _ (Ends.mk _ _ _ _) [some _, some _, some _, none, none] _
    refine q_if st0 h0 (et_or st0 (et_testV (b := (!inV (.str o) [.str ("may" : Str), .str ("must" : Str)])) (ev_op (ev_var rfl) (ev_tupN st0 (ea_consV ev_c (ea_consV ev_c ea_nilV)) (by simp)) fun a b G2 s2 ea eb => ?_)) (fun _ => et_not (et_testV (ev_chain st0 ev_c (ev_var rfl) (v_le st0) ev_c (v_le st0))))) (fun H1 p1 k1 h1 => ?_) (fun H1 p1 k1 h1 => ?_)
    · obtain rfl := (show _ = _ from ea)
      obtain ⟨tp, rfl, _, ht⟩ := eb
      exact v_inT (neg := true) st0 (SqT.of ht) rfl rfl
    · exact q_raise0 (q _ _ _ (own_n h1))
    · refine absurd p1 ?_
      rcases hb with ⟨a, b⟩ | hb
      · have e1 : inV (.str o) [.str ("may" : Str), .str ("must" : Str)] = false := by
          simp [inV, eqV, a, b, Ne.symm a, Ne.symm b]
        rw [e1]
        simp
      · simp
        intro _
        omega
theorem ok_WatchX {CB D : Addr} (Z : Bi mg) (e_Bad : Ex0C K CB) (m_Bad : mg "BadScale" = some (.ref CB)) (opq : PySem.W.nsIn K cStatics "thirdparty.any" = some none) (top0 : (P.main.scope.names.lookup ("super" : Str)).isSome = false)
    {f : Addr} {fd : FuncData} (F : FunSD P K "__init__" "WatchScale.__init__" s_WatchScale___init__ [] [] f fd D) : FnOk P w K mg base (L2.CX P w) 10 f fd ["self", "states"] (spXI CB PWtX) := by
  refine F.toS.okX sc_WatchScale___init__ Z.z_super opq top0 rfl rfl (fun vs H Q E h => ?_) (fun cdv cc A outer s H vs Q E hr h SA => ?_)
  · obtain ⟨x, C', dx, rest, G, rfl, _, _, _, ⟨m, rfl, _⟩, _⟩ := h
    rfl
  · obtain ⟨x, C', dx, rest, G, rfl, hx, hG, gx, ⟨m, rfl, a, b⟩, q⟩ := h
    refine ⟨_, (psa_cons (ps_if (pt_cmpR (op_ninA K (hu_of hr)) (pv 1) (pe_tup (pa_cons pe_int (pa_cons pe_int pa_nil))) (by rfl)) (pss_cons (ps_raiseS rfl e_Bad m_Bad (takes_of rfl rfl rfl rfl))
  pss_nil) pss_nil)
  (psa_cons ps_never
  (psa_cons ps_never
  (psa_cons ps_never
  (psa_cons ps_never
  (psa_end pss_nil)))))), ?_⟩
    have h0 := own_start (o := .ins C' dx []) hG gx hx 0
    have st0 := stabO G H x (.ins C' dx [])
    show tSeq _ _ (Ends.mk _ _ _ _) [some _, some _, none, none, none, none] _
    refine q_if st0 h0 (et_testV (b := (!inV (.int m) [.int 1, .int 2])) (ev_op (ev_var rfl) (ev_tupN st0 (ea_consV ev_c (ea_consV ev_c ea_nilV)) (by simp)) fun u v G2 s2 ea eb => ?_)) (fun H1 p1 k1 h1 => ?_) (fun H1 p1 k1 h1 => ?_)
    · obtain rfl := (show _ = _ from ea)
      obtain ⟨tp, rfl, _, ht⟩ := eb
      exact v_inT (neg := true) st0 (SqT.of ht) rfl rfl
    · exact q_raise0 (q _ _ _ (own_n h1))
    · refine absurd p1 ?_
      have e1 : inV (.int m) [.int 1, .int 2] = false := by
        simp [inV, eqV, a, b, Ne.symm a, Ne.symm b]
      rw [e1]
      simp
theorem ok_PairX {Cs : List Addr} {CB D : Addr} (Z : Bi mg) (cX_depth_above : CalleeR P w K mg base "depth_above" (L2.CX P w) 2 (sp_depXC K Cs CB)) (opq : PySem.W.nsIn K cStatics "thirdparty.any" = some none) (top0 : (P.main.scope.names.lookup ("super" : Str)).isSome = false)
    {f : Addr} {fd : FuncData} (F : FunSD P K "__init__" "PairScale.__init__" s_PairScale___init__ [] [] f fd D) : FnOk P w K mg base (L2.CX P w) 10 f fd ["self", "left", "right"] (spXI CB (PPrX K Cs)) := by
  refine F.toS.okX sc_PairScale___init__ Z.z_super opq top0 rfl rfl (fun vs H Q E h => ?_) (fun cdv cc A outer s H vs Q E hr h SA => ?_)
  · obtain ⟨x, C', dx, rest, G, rfl, _, _, _, ⟨_, _, _, _, rfl, _⟩, _⟩ := h
    rfl
  · obtain ⟨x, C', dx, rest, G, rfl, hx, hG, gx, ⟨l, r, d1, d2, rfl, s1, s2, n1, n2, hb⟩, q⟩ := h
    refine ⟨_, (psa_cons (ps_set (i := 3) sc_PairScale___init__.nd rfl (Or.inl rfl) (pe_callRC cX_depth_above (hr.mono (by decide)) (passE (takes_of rfl rfl rfl rfl)) (pa_cons (pe_op op_mulA (pe_fldK K (pv 1)) (pe_fldK K (pv 2))) (pa_cons (pv 1) (pa_cons (pv 2) pa_nil)))))
  (psa_cons ps_never
  (psa_cons ps_never
  (psa_cons ps_never
  (psa_cons ps_never
  (psa_cons ps_never
  (psa_cons ps_never
  (psa_cons ps_never
  (psa_end pss_nil))))))))), ?_⟩
    have h0 := own_start (o := .ins C' dx []) hG gx hx 0
    have st0 := stabO G H x (.ins C' dx [])
    show tSeq _ _ (Ends.mk _ _ _ _) [some _, some _, some _, none, none, none, none, none, none, none] _
    refine q_set h0 (R := fun _ _ => False) (ev_callF (ea_cons (ev_opV (ev_sF st0 s1 (ev_var rfl)).1 (ev_sF st0 s2 (ev_var rfl)).1 (v_mul st0 (.inl ⟨by omega, by omega⟩))) (ea_cons (ev_var (x := .ref l) rfl) (ea_cons (ev_var (x := .ref r) rfl) ea_nil))) fun vs G2 H2 Q' s3s s3g e => ?_) fun _ _ _ _ h => h.elim
    obtain ⟨_, _, rfl, e1, _, _, rfl, e2, _, _, rfl, e3, e4⟩ := e
    obtain rfl := (show _ = _ from e1)
    obtain rfl := (show _ = _ from e2)
    obtain rfl := (show _ = _ from e3)
    obtain rfl := (show _ = [] from e4)
    refine ⟨_, _, [d1, d2], G2, rfl, by simp, st0.sub s3s, ⟨_, _, rfl, ⟨l, rfl, s1.mono s3g⟩, _, _, rfl, ⟨r, rfl, s2.mono s3g⟩, rfl⟩, ?_, fun H' g => q _ _ _ (own_n (st0.grow s3s g))⟩
    rcases hb with hb | hb
    · left
      have : ((64 : Nat) : Int) < ((d1.names.length * d2.names.length : Nat) : Int) := by exact_mod_cast hb
      rw [Int.natCast_mul] at this
      exact this
    · exact .inr hb
theorem ok_TurnX {Cs : List Addr} {CB D : Addr} (Z : Bi mg) (cX_depth_above : CalleeR P w K mg base "depth_above" (L2.CX P w) 2 (sp_depXC K Cs CB)) (opq : PySem.W.nsIn K cStatics "thirdparty.any" = some none) (top0 : (P.main.scope.names.lookup ("super" : Str)).isSome = false)
    {f : Addr} {fd : FuncData} (F : FunSD P K "__init__" "TurnedScale.__init__" s_TurnedScale___init__ [] [] f fd D) : FnOk P w K mg base (L2.CX P w) 10 f fd ["self", "inner"] (spXI CB (PTuX K Cs)) := by
  refine F.toS.okX sc_TurnedScale___init__ Z.z_super opq top0 rfl rfl (fun vs H Q E h => ?_) (fun cdv cc A outer s H vs Q E hr h SA => ?_)
  · obtain ⟨x, C', dx, rest, G, rfl, _, _, _, ⟨_, _, rfl, _⟩, _⟩ := h
    rfl
  · obtain ⟨x, C', dx, rest, G, rfl, hx, hG, gx, ⟨l, d, rfl, s1, hb⟩, q⟩ := h
    refine ⟨_, (psa_cons (ps_set (i := 2) sc_TurnedScale___init__.nd rfl (Or.inl rfl) (pe_callRC cX_depth_above (hr.mono (by decide)) (passE (takes_of rfl rfl rfl rfl)) (pa_cons (pe_fldK K (pv 1)) (pa_cons (pv 1) pa_nil))))
  (psa_cons ps_never
  (psa_cons ps_never
  (psa_cons ps_never
  (psa_end pss_nil))))), ?_⟩
    have h0 := own_start (o := .ins C' dx []) hG gx hx 0
    have st0 := stabO G H x (.ins C' dx [])
    show tSeq _ _ (Ends.mk _ _ _ _) [some _, some _, none, none, none] _
    refine q_set h0 (R := fun _ _ => False) (ev_callF (ea_cons (ev_sF st0 s1 (ev_var rfl)).1 (ea_cons (ev_var (x := .ref l) rfl) ea_nil)) fun vs G2 H2 Q' s3s s3g e => ?_) fun _ _ _ _ h => h.elim
    obtain ⟨_, _, rfl, e1, _, _, rfl, e2, e4⟩ := e
    obtain rfl := (show _ = _ from e1)
    obtain rfl := (show _ = _ from e2)
    obtain rfl := (show _ = [] from e4)
    exact ⟨_, _, [d], G2, rfl, by simp, st0.sub s3s, ⟨_, _, rfl, ⟨l, rfl, s1.mono s3g⟩, rfl⟩, .inr hb, fun H' g => q _ _ _ (own_n (st0.grow s3s g))⟩
theorem ok_HeapX {Cs : List Addr} {CB D : Addr} (Z : Bi mg) (cX_depth_above : CalleeR P w K mg base "depth_above" (L2.CX P w) 2 (sp_depXC K Cs CB)) (opq : PySem.W.nsIn K cStatics "thirdparty.any" = some none) (top0 : (P.main.scope.names.lookup ("super" : Str)).isSome = false)
    {f : Addr} {fd : FuncData} (F : FunSD P K "__init__" "HeapScale.__init__" s_HeapScale___init__ [] [] f fd D) : FnOk P w K mg base (L2.CX P w) 10 f fd ["self", "inner"] (spXI CB (PHpX K Cs)) := by
  refine F.toS.okX sc_HeapScale___init__ Z.z_super opq top0 rfl rfl (fun vs H Q E h => ?_) (fun cdv cc A outer s H vs Q E hr h SA => ?_)
  · obtain ⟨x, C', dx, rest, G, rfl, _, _, _, ⟨_, _, rfl, _⟩, _⟩ := h
    rfl
  · obtain ⟨x, C', dx, rest, G, rfl, hx, hG, gx, ⟨l, d, rfl, s1, n1, hb⟩, q⟩ := h
    refine ⟨_, (psa_cons (ps_set (i := 2) sc_HeapScale___init__.nd rfl (Or.inl rfl) (pe_callRC cX_depth_above (hr.mono (by decide)) (passE (takes_of rfl rfl rfl rfl)) (pa_cons (pe_op op_shl pe_int (pe_fldK K (pv 1))) (pa_cons (pv 1) pa_nil))))
  (psa_cons ps_never
  (psa_cons ps_never
  (psa_cons ps_never
  (psa_cons ps_never
  (psa_cons ps_never
  (psa_cons ps_never
  (psa_end pss_nil)))))))), ?_⟩
    have h0 := own_start (o := .ins C' dx []) hG gx hx 0
    have st0 := stabO G H x (.ins C' dx [])
    show tSeq _ _ (Ends.mk _ _ _ _) [some _, some _, none, none, none, none, none, none, none, none] _
    refine q_set h0 (R := fun _ _ => False) (ev_callF (ea_cons (ev_opV ev_c (ev_sF st0 s1 (ev_var rfl)).1 (v_shl (i := 1) st0 ⟨by omega, by omega, by decide⟩)) (ea_cons (ev_var (x := .ref l) rfl) ea_nil)) fun vs G2 H2 Q' s3s s3g e => ?_) fun _ _ _ _ h => h.elim
    obtain ⟨_, _, rfl, e1, _, _, rfl, e2, e4⟩ := e
    obtain rfl := (show _ = _ from e1)
    obtain rfl := (show _ = _ from e2)
    obtain rfl := (show _ = [] from e4)
    refine ⟨_, _, [d], G2, rfl, by simp, st0.sub s3s, ⟨_, _, rfl, ⟨l, rfl, s1.mono s3g⟩, rfl⟩, ?_, fun H' g => q _ _ _ (own_n (st0.grow s3s g))⟩
    rcases hb with hb | hb
    · left
      rw [Int.toNat_natCast, Int.one_mul]
      have h7 : 2 ^ 7 ≤ 2 ^ d.names.length := Nat.pow_le_pow_right (by decide) (by omega)
      have : ((64 : Nat) : Int) < ((2 ^ d.names.length : Nat) : Int) := by
        have : 64 < 2 ^ d.names.length := by omega
        exact_mod_cast this
      rw [Int.natCast_pow] at this
      exact this
    · exact .inr hb
theorem ev_2I {S : SR} {n ka kb : Nat} {ta tb : TE} {σ : L2.St} {G : Hp} {r : R2} {f : Int → Int → Int} {P1 P2 P3 : Int → Prop} (ha : Ev S n ka ta σ G (IsI P1)) (hb : Ev S (n + ka) kb tb σ G (IsI P2)) (hr : ∀ i j G', RV S r (.int i) (.int j) G' (IsV (.int (f i j)))) (h : ∀ i j, P1 i → P2 j → P3 (f i j)) : Ev S n (ka + kb) (tOp r ta tb) σ G (IsI P3) :=
  ev_op ha hb fun x y G' s' hx hy => by
    obtain ⟨i, pi, rfl⟩ := hx
    obtain ⟨j, pj, rfl⟩ := hy
    exact rv_imp (hr i j G') fun v G2 s2 r => ⟨_, h i j pi pj, r⟩
abbrev s__law_number : Stmt := top 31
theorem sc__law_number : FnScope ["_law_state", "_law_below", "_law_above", "_law_way"] ["_law_state", "_law_below", "_law_above"] (defScope s__law_number) := ⟨rfl, rfl, rfl, by decide +kernel, rfl, by decide +kernel, by decide +kernel⟩
theorem ok_number06 (c__law_pick : Callee P w K mg base "_law_pick" CX0 1 ["_law_source_here", "_law_many"] [] sp_pick) {f : Addr} {fd : FuncData} (F : Fun K "_law_number" "_law_number" s__law_number f fd) : FnOk P w K mg base CX0 2 f fd ["_law_state", "_law_below", "_law_above"] (spS PNum6) := by
  refine F.ok sc__law_number (fun vs H Q E h => ?_) (fun cdv A outer s H vs Q E hr h => ?_)
  · obtain ⟨_, _, _, _, _, _, _, ⟨_, _, rfl, _⟩, _⟩ := h
    rfl
  · obtain ⟨sa, cl, n, k, G, R, h0, ⟨a, b, rfl, ha, hab, hb, hn, rfl, rfl⟩, q⟩ := h
    refine ⟨_, (pss_cons (ps_set (i := 3) sc__law_number.nd rfl (Or.inl rfl) (pe_callC c__law_pick (hr.mono (by decide)) pass0 (pa_cons (pv 0) (pa_cons pe_int pa_nil))))
  (pss_cons (ps_if (pt_cmpR (op_eqA K hr.units) (pv 3) pe_int (nomark _)) (pss_cons (ps_ret (pe_op op_addA (pe_op op_pow pe_int pe_int) (pe_callC c__law_pick (hr.mono (by decide)) pass0 (pa_cons (pv 0) (pa_cons (pe_op op_pow pe_int pe_int) pa_nil)))))
  pss_nil) pss_nil)
  (pss_cons (ps_if (pt_cmpR (op_eqA K hr.units) (pv 3) pe_int (nomark _)) (pss_cons (ps_ret (pe_op op_subA (pe_un un_neg pe_int) (pe_callC c__law_pick (hr.mono (by decide)) pass0 (pa_cons (pv 0) (pa_cons (pe_op op_pow pe_int pe_int) pa_nil)))))
  pss_nil) pss_nil)
  (pss_cons (ps_ret (pe_op op_addA (pv 1) (pe_callC c__law_pick (hr.mono (by decide)) pass0 (pa_cons (pv 0) (pa_cons (pe_op op_addA (pe_op op_subA (pv 2) (pv 1)) pe_int) pa_nil)))))
  pss_nil)))), ?_⟩
    have st := stabS sa cl
    show tSeq _ _ (Ends.mk _ _ _ _) [some _, some _, some _, none] _
    refine q_setI st h0 (ev_pick (ea_consV (ev_var rfl) (ea_consV ev_c ea_nilV)) (by decide) (by decide)) fun way H1 hw k1 h1 => ?_
    have p59 : ∀ {m : Nat} {σ : L2.St} {G' : Hp}, Ev (Src sa cl) m (0 + 0) (tOp (rI CPow fun i j => .int (i ^ j.toNat)) (tC (.int 10)) (tC (.int 59))) σ G' (IsV (.int (10 ^ 59))) := fun {m σ G'} => ev_opV ev_c ev_c (v_pow st ⟨by decide, by decide, by decide⟩)
    refine q_if st h1 (et_testV (ev_opV (ev_var rfl) ev_c (v_eqI st))) (fun H2 p2 k2 h2 => ?_) (fun H2 p2 k2 h2 => q_end ?_)
    · exact q_ret h2 (ev_2I (P3 := fun z => -(10 ^ 60) ≤ z ∧ z < 10 ^ 60) (P1 := fun z => z = 10 ^ 59) (P2 := fun z => 0 ≤ z ∧ z < 10 ^ 59) (ev_IP p59 rfl) (ev_pickW (many := 10 ^ 59) (ea_consV (ev_var rfl) (ea_consV p59 ea_nilV)) (by decide) (by decide) (by omega)) (fun i j G' => v_add st) fun i j h1 h2 => by omega) fun v5 G5 H5 s5 r5 => q v5 G5 H5 (Fr.stp (((Fr.refl G H).kp k1).kp k2 |>.trans s5.fr) (st.wk s5.s (by omega))) r5
    refine q_if st h2 (et_testV (ev_opV (ev_var rfl) ev_c (v_eqI st))) (fun H3 p3 k3 h3 => ?_) (fun H3 p3 k3 h3 => q_end ?_)
    · exact q_ret h3 (ev_2I (P3 := fun z => -(10 ^ 60) ≤ z ∧ z < 10 ^ 60) (P1 := fun z => z = -1) (P2 := fun z => 0 ≤ z ∧ z < 10 ^ 59) (ev_IP (ev_unV ev_c (u_neg st)) rfl) (ev_pickW (many := 10 ^ 59) (ea_consV (ev_var rfl) (ea_consV p59 ea_nilV)) (by decide) (by decide) (by omega)) (fun i j G' => v_sub st) fun i j h1 h2 => by omega) fun v5 G5 H5 s5 r5 => q v5 G5 H5 (Fr.stp (((Fr.refl G H).kp k1).kp k2 |>.kp k3 |>.trans s5.fr) (st.wk s5.s (by omega))) r5
    exact q_ret h3 (ev_2I (P3 := fun z => -(10 ^ 60) ≤ z ∧ z < 10 ^ 60) (P1 := fun z => z = a) (P2 := fun z => 0 ≤ z ∧ z < b - a + 1) (ev_IP (ev_var rfl) rfl) (ev_pickW (many := b - a + 1) (ea_consV (ev_var rfl) (ea_consV (ev_opV (ev_opV (ev_var rfl) (ev_var rfl) (v_sub st)) ev_c (v_add st)) ea_nilV)) (by omega) (by omega) (by omega)) (fun i j G' => v_add st) fun i j h1 h2 => by omega) fun v5 G5 H5 s5 r5 => q v5 G5 H5 (Fr.stp (((Fr.refl G H).kp k1).kp k2 |>.kp k3 |>.trans s5.fr) (st.wk s5.s (by omega))) r5
theorem et_word2 {S : SR} {n : Nat} {σ : L2.St} {G : Hp} {i : Nat} {s a b : Str} (st : Stab S) (e : σ[i]? = some (some (.str s))) : EvT S n (0 + (0 + (0 + 0))) (tTest (tOp (rInA K false) (tVar i) (tLst (tCons (tC (.str a)) (tCons (tC (.str b)) tNil))))) σ G (fun c => c = decide (s = a ∨ s = b)) :=
  (et_testV (b := inV (.str s) [.str a, .str b]) (ev_op (Ra := IsV (.str s)) (Rb := IsNew G (.lst [.str a, .str b])) (ev_var e) (ev_lstN st (ea_consV ev_c (ea_consV ev_c ea_nilV)) (by simp)) fun x y G2 s2 ea eb => by
    obtain rfl := (show _ = _ from ea)
    obtain ⟨p, rfl, _, g⟩ := eb
    exact v_inL (neg := false) st (SqL.of g) rfl rfl)).imp fun c h => by
    rw [h]
    simp only [inV, eqV, List.any_cons, List.any_nil, Bool.or_false, Bool.decide_or]
    have e : ∀ u v : Str, (u == v) = decide (v = u) := fun u v => by
      by_cases h : u = v
      · subst h
        simp
      · simp [h, Ne.symm h]
    rw [e, e]
abbrev s__law_family_size : Stmt := top 32
theorem sc__law_family_size : FnScope ["_law_kind", "_law_number_here", "_law_sort"] ["_law_kind", "_law_number_here", "_law_sort"] (defScope s__law_family_size) := ⟨rfl, rfl, rfl, by decide +kernel, rfl, by decide +kernel, by decide +kernel⟩
theorem ok_fsize06 {f : Addr} {fd : FuncData} (F : Fun K "_law_family_size" "_law_family_size" s__law_family_size f fd) : FnOk P w K mg base CX0 1 f fd ["_law_kind", "_law_number_here", "_law_sort"] (spP (PFsz K)) := by
  refine F.ok sc__law_family_size (fun vs H Q E h => ?_) (fun cdv A outer s H vs Q E hr h => ?_)
  · obtain ⟨_, _, _, ⟨_, _, _, rfl, _⟩, _⟩ := h
    rfl
  · obtain ⟨G, R, hs, ⟨kd, m, so, rfl, k0, k4, m0, m1, rfl⟩, q⟩ := h
    refine ⟨_, (pss_cons (ps_if (pt_cmpR (op_eqA K hr.units) (pv 0) pe_int (nomark _)) (pss_cons (ps_ret (pe_ifExp (PW.pt (pw_and (pt_chain op_leA op_leA pe_int (pv 1) pe_int) (pw_and1 (pt_cmpR (op_inA K (hu_of hr)) (pv 2) (pe_lst (pa_cons pe_str (pa_cons pe_str pa_nil))) (by rfl))))) (pe_op op_addA (pv 1) pe_int) (pe_un un_neg pe_int)))
  pss_nil) pss_nil)
  (pss_cons (ps_if (pt_cmpR (op_eqA K hr.units) (pv 0) pe_int (nomark _)) (pss_cons (ps_ret (pe_ifExp (pt_chain op_leA op_leA pe_int (pv 1) pe_int) (pe_op op_addA (pe_op op_divA (pe_op op_mulA (pe_op op_addA (pv 1) pe_int) (pe_op op_addA (pv 1) pe_int)) pe_int) pe_int) (pe_un un_neg pe_int)))
  pss_nil) pss_nil)
  (pss_cons (ps_if (pt_cmpR (op_eqA K hr.units) (pv 0) pe_int (nomark _)) (pss_cons (ps_ret (pe_ifExp (PW.pt (pw_and (pt_chain op_leA op_leA pe_int (pv 1) pe_int) (pw_and1 (pt_cmpR (op_inA K (hu_of hr)) (pv 2) (pe_lst (pa_cons pe_str (pa_cons pe_str pa_nil))) (by rfl))))) (pe_op op_addA (pe_op op_shl pe_int (pv 1)) pe_int) (pe_un un_neg pe_int)))
  pss_nil) pss_nil)
  (pss_cons (ps_ret (pe_ifExp (pt_chain op_leA op_leA pe_int (pv 1) pe_int) (pe_ix (ix_any K (hu_of hr)) (pe_lst (pa_cons pe_int (pa_cons pe_int pa_nil))) (pe_op op_subA (pv 1) pe_int) (fun _ _ => rfl)) (pe_un un_neg pe_int)))
  pss_nil)))), ?_⟩
    have st := stab0 G H
    have h0 : SP0 G H 0 G H := Grow.refl hs
    have ch : ∀ {lo hi : Int} {n : Nat} {σ : L2.St} {G' : Hp}, σ[1]? = some (some (.int m)) → EvT (SP0 G H) n (0 + 0 + 0) (tTest (tChain rLeI rLeI (tC (.int lo)) (tVar 1) (tC (.int hi)))) σ G' (fun c => c = decide (lo ≤ m ∧ m ≤ hi)) := fun {lo hi n σ G'} e => (et_testV (ev_chain st ev_c (ev_var e) (v_le st) ev_c (v_le st))).imp fun c h => by rw [h, Bool.decide_and]
    show tSeq _ _ (Ends.mk _ _ _ _) [some _, some _, some _] _
    unfold famSz at q
    refine q_if st h0 (et_testV (ev_opV (ev_var rfl) ev_c (v_eqI st))) (fun H1 p1 k1 h1 => ?_) (fun H1 p1 k1 h1 => q_end ?_)
    · rw [if_pos (of_decide_eq_true p1.symm)] at q
      refine q_retV st h1 (ev_ifV (x := .int (m + 2)) (y := .int (-1)) (c := decide (0 ≤ m ∧ m ≤ 62) && decide (so = "up" ∨ so = "down")) st (et_and st (ch rfl) fun _ => et_word2 st rfl) (fun _ => ev_opV (ev_var rfl) ev_c (v_add st)) fun _ => ev_unV ev_c (u_neg st)) fun H2 k2 h2 => q _ _ _ h2 ?_
      rw [← Bool.decide_and]
      simp only [decide_eq_true_eq]
      split <;> rfl
    rw [if_neg (of_decide_eq_false p1.symm)] at q
    refine q_if st h1 (et_testV (ev_opV (ev_var rfl) ev_c (v_eqI st))) (fun H2 p2 k2 h2 => ?_) (fun H2 p2 k2 h2 => q_end ?_)
    · rw [if_pos (of_decide_eq_true p2.symm)] at q
      refine q_retV st h2 (ev_ifV (ka := 0) (kb := 0) (x := .int ((m + 1) * (m + 2) / 2 + 1)) (y := .int (-1)) st (ch (lo := 0) (hi := 9) rfl) (fun hc => ?_) fun _ => ev_unV ev_c (u_neg st)) fun H3 k3 h3 => q _ _ _ h3 ?_
      · have hc := of_decide_eq_true hc
        exact ev_opV (ev_opV (ev_opV (ev_opV (ev_var rfl) ev_c (v_add st)) (ev_opV (ev_var rfl) ev_c (v_add st)) (v_mul st (.inl ⟨by omega, by omega⟩))) ev_c (v_div st ⟨by decide, by decide⟩)) ev_c (v_add st)
      · simp only [decide_eq_true_eq]
        split <;> rfl
    rw [if_neg (of_decide_eq_false p2.symm)] at q
    refine q_if st h2 (et_testV (ev_opV (ev_var rfl) ev_c (v_eqI st))) (fun H3 p3 k3 h3 => ?_) (fun H3 p3 k3 h3 => q_end ?_)
    · rw [if_pos (of_decide_eq_true p3.symm)] at q
      refine q_retV st h3 (ev_ifV (ka := 0) (kb := 0) (x := .int (1 * 2 ^ m.toNat + 1)) (y := .int (-1)) (c := decide (1 ≤ m ∧ m ≤ 5) && decide (so = "may" ∨ so = "must")) st (et_and st (ch rfl) fun _ => et_word2 st rfl) (fun hc => ?_) fun _ => ev_unV ev_c (u_neg st)) fun H4 k4 h4 => q _ _ _ h4 ?_
      · have hc := of_decide_eq_true (Bool.and_eq_true_iff.mp hc).1
        exact ev_opV (ev_opV ev_c (ev_var rfl) (v_shl (i := 1) st ⟨by omega, by omega, by decide⟩)) ev_c (v_add st)
      · rw [← Bool.decide_and]
        simp only [decide_eq_true_eq]
        split <;> rfl
    rw [if_neg (of_decide_eq_false p3.symm)] at q
    refine q_retV (k := 0) st h3 (x := .int (if m = 1 then 2 else if m = 2 then 16 else -1)) ?_ fun H4 k4 h4 => q _ _ _ h4 rfl
    refine ev_if (R := IsV (.int (if m = 1 then 2 else if m = 2 then 16 else -1))) (ka := 0) (kb := 0) st (ch (lo := 1) (hi := 2) rfl) (fun hc => ?_) fun hc => ?_
    · have hc := of_decide_eq_true hc
      refine ev_op (Ra := IsNew G (.lst [.int 2, .int 16])) (Rb := IsV (.int (m - 1))) (ev_lstN st (ea_consV ev_c (ea_consV ev_c ea_nilV)) (by simp)) (ev_opV (ev_var rfl) ev_c (v_sub st)) fun x y G' s' hx hy => ?_
      obtain ⟨p, rfl, _, g⟩ := hx
      obtain rfl := (show _ = _ from hy)
      rcases (show m = 1 ∨ m = 2 by omega) with rfl | rfl
      · exact v_ixL st (SqL.of g) rfl
      · exact v_ixL st (SqL.of g) rfl
    · have hc := of_decide_eq_false hc
      rw [if_neg (by omega), if_neg (by omega)]
      exact ev_unV ev_c (u_neg st)
abbrev s__law_due : Stmt := top 35
theorem sc__law_due : FnScope ["_law_size"] ["_law_size"] (defScope s__law_due) := ⟨rfl, rfl, rfl, by decide +kernel, rfl, by decide +kernel, by decide +kernel⟩
theorem ok_due06 {f : Addr} {fd : FuncData} (F : Fun K "_law_due" "_law_due" s__law_due f fd) : FnOk P w K mg base CX0 1 f fd ["_law_size"] (spP PDue) := by
  refine F.ok sc__law_due (fun vs H Q E h => ?_) (fun cdv A outer s H vs Q E hr h => ?_)
  · obtain ⟨_, _, _, ⟨_, rfl, _⟩, _⟩ := h
    rfl
  · obtain ⟨G, R, hs, ⟨z, rfl, hz, rfl⟩, q⟩ := h
    refine ⟨_, (pss_cons (ps_ret (pe_ifExp (pt_cmpR op_geA (pv 0) pe_int (nomark _)) (pe_lst (pa_cons (pv 0) pa_nil)) (pe_lst (pa_cons (pv 0) (pa_cons pe_bl pa_nil)))))
  pss_nil), ?_⟩
    have st := stab0 G H
    have h0 : SP0 G H 0 G H := Grow.refl hs
    show tSeq _ _ (Ends.mk _ _ _ _) [some _] _
    refine q_ret h0 (ev_if (R := IsBl (famL z)) (ka := 0) (kb := 0) st (et_testV (ev_opV (ev_var rfl) ev_c (v_ge st))) (fun hc => ?_) fun hc => ?_) fun v5 G5 H5 s5 r5 => q v5 G5 H5 s5.s r5
    · have hc := of_decide_eq_true hc
      unfold famL
      rw [if_neg (by omega)]
      exact (ev_lstN st (ea_consV (ev_var rfl) ea_nilV) (by simp)).imp fun v G' s' ⟨p, e, _, g⟩ => ⟨p, e, g⟩
    · have hc := of_decide_eq_false hc
      unfold famL
      rw [if_pos (by omega)]
      obtain rfl := hz (by omega)
      exact (ev_lstN st (ea_consV (ev_var rfl) (ea_consV ev_c ea_nilV)) (by simp)).imp fun v G' s' ⟨p, e, _, g⟩ => ⟨p, e, g⟩
abbrev s__law_around : Stmt := top 34
theorem sc__law_around : FnScope ["_law_way", "_law_first", "_law_second", "_law_found"] ["_law_way", "_law_first", "_law_second"] (defScope s__law_around) := ⟨rfl, rfl, rfl, by decide +kernel, rfl, by decide +kernel, by decide +kernel⟩
theorem ok_around06 {Cs : List Addr} {CB CP CR CH : Addr} (m_BadScale : mg "BadScale" = some (.ref CB)) (te : PySem.W.exmOne K (.ref CB) (.ref CB) = some true) (iP : CP ∈ Cs) (iR : CR ∈ Cs) (iH : CH ∈ Cs) (oP : ClsOk K CP) (oR : ClsOk K CR) (oH : ClsOk K CH)
    (c2_PairScale : Maker P w K mg base "PairScale" CP (L2.CX P w) 10 ["self", "left", "right"] [] (spE (spI (PPrI K Cs CP)) (spXI CB (PPrX K Cs)))) (c2_TurnedScale : Maker P w K mg base "TurnedScale" CR (L2.CX P w) 10 ["self", "inner"] [] (spE (spI (PTuI K Cs CR)) (spXI CB (PTuX K Cs)))) (c2_HeapScale : Maker P w K mg base "HeapScale" CH (L2.CX P w) 10 ["self", "inner"] [] (spE (spI (PHpI K Cs CH)) (spXI CB (PHpX K Cs))))
    {f : Addr} {fd : FuncData} (F : Fun K "_law_around" "_law_around" s__law_around f fd) : FnOk P w K mg base CX0 12 f fd ["_law_way", "_law_first", "_law_second"] (spP (PArd K Cs)) := by
  refine F.ok sc__law_around (fun vs H Q E h => ?_) (fun cdv A outer s H vs Q E hr h => ?_)
  · obtain ⟨_, _, _, ⟨_, _, _, _, ⟨_, _, rfl, _⟩ | ⟨_, rfl, _⟩ | ⟨_, rfl, _⟩⟩, _⟩ := h <;> rfl
  · obtain ⟨G, R, hs, ⟨l, d, sd, o, h⟩, q⟩ := h
    have st := stab0 G H
    have h0 : SP0 G H 0 G H := Grow.refl hs
    rcases h with ⟨r, d2, rfl, sd2, o2, h⟩ | ⟨y, rfl, h⟩ | ⟨y, rfl, h⟩
    · refine ⟨_, (pss_cons (ps_set (i := 3) sc__law_around.nd rfl (Or.inl rfl) pe_non)
  (pss_cons (ps_try_only (Wout := fun _ _ _ _ => False) rfl rfl ⟨rfl, by decide, Or.inl m_BadScale⟩ takes0
    (fun W pn xe tk _ => (pss_cons (ps_if (pt_cmpR (op_eqA K hr.units) (pv 0) pe_int (nomark _)) (pss_cons (ps_set (i := 3) sc__law_around.nd rfl (Or.inl rfl) (pe_makeSC c2_PairScale (hr.mono (by decide)) (fun σ => passAt tk σ) (pa_cons (pv 1) (pa_cons (pv 2) pa_nil))))
  pss_nil) pss_nil)
  (pss_cons (ps_if (pt_cmpR (op_eqA K hr.units) (pv 0) pe_int (nomark _)) (pss_cons (ps_set (i := 3) sc__law_around.nd rfl (Or.inl rfl) (pe_makeSC c2_TurnedScale (hr.mono (by decide)) (fun σ => passAt tk σ) (pa_cons (pv 1) pa_nil)))
  pss_nil) pss_nil)
  (pss_cons (ps_if (pt_cmpR (op_eqA K hr.units) (pv 0) pe_int (nomark _)) (pss_cons (ps_set (i := 3) sc__law_around.nd rfl (Or.inl rfl) (pe_makeSC c2_HeapScale (hr.mono (by decide)) (fun σ => passAt tk σ) (pa_cons (pv 1) pa_nil)))
  pss_nil) pss_nil)
  pss_nil))))
    (fun a oe cls d pn hz hf => (pss_cons (ps_set (i := 3) sc__law_around.nd rfl (Or.inl rfl) pe_non)
  pss_nil)))
  (pss_cons (ps_ret (pv 3))
  pss_nil))), ?_⟩
      show tSeq _ _ (Ends.mk _ _ _ _) [some _, some _, some _, none] _
      refine q_setV st h0 ev_c fun H1 k1 h1 => ?_
      refine q_if st h1 (et_testV (ev_opV (ev_var rfl) ev_c (v_eqI st))) (fun H2 p2 k2 h2 => ?_) (fun H2 p2 k2 h2 => by cases p2)
      refine q_mk2 (RA := IsVs [.ref l, .ref r]) st h2 (ea_consV (ev_var rfl) (ea_consV (ev_var rfl) ea_nilV)) fun vs G3 H3 s3 e => ?_
      obtain rfl := (show vs = _ from e)
      rcases h with ⟨a1, a2, a3, rfl⟩ | ⟨a1, rfl⟩
      · refine mk2_ok st s3.s (fun x => rfl) ⟨rfl, rfl, l, r, d, d2, rfl, sd.mono s3.g, sd2.mono s3.g, o, o2, a1, a2, a3, rfl⟩ fun v G4 H4 s4 io => ?_
        refine q_end ?_
        refine q_if st s4.s (et_testV (ev_opV (ev_var rfl) ev_c (v_eqI st))) (fun H5 p5 k5 h5 => by cases p5) (fun H5 p5 k5 h5 => q_end ?_)
        refine q_if st h5 (et_testV (ev_opV (ev_var rfl) ev_c (v_eqI st))) (fun H6 p6 k6 h6 => by cases p6) (fun H6 p6 k6 h6 => q_end ?_)
        exact q_end (q_retV st h6 (ev_var rfl) fun H7 k7 h7 => q _ G4 H7 h7 (io_pair iP oP io))
      · refine mk2_bad st s3.s (fun x => rfl) ⟨l, r, d, d2, rfl, sd.mono s3.g, sd2.mono s3.g, o.l2, o2.l2, a1⟩ fun H4 k4 h4 => ?_
        refine ⟨true, te, fun _ b _ => ?_, fun z => by cases z⟩
        refine q_setV st h4 ev_c fun H5 k5 h5 => q_end ?_
        exact q_retV st h5 (ev_var rfl) fun H7 k7 h7 => q _ G3 H7 h7 rfl
    · refine ⟨_, (pss_cons (ps_set (i := 3) sc__law_around.nd rfl (Or.inl rfl) pe_non)
  (pss_cons (ps_try_only (Wout := fun _ _ _ _ => False) rfl rfl ⟨rfl, by decide, Or.inl m_BadScale⟩ takes0
    (fun W pn xe tk _ => (pss_cons (ps_if (pt_cmpR (op_eqA K hr.units) (pv 0) pe_int (nomark _)) (pss_cons (ps_set (i := 3) sc__law_around.nd rfl (Or.inl rfl) (pe_makeSC c2_PairScale (hr.mono (by decide)) (fun σ => passAt tk σ) (pa_cons (pv 1) (pa_cons (pv 2) pa_nil))))
  pss_nil) pss_nil)
  (pss_cons (ps_if (pt_cmpR (op_eqA K hr.units) (pv 0) pe_int (nomark _)) (pss_cons (ps_set (i := 3) sc__law_around.nd rfl (Or.inl rfl) (pe_makeSC c2_TurnedScale (hr.mono (by decide)) (fun σ => passAt tk σ) (pa_cons (pv 1) pa_nil)))
  pss_nil) pss_nil)
  (pss_cons (ps_if (pt_cmpR (op_eqA K hr.units) (pv 0) pe_int (nomark _)) (pss_cons (ps_set (i := 3) sc__law_around.nd rfl (Or.inl rfl) (pe_makeSC c2_HeapScale (hr.mono (by decide)) (fun σ => passAt tk σ) (pa_cons (pv 1) pa_nil)))
  pss_nil) pss_nil)
  pss_nil))))
    (fun a oe cls d pn hz hf => (pss_cons (ps_set (i := 3) sc__law_around.nd rfl (Or.inl rfl) pe_non)
  pss_nil)))
  (pss_cons (ps_ret (pv 3))
  pss_nil))), ?_⟩
      show tSeq _ _ (Ends.mk _ _ _ _) [some _, some _, some _, none] _
      refine q_setV st h0 ev_c fun H1 k1 h1 => ?_
      refine q_if st h1 (et_testV (ev_opV (ev_var rfl) ev_c (v_eqI st))) (fun H2 p2 k2 h2 => by cases p2) (fun H2 p2 k2 h2 => q_end ?_)
      refine q_if st h2 (et_testV (ev_opV (ev_var rfl) ev_c (v_eqI st))) (fun H2 p2 k2 h2 => ?_) (fun H2 p2 k2 h2 => by cases p2)
      refine q_mk2 (RA := IsVs [.ref l]) st h2 (ea_consV (ev_var rfl) ea_nilV) fun vs G3 H3 s3 e => ?_
      obtain rfl := (show vs = _ from e)
      rcases h with ⟨a2, rfl⟩ | ⟨a1, rfl⟩
      · refine mk2_ok st s3.s (fun x => rfl) ⟨rfl, rfl, l, d, rfl, sd.mono s3.g, o, a2, rfl⟩ fun v G4 H4 s4 io => ?_
        refine q_end ?_
        refine q_if st s4.s (et_testV (ev_opV (ev_var rfl) ev_c (v_eqI st))) (fun H6 p6 k6 h6 => by cases p6) (fun H6 p6 k6 h6 => q_end ?_)
        exact q_end (q_retV st h6 (ev_var rfl) fun H7 k7 h7 => q _ G4 H7 h7 (io_turn iR oR io))
      · refine mk2_bad st s3.s (fun x => rfl) ⟨l, d, rfl, sd.mono s3.g, a1⟩ fun H4 k4 h4 => ?_
        refine ⟨true, te, fun _ b _ => ?_, fun z => by cases z⟩
        refine q_setV st h4 ev_c fun H5 k5 h5 => q_end ?_
        exact q_retV st h5 (ev_var rfl) fun H7 k7 h7 => q _ G3 H7 h7 rfl
    · refine ⟨_, (pss_cons (ps_set (i := 3) sc__law_around.nd rfl (Or.inl rfl) pe_non)
  (pss_cons (ps_try_only (Wout := fun _ _ _ _ => False) rfl rfl ⟨rfl, by decide, Or.inl m_BadScale⟩ takes0
    (fun W pn xe tk _ => (pss_cons (ps_if (pt_cmpR (op_eqA K hr.units) (pv 0) pe_int (nomark _)) (pss_cons (ps_set (i := 3) sc__law_around.nd rfl (Or.inl rfl) (pe_makeSC c2_PairScale (hr.mono (by decide)) (fun σ => passAt tk σ) (pa_cons (pv 1) (pa_cons (pv 2) pa_nil))))
  pss_nil) pss_nil)
  (pss_cons (ps_if (pt_cmpR (op_eqA K hr.units) (pv 0) pe_int (nomark _)) (pss_cons (ps_set (i := 3) sc__law_around.nd rfl (Or.inl rfl) (pe_makeSC c2_TurnedScale (hr.mono (by decide)) (fun σ => passAt tk σ) (pa_cons (pv 1) pa_nil)))
  pss_nil) pss_nil)
  (pss_cons (ps_if (pt_cmpR (op_eqA K hr.units) (pv 0) pe_int (nomark _)) (pss_cons (ps_set (i := 3) sc__law_around.nd rfl (Or.inl rfl) (pe_makeSC c2_HeapScale (hr.mono (by decide)) (fun σ => passAt tk σ) (pa_cons (pv 1) pa_nil)))
  pss_nil) pss_nil)
  pss_nil))))
    (fun a oe cls d pn hz hf => (pss_cons (ps_set (i := 3) sc__law_around.nd rfl (Or.inl rfl) pe_non)
  pss_nil)))
  (pss_cons (ps_ret (pv 3))
  pss_nil))), ?_⟩
      show tSeq _ _ (Ends.mk _ _ _ _) [some _, some _, some _, none] _
      refine q_setV st h0 ev_c fun H1 k1 h1 => ?_
      refine q_if st h1 (et_testV (ev_opV (ev_var rfl) ev_c (v_eqI st))) (fun H2 p2 k2 h2 => by cases p2) (fun H2 p2 k2 h2 => q_end ?_)
      refine q_if st h2 (et_testV (ev_opV (ev_var rfl) ev_c (v_eqI st))) (fun H2 p2 k2 h2 => by cases p2) (fun H2 p2 k2 h2 => q_end ?_)
      refine q_if st h2 (et_testV (ev_opV (ev_var rfl) ev_c (v_eqI st))) (fun H2 p2 k2 h2 => ?_) (fun H2 p2 k2 h2 => by cases p2)
      refine q_mk2 (RA := IsVs [.ref l]) st h2 (ea_consV (ev_var rfl) ea_nilV) fun vs G3 H3 s3 e => ?_
      obtain rfl := (show vs = _ from e)
      rcases h with ⟨a1, a2, a3, rfl⟩ | ⟨a1, rfl⟩
      · refine mk2_ok st s3.s (fun x => rfl) ⟨rfl, rfl, l, d, rfl, sd.mono s3.g, o, a1, a2, a3, rfl⟩ fun v G4 H4 s4 io => ?_
        refine q_end (q_end ?_)
        exact q_retV st s4.s (ev_var rfl) fun H7 k7 h7 => q _ G4 H7 h7 (io_heap iH oH io)
      · refine mk2_bad st s3.s (fun x => rfl) ⟨l, d, rfl, sd.mono s3.g, o.l2, a1⟩ fun H4 k4 h4 => ?_
        refine ⟨true, te, fun _ b _ => ?_, fun z => by cases z⟩
        refine q_setV st h4 ev_c fun H5 k5 h5 => q_end ?_
        exact q_retV st h5 (ev_var rfl) fun H7 k7 h7 => q _ G3 H7 h7 rfl
abbrev s__law_family : Stmt := top 33
theorem sc__law_family : FnScope ["_law_kind", "_law_number_here", "_law_sort", "_law_found", "e"] ["_law_kind", "_law_number_here", "_law_sort"] (defScope s__law_family) := ⟨rfl, rfl, rfl, by decide +kernel, rfl, by decide +kernel, by decide +kernel⟩
theorem ok_family06 {Cs : List Addr} {CB CC CA CE CV a_DeedscaleError : Addr} (Z : Bi mg) (m_BadScale : mg "BadScale" = some (.ref CB)) (g_DeedscaleError : mg "DeedscaleError" = some (.ref a_DeedscaleError)) (te : PySem.W.exmOne K (.ref CB) (.ref CB) = some true) (xc_BadScale : ExcC K CB) (kD : PySem.W.kitOne K (.ref CB) (.ref a_DeedscaleError) = some true) (iC : CC ∈ Cs) (iA : CA ∈ Cs) (iE : CE ∈ Cs) (iV : CV ∈ Cs) (oC : ClsOk K CC) (oA : ClsOk K CA) (oE : ClsOk K CE) (oV : ClsOk K CV)
    (k2_CountScale : MakerK P w K mg base "CountScale" CC (L2.CX P w) 10 ["self", "most", "order"] 1 ["order"] (fun vs zs => vs ++ zs) (spE (spI (PCsI CC)) (spXI CB PCsX))) (c2_SpanScale : Maker P w K mg base "SpanScale" CA (L2.CX P w) 10 ["self", "most"] [] (spE (spI (PSpI CA)) (spXI CB PSpX)))
    (k2_SetScale : MakerK P w K mg base "SetScale" CE (L2.CX P w) 10 ["self", "count", "join"] 1 ["join"] (fun vs zs => vs ++ zs) (spE (spI (PStI CE)) (spXI CB PStX))) (c2_WatchScale : Maker P w K mg base "WatchScale" CV (L2.CX P w) 10 ["self", "states"] [] (spE (spI (PWtI CV)) (spXI CB PWtX)))
    {f : Addr} {fd : FuncData} (F : Fun K "_law_family" "_law_family" s__law_family f fd) : FnOk P w K mg base CX0 12 f fd ["_law_kind", "_law_number_here", "_law_sort"] (spP (PFam K)) := by
  refine F.ok sc__law_family (fun vs H Q E h => ?_) (fun cdv A outer s H vs Q E hr h => ?_)
  · obtain ⟨_, _, _, ⟨_, _, _, rfl, _⟩, _⟩ := h
    rfl
  · obtain ⟨G, R, hs, ⟨kd, m, so, rfl, k0, k4, m0, m1, rfl⟩, q⟩ := h
    refine ⟨_, (pss_cons (ps_set (i := 3) sc__law_family.nd rfl (Or.inl rfl) (pe_lst (pa_cons (pe_un un_neg pe_int) pa_nil)))
  (pss_cons (ps_try_as (i := 4) (Wout := fun _ _ _ _ => False) rfl rfl sc__law_family.nd rfl rfl ⟨rfl, by decide, Or.inl m_BadScale⟩ takes0
    (fun W pn xe tk _ => (pss_cons (ps_if (pt_cmpR (op_eqA K hr.units) (pv 0) pe_int (nomark _)) (pss_cons (ps_set (i := 3) sc__law_family.nd rfl (Or.inl rfl) (pe_lst (pa_cons (pe_fldK K (pe_makeKSC k2_CountScale (hr.mono (by decide)) (fun σ => passAt tk σ) (pa_cons (pv 1) pa_nil) (pk_cons (pv 2) pk_nil))) pa_nil)))
  pss_nil) pss_nil)
  (pss_cons (ps_if (pt_cmpR (op_eqA K hr.units) (pv 0) pe_int (nomark _)) (pss_cons (ps_set (i := 3) sc__law_family.nd rfl (Or.inl rfl) (pe_lst (pa_cons (pe_fldK K (pe_makeSC c2_SpanScale (hr.mono (by decide)) (fun σ => passAt tk σ) (pa_cons (pv 1) pa_nil))) pa_nil)))
  pss_nil) pss_nil)
  (pss_cons (ps_if (pt_cmpR (op_eqA K hr.units) (pv 0) pe_int (nomark _)) (pss_cons (ps_set (i := 3) sc__law_family.nd rfl (Or.inl rfl) (pe_lst (pa_cons (pe_fldK K (pe_makeKSC k2_SetScale (hr.mono (by decide)) (fun σ => passAt tk σ) (pa_cons (pv 1) pa_nil) (pk_cons (pv 2) pk_nil))) pa_nil)))
  pss_nil) pss_nil)
  (pss_cons (ps_if (pt_cmpR (op_eqA K hr.units) (pv 0) pe_int (nomark _)) (pss_cons (ps_set (i := 3) sc__law_family.nd rfl (Or.inl rfl) (pe_lst (pa_cons (pe_fldK K (pe_makeSC c2_WatchScale (hr.mono (by decide)) (fun σ => passAt tk σ) (pa_cons (pv 1) pa_nil))) pa_nil)))
  pss_nil) pss_nil)
  pss_nil)))))
    (fun a oe cls d pn hz hf => (pss_cons (ps_set (i := 3) sc__law_family.nd rfl (Or.inl rfl) (pe_lst (pa_cons (pe_un un_neg pe_int) (pa_cons (pe_callB (call_isE0 rfl xc_BadScale hz hf) (by rfl) Z.z_isinstance (by decide +kernel) (pa_cons (pv 4) (pa_cons (pe_glob (v := .ref a_DeedscaleError) rfl g_DeedscaleError rfl) pa_nil))) pa_nil))))
  pss_nil)))
  (pss_cons (ps_ret (pv 3))
  pss_nil))), ?_⟩
    have st := stab0 G H
    have h0 : SP0 G H 0 G H := Grow.refl hs
    show tSeq _ _ (Ends.mk _ _ _ _) [some _, some _, some _, none, none] _
    refine q_set h0 (ev_lstN st (ea_consV (ev_unV ev_c (u_neg st)) ea_nilV) (by simp)) fun v1 G1 H1 s1 r1 => ?_
    obtain ⟨p1, rfl, _, _⟩ := r1
    have f1 : ∀ {q : Addr}, G1 q = none → G q = none := fun h => s1.g.free h
    obtain ⟨sz, hsz⟩ : ∃ sz, sz = famSz kd m so := ⟨_, rfl⟩
    rw [← hsz] at q
    rcases (show kd = 0 ∨ kd = 1 ∨ kd = 2 ∨ kd = 3 by omega) with rfl | rfl | rfl | rfl
    · refine q_if st s1.s (et_testV (ev_opV (ev_var rfl) ev_c (v_eqI st))) (fun H2 p2 k2 h2 => ?_) (fun H2 p2 k2 h2 => by cases p2)
      refine q_mk2KF (RA := IsVs [.int m]) (RB := IsVs [.str so]) st h2 (ea_consV (ev_var rfl) ea_nilV) (fun G' s' => ea_consV (ev_var rfl) ea_nilV) (fun vs G' e => by rw [show vs = _ from e]; rfl) (fun vs G' e => by rw [show vs = _ from e]; rfl) fun vs zs G3 G4 H4 s4 s34 e1 e2 => ?_
      obtain rfl := (show vs = _ from e1)
      obtain rfl := (show zs = _ from e2)
      by_cases hb : (0 ≤ m ∧ m ≤ 62) ∧ (so = "up" ∨ so = "down")
      · obtain ⟨up, hup⟩ : ∃ up : Bool, so = ordS up := by
          rcases hb.2 with e | e
          · exact ⟨true, e⟩
          · exact ⟨false, e⟩
        obtain ⟨n, rfl⟩ : ∃ n : Nat, m = (n : Nat) := ⟨m.toNat, by omega⟩
        refine mk2_ok st s4.s (fun x => rfl) ⟨rfl, rfl, n, up, by omega, by rw [hup]; rfl, rfl⟩ fun v G5 H5 s5 io => ?_
        obtain ⟨d, ⟨x, rfl, sd⟩, rfl⟩ := io_cnt iC oC io
        refine q_set s5.s (ev_lstN st (ea_consV (ev_sF st sd ev_c).1 ea_nilV) (by simp)) fun v6 G6 H6 s6 r6 => ?_
        obtain ⟨p6, rfl, f6, g6⟩ := r6
        have f6 := f1 (s4.g.free (s5.g.free f6))
        refine q_end ?_
        refine q_if st s6.s (et_testV (ev_opV (ev_var rfl) ev_c (v_eqI st))) (fun H2 p2 k2 h2 => by cases p2) (fun H2 p2 k2 h2 => q_end ?_)
        refine q_if st h2 (et_testV (ev_opV (ev_var rfl) ev_c (v_eqI st))) (fun H2 p2 k2 h2 => by cases p2) (fun H2 p2 k2 h2 => q_end ?_)
        refine q_if st h2 (et_testV (ev_opV (ev_var rfl) ev_c (v_eqI st))) (fun H2 p2 k2 h2 => by cases p2) (fun H2 p2 k2 h2 => q_end ?_)
        refine q_end (q_retV st h2 (ev_var rfl) fun HA kA hA => q _ G6 HA hA ⟨p6, rfl, ?_⟩)
        rw [g6, hsz]
        rw [fam_0, if_pos hb, famL_ok (by omega), show (cntSD n up).names.length = n + 2 from cwords_len n]
        rfl
      · refine mk2_bad st s4.s (fun x => rfl) ⟨m, so, rfl, ?_⟩ fun H5 k5 h5 => ?_
        · by_cases hs' : so = "up" ∨ so = "down"
          · have : ¬ (0 ≤ m ∧ m ≤ 62) := fun z => hb ⟨z, hs'⟩
            omega
          · exact .inl ⟨fun z => hs' (.inl z), fun z => hs' (.inr z)⟩
        refine ⟨true, te, fun _ b _ => ?_, fun z => by cases z⟩
        show tSeq _ _ (Ends.mk _ _ _ _) [some (.int 0), some (.int m), some (.str so), some (.ref p1), some (.ref b)] _
        refine q_set h5 (ev_lstN st (ea_consV (ev_unV ev_c (u_neg st)) (ea_consV (ev_cbV (ea_consV (ev_var rfl) (ea_consV ev_c ea_nilV)) (c_isE st (fun _ r => r) kD)) ea_nilV)) (by simp)) fun v6 G6 H6 s6 r6 => ?_
        obtain ⟨p6, rfl, f6, g6⟩ := r6
        refine q_end ?_
        show tSeq _ _ (Ends.mk _ _ _ _) [some (.int 0), some (.int m), some (.str so), some (.ref p6), none] _
        refine q_retV st s6.s (ev_var rfl) fun H7 k7 h7 => q _ G6 H7 h7 ⟨p6, rfl, ?_⟩
        rw [g6, hsz]
        rw [fam_0, if_neg hb]
        rfl
    · refine q_if st s1.s (et_testV (ev_opV (ev_var rfl) ev_c (v_eqI st))) (fun H2 p2 k2 h2 => by cases p2) (fun H2 p2 k2 h2 => q_end ?_)
      refine q_if st h2 (et_testV (ev_opV (ev_var rfl) ev_c (v_eqI st))) (fun H2 p2 k2 h2 => ?_) (fun H2 p2 k2 h2 => by cases p2)
      refine q_mk2F (RA := IsVs [.int m]) st h2 (ea_consV (ev_var rfl) ea_nilV) fun vs G4 H4 s4 e1 => ?_
      obtain rfl := (show vs = _ from e1)
      by_cases hb : 0 ≤ m ∧ m ≤ 9
      · obtain ⟨n, rfl⟩ : ∃ n : Nat, m = (n : Nat) := ⟨m.toNat, by omega⟩
        refine mk2_ok st s4.s (fun x => rfl) ⟨rfl, rfl, n, by omega, rfl, rfl⟩ fun v G5 H5 s5 io => ?_
        obtain ⟨d, ⟨x, rfl, sd⟩, rfl⟩ := io_span iA oA io
        refine q_set s5.s (ev_lstN st (ea_consV (ev_sF st sd ev_c).1 ea_nilV) (by simp)) fun v6 G6 H6 s6 r6 => ?_
        obtain ⟨p6, rfl, f6, g6⟩ := r6
        have f6 := f1 (s4.g.free (s5.g.free f6))
        refine q_end ?_
        refine q_if st s6.s (et_testV (ev_opV (ev_var rfl) ev_c (v_eqI st))) (fun H2 p2 k2 h2 => by cases p2) (fun H2 p2 k2 h2 => q_end ?_)
        refine q_if st h2 (et_testV (ev_opV (ev_var rfl) ev_c (v_eqI st))) (fun H2 p2 k2 h2 => by cases p2) (fun H2 p2 k2 h2 => q_end ?_)
        refine q_end (q_retV st h2 (ev_var rfl) fun HA kA hA => q _ G6 HA hA ⟨p6, rfl, ?_⟩)
        rw [g6, hsz]
        rw [fam_1, if_pos hb]
        show some (HO.lst [V.int (((spanSD n).names.length : Nat) : Int)]) = _
        rw [show (spanSD n).names.length = (spansL n).length + 1 from span_len n, spans_sz n (by omega)]
        rfl
      · refine mk2_bad st s4.s (fun x => rfl) ⟨m, rfl, by omega, by omega⟩ fun H5 k5 h5 => ?_
        refine ⟨true, te, fun _ b _ => ?_, fun z => by cases z⟩
        show tSeq _ _ (Ends.mk _ _ _ _) [some (.int 1), some (.int m), some (.str so), some (.ref p1), some (.ref b)] _
        refine q_set h5 (ev_lstN st (ea_consV (ev_unV ev_c (u_neg st)) (ea_consV (ev_cbV (ea_consV (ev_var rfl) (ea_consV ev_c ea_nilV)) (c_isE st (fun _ r => r) kD)) ea_nilV)) (by simp)) fun v6 G6 H6 s6 r6 => ?_
        obtain ⟨p6, rfl, f6, g6⟩ := r6
        refine q_end ?_
        show tSeq _ _ (Ends.mk _ _ _ _) [some (.int 1), some (.int m), some (.str so), some (.ref p6), none] _
        refine q_retV st s6.s (ev_var rfl) fun H7 k7 h7 => q _ G6 H7 h7 ⟨p6, rfl, ?_⟩
        rw [g6, hsz]
        rw [fam_1, if_neg hb]
        rfl
    · refine q_if st s1.s (et_testV (ev_opV (ev_var rfl) ev_c (v_eqI st))) (fun H2 p2 k2 h2 => by cases p2) (fun H2 p2 k2 h2 => q_end ?_)
      refine q_if st h2 (et_testV (ev_opV (ev_var rfl) ev_c (v_eqI st))) (fun H2 p2 k2 h2 => by cases p2) (fun H2 p2 k2 h2 => q_end ?_)
      refine q_if st h2 (et_testV (ev_opV (ev_var rfl) ev_c (v_eqI st))) (fun H2 p2 k2 h2 => ?_) (fun H2 p2 k2 h2 => by cases p2)
      refine q_mk2KF (RA := IsVs [.int m]) (RB := IsVs [.str so]) st h2 (ea_consV (ev_var rfl) ea_nilV) (fun G' s' => ea_consV (ev_var rfl) ea_nilV) (fun vs G' e => by rw [show vs = _ from e]; rfl) (fun vs G' e => by rw [show vs = _ from e]; rfl) fun vs zs G3 G4 H4 s4 s34 e1 e2 => ?_
      obtain rfl := (show vs = _ from e1)
      obtain rfl := (show zs = _ from e2)
      by_cases hb : (1 ≤ m ∧ m ≤ 5) ∧ (so = "may" ∨ so = "must")
      · obtain ⟨may, hup⟩ : ∃ may : Bool, so = joinS may := by
          rcases hb.2 with e | e
          · exact ⟨true, e⟩
          · exact ⟨false, e⟩
        obtain ⟨n, rfl⟩ : ∃ n : Nat, m = (n : Nat) := ⟨m.toNat, by omega⟩
        refine mk2_ok st s4.s (fun x => rfl) ⟨rfl, rfl, n, may, by omega, by omega, by rw [hup]; rfl, rfl⟩ fun v G5 H5 s5 io => ?_
        obtain ⟨d, ⟨x, rfl, sd⟩, rfl⟩ := io_set iE oE io
        refine q_set s5.s (ev_lstN st (ea_consV (ev_sF st sd ev_c).1 ea_nilV) (by simp)) fun v6 G6 H6 s6 r6 => ?_
        obtain ⟨p6, rfl, f6, g6⟩ := r6
        have f6 := f1 (s4.g.free (s5.g.free f6))
        refine q_end ?_
        refine q_if st s6.s (et_testV (ev_opV (ev_var rfl) ev_c (v_eqI st))) (fun H2 p2 k2 h2 => by cases p2) (fun H2 p2 k2 h2 => q_end ?_)
        refine q_end (q_retV st h2 (ev_var rfl) fun HA kA hA => q _ G6 HA hA ⟨p6, rfl, ?_⟩)
        rw [g6, hsz]
        have p : (0 : Int) < 2 ^ ((n : Nat) : Int).toNat := Int.pow_pos (by decide)
        rw [fam_2, if_pos hb, st_sz n may (by omega), famL_ok (by omega)]
      · refine mk2_bad st s4.s (fun x => rfl) ⟨m, so, rfl, ?_⟩ fun H5 k5 h5 => ?_
        · by_cases hs' : so = "may" ∨ so = "must"
          · have : ¬ (1 ≤ m ∧ m ≤ 5) := fun z => hb ⟨z, hs'⟩
            omega
          · exact .inl ⟨fun z => hs' (.inl z), fun z => hs' (.inr z)⟩
        refine ⟨true, te, fun _ b _ => ?_, fun z => by cases z⟩
        show tSeq _ _ (Ends.mk _ _ _ _) [some (.int 2), some (.int m), some (.str so), some (.ref p1), some (.ref b)] _
        refine q_set h5 (ev_lstN st (ea_consV (ev_unV ev_c (u_neg st)) (ea_consV (ev_cbV (ea_consV (ev_var rfl) (ea_consV ev_c ea_nilV)) (c_isE st (fun _ r => r) kD)) ea_nilV)) (by simp)) fun v6 G6 H6 s6 r6 => ?_
        obtain ⟨p6, rfl, f6, g6⟩ := r6
        refine q_end ?_
        show tSeq _ _ (Ends.mk _ _ _ _) [some (.int 2), some (.int m), some (.str so), some (.ref p6), none] _
        refine q_retV st s6.s (ev_var rfl) fun H7 k7 h7 => q _ G6 H7 h7 ⟨p6, rfl, ?_⟩
        rw [g6, hsz]
        rw [fam_2, if_neg hb]
        rfl
    · refine q_if st s1.s (et_testV (ev_opV (ev_var rfl) ev_c (v_eqI st))) (fun H2 p2 k2 h2 => by cases p2) (fun H2 p2 k2 h2 => q_end ?_)
      refine q_if st h2 (et_testV (ev_opV (ev_var rfl) ev_c (v_eqI st))) (fun H2 p2 k2 h2 => by cases p2) (fun H2 p2 k2 h2 => q_end ?_)
      refine q_if st h2 (et_testV (ev_opV (ev_var rfl) ev_c (v_eqI st))) (fun H2 p2 k2 h2 => by cases p2) (fun H2 p2 k2 h2 => q_end ?_)
      refine q_if st h2 (et_testV (ev_opV (ev_var rfl) ev_c (v_eqI st))) (fun H2 p2 k2 h2 => ?_) (fun H2 p2 k2 h2 => by cases p2)
      refine q_mk2F (RA := IsVs [.int m]) st h2 (ea_consV (ev_var rfl) ea_nilV) fun vs G4 H4 s4 e1 => ?_
      obtain rfl := (show vs = _ from e1)
      by_cases hb : m = 1 ∨ m = 2
      · obtain ⟨n, rfl⟩ : ∃ n : Nat, m = (n : Nat) := ⟨m.toNat, by omega⟩
        refine mk2_ok st s4.s (fun x => rfl) ⟨rfl, rfl, n, by omega, rfl, rfl⟩ fun v G5 H5 s5 io => ?_
        obtain ⟨d, ⟨x, rfl, sd⟩, rfl⟩ := io_wat iV oV io
        refine q_set s5.s (ev_lstN st (ea_consV (ev_sF st sd ev_c).1 ea_nilV) (by simp)) fun v6 G6 H6 s6 r6 => ?_
        obtain ⟨p6, rfl, f6, g6⟩ := r6
        have f6 := f1 (s4.g.free (s5.g.free f6))
        refine q_end ?_
        refine q_retV st s6.s (ev_var rfl) fun HA kA hA => q _ G6 HA hA ⟨p6, rfl, ?_⟩
        rw [g6, hsz]
        rw [fam_3]
        rcases hb with hb | hb
        · obtain rfl : n = 1 := by omega
          rfl
        · obtain rfl : n = 2 := by omega
          rfl
      · refine mk2_bad st s4.s (fun x => rfl) ⟨m, rfl, by omega, by omega⟩ fun H5 k5 h5 => ?_
        refine ⟨true, te, fun _ b _ => ?_, fun z => by cases z⟩
        show tSeq _ _ (Ends.mk _ _ _ _) [some (.int 3), some (.int m), some (.str so), some (.ref p1), some (.ref b)] _
        refine q_set h5 (ev_lstN st (ea_consV (ev_unV ev_c (u_neg st)) (ea_consV (ev_cbV (ea_consV (ev_var rfl) (ea_consV ev_c ea_nilV)) (c_isE st (fun _ r => r) kD)) ea_nilV)) (by simp)) fun v6 G6 H6 s6 r6 => ?_
        obtain ⟨p6, rfl, f6, g6⟩ := r6
        refine q_end ?_
        show tSeq _ _ (Ends.mk _ _ _ _) [some (.int 3), some (.int m), some (.str so), some (.ref p6), none] _
        refine q_retV st s6.s (ev_var rfl) fun H7 k7 h7 => q _ G6 H7 h7 ⟨p6, rfl, ?_⟩
        rw [g6, hsz]
        rw [fam_3, if_neg (fun z => hb (.inl z)), if_neg (fun z => hb (.inr z))]
        rfl
theorem ev_intP {S : SR} {n ka kb : Nat} {te : TE} {t : TA} {σ : L2.St} {G : Hp} {ws : List Int} (st : Stab S) (hs : EvA S n ka t σ G (IsVs (ws.map V.int))) (hl : ws.length ≤ 1000) (e : Ev S (n + ka) kb te σ G (IsI fun i => 0 ≤ i ∧ i < ws.length)) : Ev S n (ka + kb) (tOp (rIxA K) (tLst t) te) σ G (IsI fun s => s ∈ ws) :=
  ev_op (Ra := IsNew G (.lst (ws.map V.int))) (Rb := IsI fun i => 0 ≤ i ∧ i < ws.length) (ev_lstN st hs (by rw [List.length_map]; omega)) e fun x y G' s' hx hy => by
    obtain ⟨p, rfl, _, g⟩ := hx
    obtain ⟨i, hi, rfl⟩ := hy
    obtain ⟨j, rfl⟩ : ∃ j : Nat, i = (j : Nat) := ⟨i.toNat, by omega⟩
    have hj : j < ws.length := by omega
    exact rv_imp (v_ixL st (SqL.of g) (atI_nat (by rw [List.getElem?_map, List.getElem?_eq_getElem hj]; rfl))) fun v G2 s2 r => ⟨_, List.getElem_mem hj, r⟩
theorem ev_ntN {S : SR} {n ka : Nat} {te : TE} {σ : L2.St} {G : Hp} {Cs : List Addr} {Pd : SD → Prop} (st : Stab S) (e : Ev S n ka te σ G (IsScP K Cs Pd)) : Ev S n (ka + 0) (tOp (fun x y H Q => y = .non ∧ Q (.bl (!decide (x = .non))) H) te (tC .non)) σ G (IsV (.bl true)) :=
  ev_op (Rb := IsV .non) e ev_c fun x y G' s' hx hy => by
    obtain ⟨d, ⟨a, rfl, _⟩, _⟩ := hx
    obtain rfl := (show _ = _ from hy)
    exact rv_imp (v_notN st) fun v G2 s2 r => r
abbrev s__law_deep_right : Stmt := top 36
theorem sc__law_deep_right : FnScope ["_law_state", "_law_one", "_law_size", "_law_scale", "_law_many", "_law_k", "_law_way", "_law_after", "_law_made"] ["_law_state"] (defScope s__law_deep_right) := ⟨rfl, rfl, rfl, by decide +kernel, rfl, by decide +kernel, by decide +kernel⟩
theorem ok_deep06 {Cs : List Addr} {CT CC : Addr} (Z : Bi mg) (iT : CT ∈ Cs) (iC : CC ∈ Cs) (oT : ClsOk K CT) (oC : ClsOk K CC) (c__law_pick : Callee P w K mg base "_law_pick" CX0 1 ["_law_source_here", "_law_many"] [] sp_pick)
    (k_TableScale : MakerK P w K mg base "TableScale" CT (L2.CX P w) 10 ["self", "names", "joins", "products", "never", "still"] 3 ["never", "still"] (fun vs zs => vs ++ zs) (spI (PTbI CT))) (c_CountScale : Maker P w K mg base "CountScale" CC (L2.CX P w) 10 ["self", "most", "order"] [.str "up"] (spI (PCsI CC)))
    (c__law_around : Callee P w K mg base "_law_around" CX0 12 ["_law_way", "_law_first", "_law_second"] [] (spP (PArd K Cs))) (c__law_like : Callee P w K mg base "_law_like" CX0 4 ["_law_found", "_law_due_here"] [] (spP (PLike K 4)))
    {f : Addr} {fd : FuncData} (F : Fun K "_law_deep_right" "_law_deep_right" s__law_deep_right f fd) : FnOk P w K mg base CX0 13 f fd ["_law_state"] spDeep := by
  refine F.ok sc__law_deep_right (fun vs H Q E h => ?_) (fun cdv A outer s H vs Q E hr h => ?_)
  · obtain ⟨_, _, _, _, rfl, _⟩ := h
    rfl
  · obtain ⟨sa, cl, n, G, rfl, h0, hn, q⟩ := h
    refine ⟨_, (pss_cons (ps_set (i := 1) sc__law_deep_right.nd rfl (Or.inl rfl) (pe_makeKC k_TableScale (hr.mono (by decide)) passL (pa_cons (pe_lst (pa_cons pe_str pa_nil)) (pa_cons (pe_lst (pa_cons (pe_lst (pa_cons pe_str pa_nil)) pa_nil)) (pa_cons (pe_lst (pa_cons (pe_lst (pa_cons pe_str pa_nil)) pa_nil)) pa_nil))) (pk_cons pe_str (pk_cons pe_str pk_nil))))
  (pss_cons (ps_set (i := 2) sc__law_deep_right.nd rfl (Or.inl rfl) (pe_ix (ix_any K (hu_of hr)) (pe_lst (pa_cons pe_int (pa_cons pe_int (pa_cons pe_int pa_nil)))) (pe_callC c__law_pick (hr.mono (by decide)) pass0 (pa_cons (pv 0) (pa_cons pe_int pa_nil))) (fun _ _ => rfl)))
  (pss_cons (ps_set (i := 3) sc__law_deep_right.nd rfl (Or.inl rfl) (pe_ifExp (pt_cmpR (op_eqA K hr.units) (pv 2) pe_int (nomark _)) (pe_makeC c_CountScale (hr.mono (by decide)) passL (pa_cons pe_int pa_nil)) (pv 1)))
  (pss_cons (ps_set (i := 4) sc__law_deep_right.nd rfl (Or.inl rfl) (pe_op op_addA pe_int (pe_callC c__law_pick (hr.mono (by decide)) pass0 (pa_cons (pv 0) (pa_cons pe_int pa_nil)))))
  (pss_cons (ps_for PassesOwn.never rfl (pi_range1 (by rfl) Z.z_range (pa_cons (pv 4) pa_nil)) (pg_name (i := 5) sc__law_deep_right.nd rfl (Or.inl rfl)) (pss_cons (ps_set (i := 6) sc__law_deep_right.nd rfl (Or.inl rfl) (pe_callC c__law_pick (hr.mono (by decide)) pass0 (pa_cons (pv 0) (pa_cons pe_int pa_nil))))
  (pss_cons (ps_set (i := 6) sc__law_deep_right.nd rfl (Or.inl rfl) (pe_ifExp (pt_cmpR (op_eqA K hr.units) (pv 6) pe_int (nomark _)) pe_int (pe_op op_modA (pe_callTy call_intA (by rfl) Z.z_int (by decide +kernel) (pa_cons (pv 6) pa_nil)) pe_int)))
  (pss_cons (ps_set (i := 7) sc__law_deep_right.nd rfl (Or.inl rfl) (pe_ifExp (pt_cmpR op_ltA (pv 6) pe_int (nomark _)) (pv 2) (pe_op op_shl pe_int (pv 2))))
  (pss_cons (ps_set (i := 8) sc__law_deep_right.nd rfl (Or.inl rfl) (pe_callC c__law_around (hr.mono (by decide)) pass0 (pa_cons (pv 6) (pa_cons (pv 3) (pa_cons (pv 1) pa_nil)))))
  (pss_cons (ps_if (PW.pt (pw_and (pt_cmpR (op_eqA K hr.units) (pv 6) pe_int (nomark _)) (pw_and1 (pt_cmpR (op_eqA K hr.units) (pe_callC c__law_pick (hr.mono (by decide)) pass0 (pa_cons (pv 0) (pa_cons pe_int pa_nil))) pe_int (nomark _))))) (pss_cons (ps_set (i := 8) sc__law_deep_right.nd rfl (Or.inl rfl) (pe_callC c__law_around (hr.mono (by decide)) pass0 (pa_cons (pv 6) (pa_cons (pv 1) (pa_cons (pv 3) pa_nil)))))
  pss_nil) pss_nil)
  (pss_cons (ps_if (PW.pt (pw_or (pt_cmpR op_gtA (pe_op op_addA (pv 5) pe_int) pe_int (nomark _)) (pw_or1 (pt_cmpR op_gtA (pv 7) pe_int (nomark _))))) (pss_cons (ps_ret (pe_and (pe_cmpR op_isN (pv 8) pe_non (nomark _)) (pe_and (pe_cmpR op_notN (pe_callC c__law_around (hr.mono (by decide)) pass0 (pa_cons pe_int (pa_cons (pv 1) (pa_cons pe_non pa_nil)))) pe_non (nomark _)) (pe_one (pe_cmpR op_notN (pe_callC c__law_around (hr.mono (by decide)) pass0 (pa_cons pe_int (pa_cons (pv 1) (pa_cons pe_non pa_nil)))) pe_non (nomark _))))))
  pss_nil) pss_nil)
  (pss_cons (ps_if (PW.pt (pw_or (pt_cmpR op_isN (pv 8) pe_non (nomark _)) (pw_or1 (pt_not (pt_val (pe_callC c__law_like (hr.mono (by decide)) pass0 (pa_cons (pe_fldK K (pv 8)) (pa_cons (pv 7) pa_nil)))))))) (pss_cons (ps_ret pe_bl)
  pss_nil) pss_nil)
  (pss_cons (ps_set (i := 3) sc__law_deep_right.nd rfl (Or.inl rfl) (pv 8))
  (pss_cons (ps_set (i := 2) sc__law_deep_right.nd rfl (Or.inl rfl) (pv 7))
  pss_nil))))))))))
  (pss_cons (ps_ret pe_bl)
  pss_nil)))))), ?_⟩
    have st := stabS sa cl
    show tSeq _ _ (Ends.mk _ _ _ _) [some _, none, none, none, none, none, none, none, none] _
    have tab1 : ∀ {m : Nat} {σ : L2.St} {G' : Hp}, Ev (Src sa cl) m 0 (tLst (tCons (tLst (tCons (tC (.str "a")) tNil)) tNil)) σ G' (fun v G' => ∃ p, v = .ref p ∧ TabS G' p (rowsS [("a" : Str)] fun _ _ => 0)) := fun {m σ G'} =>
      (ev_lstX (RA := RCons (IsSR [("a" : Str)]) RNil) st (ea_cons ((ev_lstN (vs := [.str "a"]) st (ea_consV ev_c ea_nilV) (by decide)).imp fun v G' s' ⟨p, e, _, g⟩ => ⟨p, e, g⟩) ea_nil) fun vs G' e => by
        obtain ⟨_, _, rfl, _, e⟩ := e
        obtain rfl := (show _ = [] from e)
        exact Nat.le_of_ble_eq_true rfl).imp fun v G' s' ⟨p, xs, e, g, r⟩ => ⟨p, e, xs, g, r⟩
    refine q_set h0 (ev_mkTab st iT oT one_is (ev_lstN (vs := [.str "a"]) st (ea_consV ev_c ea_nilV) (by decide)) tab1 tab1 ev_c ev_c) fun v1 G1 H1 s1 r1 => ?_
    obtain ⟨p1, rfl, sd1⟩ := r1
    have sd1 : ScD K Cs oneSD p1 G1 := sd1
    refine q_setI st s1.s (ev_intP (ws := [1, 1, 64]) st (ea_consV ev_c (ea_consV ev_c (ea_consV ev_c ea_nilV))) (by decide) (ev_pick (ea_consV (ev_var rfl) (ea_consV ev_c ea_nilV)) (by decide) (by decide))) fun s0 H2 hs0 k2 h2 => ?_
    have hs0 : s0 = 1 ∨ s0 = 64 := by simpa using hs0
    refine q_set h2 (ev_if (ka := 0) (kb := 0) (R := IsScP K Cs fun d => DpT d ∧ d.dep = 1 ∧ ((d.names.length : Nat) : Int) = s0) st (et_testV (ev_opV (ev_var rfl) ev_c (v_eqI st))) (fun hc => ?_) fun hc => ?_) fun v3 G3 H3 s3 r3 => ?_
    · have hc := of_decide_eq_true hc
      subst hc
      refine ev_mkCount0 (Pm := fun m => m = 62) (P := fun d => DpT d ∧ d.dep = 1 ∧ ((d.names.length : Nat) : Int) = 64) st iC oC (ev_IP ev_c rfl) (fun m e => by omega) fun m e => ?_
      obtain rfl : m = 62 := by omega
      exact ⟨dpt_cnt, rfl, by rw [show (cntSD 62 true).names.length = 64 from cwords_len 62]; rfl⟩
    · have hc := of_decide_eq_false hc
      refine ev_scpW (ev_ScD sd1 (ev_var rfl)) fun d e => ?_
      subst e
      obtain ⟨a, b, _⟩ := one_dep
      exact ⟨dpt_one, a, by rw [b]; omega⟩
    obtain ⟨d0, ⟨x0, rfl, sdx⟩, dt0, dd0, dn0⟩ := r3
    obtain rfl := dn0.symm
    refine q_setI st s3.s (ev_2I (P1 := fun z => z = 8) (P2 := fun z => 0 ≤ z ∧ z < 4) (P3 := fun z => 0 ≤ z ∧ z < 12) (ev_IP ev_c rfl) (ev_pick (ea_consV (ev_var rfl) (ea_consV ev_c ea_nilV)) (by decide) (by decide)) (fun i j G' => v_add st) fun i j h1 h2 => by omega) fun many H4 hmany k4 h4 => ?_
    have sd13 := sd1.mono s3.g
    refine q_forR st h4 (ea_consV (ev_var rfl) ea_nilV) (fun j => 4 * j) (fun j σ' G' H' => ∃ (x : Addr) (d : SD) (y5 y6 y7 y8 : Option V), σ' = [some (.ref sa), some (.ref p1), some (.int (d.names.length : Nat)), some (.ref x), some (.int many), y5, y6, y7, y8] ∧ ScD K Cs d x G' ∧ DpT d ∧ d.dep = (j : Int) + 1 ∧ szOk d.names.length) rfl (by omega) (by omega) (fun H5 k5 h5 => ⟨x0, d0, _, _, _, _, rfl, sdx, dt0, by rw [dd0]; rfl, by unfold szOk; omega⟩) (fun j σ' G5 H5 hj s5 h5 hp => ?_) (fun σ' G5 H5 s5 h5 hp => ?_)
    · obtain ⟨x, d, y5, y6, y7, y8, rfl, sd, dt, dd, so⟩ := hp
      have d2 := dt.d2
      have sd15 := sd13.mono s5
      show tSeq _ _ (Ends.mk _ _ _ _) [some (.ref sa), some (.ref p1), some (.int (d.names.length : Nat)), some (.ref x), some (.int many), some (.int (j : Nat)), y6, y7, y8] _
      refine q_setI st h5 (ev_pick (ea_consV (ev_var rfl) (ea_consV ev_c ea_nilV)) (by decide) (by decide)) fun w0 H6 hw0 k6 h6 => ?_
      refine q_setI st h6 (ev_if (ka := 0) (kb := 0) (R := IsI fun z => z = 0 ∨ z = 1 ∨ z = 2) st (et_testV (ev_opV (ev_var rfl) ev_c (v_eqI st))) (fun hc => ev_IP ev_c (.inr (.inr rfl))) fun hc => ev_IP (ev_opV (ev_cbV (ea_consV (ev_var rfl) ea_nilV) (c_int st)) ev_c (v_mod st (by decide))) (by omega)) fun w H7 hw k7 h7 => ?_
      refine q_setV st h7 (x := .int (aftN w d.names.length : Nat)) (ev_if (ka := 0) (kb := 0) (R := IsV (.int (aftN w d.names.length : Nat))) st (et_testV (ev_opV (ev_var rfl) ev_c (v_lt st))) (fun hc => ?_) fun hc => ?_) fun H8 k8 h8 => ?_
      · unfold aftN
        rw [if_pos (of_decide_eq_true hc)]
        exact ev_var rfl
      · unfold aftN
        rw [if_neg (of_decide_eq_false hc)]
        refine ev_eq ?_ (ev_opV ev_c (ev_var rfl) (v_shl (i := 1) st ⟨by omega, by have := dt.ok.l2; omega, by decide⟩))
        rw [Int.one_mul, Int.toNat_natCast, Int.natCast_pow]
        rfl
      obtain ⟨Rr, a1, a2⟩ := ard_ok hw sd sd15 dt dd so
      refine q_set h8 ((ev_callV st (ea_consV (ev_var rfl) (ea_consV (ev_var rfl) (ea_consV (ev_var rfl) ea_nilV))) fun G' s' => a1 G' s').imp fun v G' s' h => a2 v G' h) fun v9 G9 H9 s9 r9 => ?_
      refine q_ifB st (fun σ' J => ∃ v8 G', σ' = [some (.ref sa), some (.ref p1), some (.int (d.names.length : Nat)), some (.ref x), some (.int many), some (.int (j : Nat)), some (.int w), some (.int (aftN w d.names.length : Nat)), some v8] ∧ AroR K Cs j (aftN w d.names.length) v8 G' ∧ Same G5 G' ∧ Src sa cl (n + 2 + 4 * j + 3) G' J) s9.s (et_andL (a := decide (w = 0)) st (et_testV (ev_opV (ev_var rfl) ev_c (v_eqI st))) fun _ => et_any (Ra := IsI fun z => 0 ≤ z ∧ z < 2) (Rb := IsV (.int 0)) st (ev_pick (ea_consV (ev_var rfl) (ea_consV ev_c ea_nilV)) (by decide) (by decide)) ev_c fun u v G' s' hu hv => ?_) (fun σ' J hj => ?_) (fun HA hu p k hA => ?_) (fun HA hu p k hA => ?_)
      · obtain ⟨z, _, rfl⟩ := hu
        obtain rfl := (show _ = _ from hv)
        exact ⟨_, v_eqI st⟩
      · obtain ⟨v8, G8, rfl, ar, s8, h8⟩ := hj
        refine q_if st h8 (P := fun c => c = decide (¬ (j + 2 ≤ 10 ∧ aftN w d.names.length ≤ 64))) ((et_or st (et_testV (ev_opV (ev_opV (ev_var rfl) ev_c (v_add st)) ev_c (v_gt st))) fun _ => et_testV (ev_opV (ev_var rfl) ev_c (v_gt st))).imp fun c h => ?_) (fun HB pB kB hB => ?_) (fun HB pB kB hB => q_end ?_)
        · rw [h, ← Bool.decide_or]
          exact decide_eq_decide.mpr (by omega)
        · have pB := of_decide_eq_true pB.symm
          obtain rfl : v8 = .non := by
            rcases ar with ar | ar
            · exact absurd ⟨ar.1, ar.2.1⟩ pB
            · exact ar.2
          have sdo := sd15.mono s8
          have td := depL1 (d := oneSD) (by rw [one_dep.1]; decide)
          rw [one_dep.1] at td
          have ar1 : ∀ {m : Nat} {σ : L2.St} {G' : Hp}, Same G8 G' → σ[1]? = some (some (.ref p1)) → Ev (Src sa cl) m (0 + (0 + (0 + 0))) (tCall (spP (PArd K Cs)) [] E0 (tCons (tC (.int 1)) (tCons (tVar 1) (tCons (tC .non) tNil)))) σ G' (IsScP K Cs fun d' => d' = turnSD oneSD) := fun s' e =>
            ev_callV st (ea_consV ev_c (ea_consV (ev_var e) (ea_consV ev_c ea_nilV))) fun G' s'' => ⟨p1, oneSD, (sdo.mono s').mono s'', smk_one.o, .inr (.inl ⟨_, rfl, .inl ⟨by omega, rfl⟩⟩)⟩
          have ar2 : ∀ {m : Nat} {σ : L2.St} {G' : Hp}, Same G8 G' → σ[1]? = some (some (.ref p1)) → Ev (Src sa cl) m (0 + (0 + (0 + 0))) (tCall (spP (PArd K Cs)) [] E0 (tCons (tC (.int 2)) (tCons (tVar 1) (tCons (tC .non) tNil)))) σ G' (IsScP K Cs fun d' => d' = heapSD oneSD) := fun s' e =>
            ev_callV st (ea_consV ev_c (ea_consV (ev_var e) (ea_consV ev_c ea_nilV))) fun G' s'' => ⟨p1, oneSD, (sdo.mono s').mono s'', smk_one.o, .inr (.inr ⟨_, rfl, .inl ⟨by rw [one_dep.2.1]; decide, by omega, (heap_word smk_one.o.nd dpt_one.wd).1, rfl⟩⟩)⟩
          exact q_retV st hB (ev_andT st (ev_eq (by rfl) (ev_opV (ev_var rfl) ev_c (v_isN st))) (ev_andT st (ev_ntN st (ar1 (Same.refl _) rfl)) (ev_ntN st (ar2 (Same.refl _) rfl)))) fun HC kC hC => q _
        · have pB : j + 2 ≤ 10 ∧ aftN w d.names.length ≤ 64 := Decidable.byContradiction fun z => absurd pB.symm (by rw [decide_eq_true z]; decide)
          obtain ⟨d', ⟨x', rfl, sd'⟩, dt', dd', dn'⟩ : IsScP K Cs (fun d' => DpT d' ∧ d'.dep = (j : Int) + 2 ∧ d'.names.length = aftN w d.names.length) v8 G8 := by
            rcases ar with ar | ar
            · exact ar.2.2
            · exact absurd pB ar.1
          refine q_if st hB (P := fun c => c = (false || !true)) (et_or st ((et_testV (ev_opV (ev_var rfl) ev_c (v_isN st))).imp fun c h => by rw [h]; rfl) fun _ => et_not (et_B (ev_callV (R := IsV (.bl true)) st (ea_consV (ev_sF st sd' (ev_var rfl)).1 (ea_consV (ev_var rfl) ea_nilV)) fun G' s' => by rw [dn']; exact like_int (by decide)))) (fun HC pC kC hC => by cases pC) (fun HC pC kC hC => q_end ?_)
          refine q_setV st hC (ev_var rfl) fun HD kD hD => ?_
          refine q_setV st hD (ev_var rfl) fun HE kE hE => q_end ?_
          refine ⟨G8, s5.trans s8, st.wk hE (by omega), x', d', _, _, _, _, by rw [dn']; rfl, sd', dt', by rw [dd']; omega, ?_⟩
          rw [dn']
          unfold aftN at pB ⊢
          unfold szOk at so ⊢
          split
          · exact so
          · rename_i hw2
            rw [if_neg hw2] at pB
            have hl : d.names.length ≤ 6 := by
              refine Decidable.byContradiction fun z6 => ?_
              have : 2 ^ 7 ≤ 2 ^ d.names.length := Nat.pow_le_pow_right (by decide) (by omega)
              omega
            rcases so with e | e | e | e | e <;> rw [e] at hl ⊢ <;> first | decide | (exfalso; revert hl; decide)
      · have p : w = 0 := of_decide_eq_true (p rfl)
        subst p
        obtain ⟨Rr, a1, a2⟩ := ard_flip (sd.mono s9.g) (sd15.mono s9.g) dt dd
        refine q_set hA ((ev_callV st (ea_consV (ev_var rfl) (ea_consV (ev_var rfl) (ea_consV (ev_var rfl) ea_nilV))) fun G' s' => a1 G' s').imp fun v G' s' h => a2 v G' h) fun vB GB HB sB rB => q_end (hu _ _ ⟨vB, GB, rfl, rB, s9.g.trans sB.g, st.wk sB.s (by omega)⟩)
      · exact q_end (hu _ _ ⟨v9, G9, rfl, r9, s9.g, st.wk hA (by omega)⟩)
    · exact q_retV st h5 ev_c fun H6 k6 h6 => q _
theorem ev_pickP {sa cl : Addr} {n ka : Nat} {t : TA} {σ : L2.St} {G : Hp} {Pm : Int → Prop} {E : XK} (h : EvA (Src sa cl) n ka t σ G (RCons (IsV (.ref sa)) (RCons (IsI Pm) RNil))) (hm : ∀ m, Pm m → 1 ≤ m ∧ m ≤ 10 ^ 7) : Ev (Src sa cl) n (ka + 1) (tCall sp_pick [] E t) σ G (IsI fun r => ∃ m, Pm m ∧ 0 ≤ r ∧ r < m) := fun G1 H1 s0 s Q q =>
  h G1 H1 s0 s _ fun vs G2 H2 s2 e => by
    obtain ⟨_, _, rfl, a1, _, _, rfl, ⟨m, pm, rfl⟩, e⟩ := e
    obtain rfl := (show _ = _ from a1)
    obtain rfl := (show _ = [] from e)
    have b := hm m pm
    have z := ev_pick (st := sa) (cl := cl) (E := E) (many := m) (n := n + ka) (σ := σ) (G := G2) (ea_consV (ev_c (x := .ref sa)) (ea_consV (ev_c (x := .int m)) ea_nilV)) b.1 b.2
    exact z G2 H2 (Same.refl _) s2.s Q fun v G3 H3 s3 ⟨r, hr, er⟩ => q v G3 H3 (s2.trans s3).up ⟨r, ⟨m, pm, hr⟩, er⟩
abbrev s_law : Stmt := top 37
theorem sc_law : FnScope ["_law_script", "_law_state", "_law_kind", "_law_first", "_law_second", "_law_made", "_law_sort", "_law_number_here"] ["_law_script"] (defScope s_law) := ⟨rfl, rfl, rfl, by decide +kernel, rfl, by decide +kernel, by decide +kernel⟩
theorem ok_law06 {Cs : List Addr} {CC : Addr} (Z : Bi mg) (iC : CC ∈ Cs) (oC : ClsOk K CC) (c__law_source : Callee P w K mg base "_law_source" CX0 1 ["_law_script"] [] (sp_source K)) (c__law_pick : Callee P w K mg base "_law_pick" CX0 1 ["_law_source_here", "_law_many"] [] sp_pick)
    (c__law_number : Callee P w K mg base "_law_number" CX0 2 ["_law_state", "_law_below", "_law_above"] [] (spS PNum6)) (c__law_family : Callee P w K mg base "_law_family" CX0 12 ["_law_kind", "_law_number_here", "_law_sort"] [] (spP (PFam K))) (c__law_family_size : Callee P w K mg base "_law_family_size" CX0 1 ["_law_kind", "_law_number_here", "_law_sort"] [] (spP (PFsz K)))
    (c__law_due : Callee P w K mg base "_law_due" CX0 1 ["_law_size"] [] (spP PDue)) (c__law_deep_right : Callee P w K mg base "_law_deep_right" CX0 13 ["_law_state"] [] spDeep) (c__law_around : Callee P w K mg base "_law_around" CX0 12 ["_law_way", "_law_first", "_law_second"] [] (spP (PArd K Cs))) (c__law_like : Callee P w K mg base "_law_like" CX0 4 ["_law_found", "_law_due_here"] [] (spP (PLike K 4)))
    (c_CountScale : Maker P w K mg base "CountScale" CC (L2.CX P w) 10 ["self", "most", "order"] [.str "up"] (spI (PCsI CC))) {f : Addr} {fd : FuncData}
    (F : Fun K "law" "law" s_law f fd) : FnOk P w K mg base CX0 14 f fd ["_law_script"] (sp_law K) := by
  refine F.ok sc_law (fun vs H Q E h => ?_) (fun cdv A outer s H vs Q E hr h => ?_)
  · obtain ⟨_, _, rfl, _⟩ := h
    rfl
  · obtain ⟨p, ns, rfl, hq, hl, q⟩ := h
    refine ⟨_, (pss_cons (ps_set (i := 1) sc_law.nd rfl (Or.inl rfl) (pe_callC c__law_source (hr.mono (by decide)) pass0 (pa_cons (pv 0) pa_nil)))
  (pss_cons (ps_set (i := 2) sc_law.nd rfl (Or.inl rfl) (pe_callC c__law_pick (hr.mono (by decide)) pass0 (pa_cons (pv 1) (pa_cons pe_int pa_nil))))
  (pss_cons (ps_if (pt_cmpR op_ltA (pv 2) pe_int (nomark _)) (pss_cons (ps_set (i := 6) sc_law.nd rfl (Or.inl rfl) (pe_ix (ix_any K (hu_of hr)) (pe_lst (pa_cons pe_str (pa_cons pe_str (pa_cons pe_str (pa_cons pe_str (pa_cons pe_str (pa_cons pe_str (pa_cons pe_str pa_nil)))))))) (pe_callC c__law_pick (hr.mono (by decide)) pass0 (pa_cons (pv 1) (pa_cons pe_int pa_nil))) (fun _ _ => rfl)))
  (pss_cons (ps_if (pt_cmpR (op_eqA K hr.units) (pe_callC c__law_pick (hr.mono (by decide)) pass0 (pa_cons (pv 1) (pa_cons pe_int pa_nil))) pe_int (nomark _)) (pss_cons (ps_set (i := 6) sc_law.nd rfl (Or.inl rfl) (pe_ix (ix_any K (hu_of hr)) (pe_lst (pa_cons pe_str (pa_cons pe_str (pa_cons pe_str (pa_cons pe_str pa_nil))))) (pv 2) (fun _ _ => rfl)))
  pss_nil) pss_nil)
  (pss_cons (ps_set (i := 7) sc_law.nd rfl (Or.inl rfl) (pe_callC c__law_number (hr.mono (by decide)) pass0 (pa_cons (pv 1) (pa_cons (pe_un un_neg pe_int) (pa_cons (pe_ix (ix_any K (hu_of hr)) (pe_lst (pa_cons pe_int (pa_cons pe_int (pa_cons pe_int (pa_cons pe_int pa_nil))))) (pv 2) (fun _ _ => rfl)) pa_nil)))))
  (pss_cons (ps_ret (pe_callC c__law_like (hr.mono (by decide)) pass0 (pa_cons (pe_callC c__law_family (hr.mono (by decide)) pass0 (pa_cons (pv 2) (pa_cons (pv 7) (pa_cons (pv 6) pa_nil)))) (pa_cons (pe_callC c__law_due (hr.mono (by decide)) pass0 (pa_cons (pe_callC c__law_family_size (hr.mono (by decide)) pass0 (pa_cons (pv 2) (pa_cons (pv 7) (pa_cons (pv 6) pa_nil)))) pa_nil)) pa_nil))))
  pss_nil)))) pss_nil)
  (pss_cons (ps_if (pt_cmpR (op_eqA K hr.units) (pv 2) pe_int (nomark _)) (pss_cons (ps_ret (pe_callC c__law_deep_right (hr.mono (by decide)) pass0 (pa_cons (pv 1) pa_nil)))
  pss_nil) pss_nil)
  (pss_cons (ps_set (i := 3) sc_law.nd rfl (Or.inl rfl) (pe_op op_addA pe_int (pe_callC c__law_pick (hr.mono (by decide)) pass0 (pa_cons (pv 1) (pa_cons pe_int pa_nil)))))
  (pss_cons (ps_set (i := 4) sc_law.nd rfl (Or.inl rfl) (pe_op op_addA pe_int (pe_callC c__law_pick (hr.mono (by decide)) pass0 (pa_cons (pv 1) (pa_cons pe_int pa_nil)))))
  (pss_cons (ps_if (pt_cmpR (op_eqA K hr.units) (pe_callC c__law_pick (hr.mono (by decide)) pass0 (pa_cons (pv 1) (pa_cons pe_int pa_nil))) pe_int (nomark _)) (pss_cons (ps_set (i := 4) sc_law.nd rfl (Or.inl rfl) (pe_op op_addA (pe_op op_divA pe_int (pv 3)) (pe_callC c__law_pick (hr.mono (by decide)) pass0 (pa_cons (pv 1) (pa_cons pe_int pa_nil)))))
  pss_nil) pss_nil)
  (pss_cons (ps_set (i := 4) sc_law.nd rfl (Or.inl rfl) (pe_ifExp (pt_cmpR op_ltA (pv 4) pe_int (nomark _)) pe_int (pv 4)))
  (pss_cons (ps_if (pt_cmpR (op_eqA K hr.units) (pv 2) pe_int (nomark _)) (pss_cons (ps_set (i := 3) sc_law.nd rfl (Or.inl rfl) (pe_op op_addA pe_int (pe_callC c__law_pick (hr.mono (by decide)) pass0 (pa_cons (pv 1) (pa_cons (pe_ix (ix_any K (hu_of hr)) (pe_lst (pa_cons pe_int (pa_cons pe_int pa_nil))) (pe_callC c__law_pick (hr.mono (by decide)) pass0 (pa_cons (pv 1) (pa_cons pe_int pa_nil))) (fun _ _ => rfl)) pa_nil)))))
  (pss_cons (ps_set (i := 5) sc_law.nd rfl (Or.inl rfl) (pe_callC c__law_around (hr.mono (by decide)) pass0 (pa_cons pe_int (pa_cons (pe_makeC c_CountScale (hr.mono (by decide)) passL (pa_cons (pe_op op_subA (pv 3) pe_int) pa_nil)) (pa_cons pe_non pa_nil)))))
  (pss_cons (ps_ret (pe_ifExp (pt_cmpR op_gtA (pv 3) pe_int (nomark _)) (pe_cmpR op_isN (pv 5) pe_non (nomark _)) (pe_and (pe_cmpR op_notN (pv 5) pe_non (nomark _)) (pe_one (pe_callC c__law_like (hr.mono (by decide)) pass0 (pa_cons (pe_fldK K (pv 5)) (pa_cons (pe_op op_shl pe_int (pv 3)) pa_nil)))))))
  pss_nil))) pss_nil)
  (pss_cons (ps_set (i := 5) sc_law.nd rfl (Or.inl rfl) (pe_callC c__law_around (hr.mono (by decide)) pass0 (pa_cons pe_int (pa_cons (pe_makeC c_CountScale (hr.mono (by decide)) passL (pa_cons (pe_op op_subA (pv 3) pe_int) pa_nil)) (pa_cons (pe_makeC c_CountScale (hr.mono (by decide)) passL (pa_cons (pe_op op_subA (pv 4) pe_int) pa_nil)) pa_nil)))))
  (pss_cons (ps_if (pt_cmpR op_gtA (pe_op op_mulA (pv 3) (pv 4)) pe_int (nomark _)) (pss_cons (ps_ret (pe_cmpR op_isN (pv 5) pe_non (nomark _)))
  pss_nil) pss_nil)
  (pss_cons (ps_ret (pe_and (pe_cmpR op_notN (pv 5) pe_non (nomark _)) (pe_one (pe_callC c__law_like (hr.mono (by decide)) pass0 (pa_cons (pe_fldK K (pv 5)) (pa_cons (pe_op op_mulA (pv 3) (pv 4)) pa_nil))))))
  pss_nil)))))))))))), ?_⟩
    show tSeq _ _ (Ends.mk _ _ _ _) [some _, none, none, none, none, none, none, none] _
    refine q_source (fun Q q => ⟨_, rfl, q⟩) hq (by omega) fun sa cl H1 h1 => ?_
    have st := stabS sa cl
    refine q_setI st h1 (ev_pick (ea_consV (ev_var rfl) (ea_consV ev_c ea_nilV)) (by decide) (by decide)) fun kd H2 hkd k2 h2 => ?_
    refine q_if st h2 (et_testV (ev_opV (ev_var rfl) ev_c (v_lt st))) (fun H3 p3 k3 h3 => ?_) (fun H3 p3 k3 h3 => q_end ?_)
    · have hk4 := of_decide_eq_true p3.symm
      refine q_set h3 (ev_wordP (ws := ["up", "down", "may", "must", "", "Up", "same"]) st (ea_consV ev_c (ea_consV ev_c (ea_consV ev_c (ea_consV ev_c (ea_consV ev_c (ea_consV ev_c (ea_consV ev_c ea_nilV))))))) (by decide) (ev_pick (ea_consV (ev_var rfl) (ea_consV ev_c ea_nilV)) (by decide) (by decide))) fun v4 G4 H4 s4 r4 => ?_
      obtain ⟨so, _, rfl⟩ := r4
      refine q_ifB st (fun σ' J => ∃ so' G', σ' = [some (.ref p), some (.ref sa), some (.int kd), none, none, none, some (.str so'), none] ∧ Src sa cl 100 G' J) s4.s (et_any (Ra := IsI fun z => 0 ≤ z ∧ z < 2) (Rb := IsV (.int 0)) st (ev_pick (ea_consV (ev_var rfl) (ea_consV ev_c ea_nilV)) (by decide) (by decide)) ev_c fun u v G' s' hu hv => ?_) (fun σ' J hj => ?_) (fun H5 hu p5 k5 h5 => ?_) (fun H5 hu p5 k5 h5 => ?_)
      · obtain ⟨z, _, rfl⟩ := hu
        obtain rfl := (show _ = _ from hv)
        exact ⟨_, v_eqI st⟩
      · obtain ⟨so', G5, rfl, h5⟩ := hj
        refine q_setI st h5 (ev_callS (kb := 2) (R := IsI fun z => -(10 ^ 60) ≤ z ∧ z < 10 ^ 60) (RA := RCons (IsV (.ref sa)) (RCons (IsV (.int (-2))) (RCons (IsI fun z => z ∈ ([66, 12, 8, 4] : List Int)) RNil))) (ea_cons (ev_var rfl) (ea_cons (ev_unV ev_c (u_neg st)) (ea_cons (ev_intP (ws := [66, 12, 8, 4]) st (ea_consV ev_c (ea_consV ev_c (ea_consV ev_c (ea_consV ev_c ea_nilV)))) (by decide) (ev_IP (ev_var rfl) ⟨hkd.1, hk4⟩)) ea_nil))) fun vs G' s' e => ?_) fun m H6 hm k6 h6 => ?_
        · obtain ⟨_, _, rfl, a1, _, _, rfl, a2, _, _, rfl, ⟨z, hz, rfl⟩, e⟩ := e
          obtain rfl := (show _ = _ from a1)
          obtain rfl := (show _ = _ from a2)
          obtain rfl := (show _ = [] from e)
          have hz : z = 66 ∨ z = 12 ∨ z = 8 ∨ z = 4 := by simpa using hz
          exact ⟨-2, z, rfl, by decide, by omega, by omega, by decide, rfl, rfl⟩
        have fs : ∀ {j : Nat} {σ : L2.St} {G' : Hp}, σ[2]? = some (some (.int kd)) → σ[7]? = some (some (.int m)) → σ[6]? = some (some (.str so')) → Ev (Src sa cl) j 0 (tCall (spP (PFsz K)) [] E0 (tCons (tVar 2) (tCons (tVar 7) (tCons (tVar 6) tNil)))) σ G' (IsV (.int (famSz kd m so'))) := fun e2 e7 e6 => ev_callV st (ea_consV (ev_var e2) (ea_consV (ev_var e7) (ea_consV (ev_var e6) ea_nilV))) fun G' s' => ⟨kd, m, so', rfl, hkd.1, hk4, hm.1, hm.2, rfl⟩
        refine q_retV st h6 (ev_call (RA := RCons (IsBl (famL (famSz kd m so'))) (RCons (IsBl (famL (famSz kd m so'))) RNil)) st (ea_cons (ev_callV st (ea_consV (ev_var rfl) (ea_consV (ev_var rfl) (ea_consV (ev_var rfl) ea_nilV))) fun G' s' => ⟨kd, m, so', rfl, hkd.1, hk4, hm.1, hm.2, rfl⟩) (ea_cons (ev_callV st (ea_consV (fs rfl rfl rfl) ea_nilV) fun G' s' => ⟨_, rfl, fun z => fam_m1 z hkd.1, rfl⟩) ea_nil)) fun vs G' s' e => ?_) fun H7 k7 h7 => q _
        obtain ⟨_, _, rfl, ⟨q1, rfl, g1⟩, _, _, rfl, ⟨q2, rfl, g2⟩, e⟩ := e
        obtain rfl := (show _ = [] from e)
        exact like_fam g1 g2
      · refine q_set h5 (ev_wordP (ws := ["up", "", "may", ""]) st (ea_consV ev_c (ea_consV ev_c (ea_consV ev_c (ea_consV ev_c ea_nilV)))) (by decide) (ev_IP (ev_var rfl) ⟨hkd.1, hk4⟩)) fun v6 G6 H6 s6 r6 => ?_
        obtain ⟨so', _, rfl⟩ := r6
        exact q_end (hu _ _ ⟨so', G6, rfl, st.wk s6.s (by omega)⟩)
      · exact q_end (hu _ _ ⟨so, G4, rfl, st.wk h5 (by omega)⟩)
    refine q_if st h3 (et_testV (ev_opV (ev_var rfl) ev_c (v_eqI st))) (fun H4 p4 k4 h4 => ?_) (fun H4 p4 k4 h4 => q_end ?_)
    · exact ⟨.ref sa, rfl, sa, cl, _, _, rfl, h4, by decide, fun H' => q H'⟩
    refine q_setI st h4 (ev_2I (P1 := fun z => z = 2) (P2 := fun z => 0 ≤ z ∧ z < 63) (P3 := fun z => 2 ≤ z ∧ z ≤ 64) (ev_IP ev_c rfl) (ev_pick (ea_consV (ev_var rfl) (ea_consV ev_c ea_nilV)) (by decide) (by decide)) (fun i j G' => v_add st) fun i j h1 h2 => by omega) fun a H5 ha k5 h5 => ?_
    refine q_setI st h5 (ev_2I (P1 := fun z => z = 2) (P2 := fun z => 0 ≤ z ∧ z < 63) (P3 := fun z => 2 ≤ z ∧ z ≤ 64) (ev_IP ev_c rfl) (ev_pick (ea_consV (ev_var rfl) (ea_consV ev_c ea_nilV)) (by decide) (by decide)) (fun i j G' => v_add st) fun i j h1 h2 => by omega) fun b0 H6 hb0 k6 h6 => ?_
    refine q_ifB st (fun σ' J => ∃ b1 G', σ' = [some (.ref p), some (.ref sa), some (.int kd), some (.int a), some (.int b1), none, none, none] ∧ (0 ≤ b1 ∧ b1 ≤ 64) ∧ Src sa cl 100 G' J) h6 (et_any (Ra := IsI fun z => 0 ≤ z ∧ z < 2) (Rb := IsV (.int 0)) st (ev_pick (ea_consV (ev_var rfl) (ea_consV ev_c ea_nilV)) (by decide) (by decide)) ev_c fun u v G' s' hu hv => ?_) (fun σ' J hj => ?_) (fun H7 hu p7 k7 h7 => ?_) (fun H7 hu p7 k7 h7 => ?_)
    · obtain ⟨z, _, rfl⟩ := hu
      obtain rfl := (show _ = _ from hv)
      exact ⟨_, v_eqI st⟩
    · obtain ⟨b1, G8, rfl, hb1, h8⟩ := hj
      refine q_setI st h8 (ev_if (ka := 0) (kb := 0) (R := IsI fun z => 2 ≤ z ∧ z ≤ 64) st (et_testV (ev_opV (ev_var rfl) ev_c (v_lt st))) (fun hc => ev_IP ev_c (by decide)) fun hc => ev_IP (ev_var rfl) (by have := of_decide_eq_false hc; omega)) fun b H9 hb k9 h9 => ?_
      have mkc : ∀ {j ka : Nat} {te : TE} {σ : L2.St} {G' : Hp} {z : Int} {m : Nat}, z = (m : Int) + 2 → m < 63 → Ev (Src sa cl) j ka te σ G' (IsV (.int z)) → Ev (Src sa cl) j (ka + 0 + 0) (tMake CC (spI (PCsI CC)) [.str "up"] E0 (tCons (tOp rSubI te (tC (.int 2))) tNil)) σ G' (IsScP K Cs fun d => d = cntSD m true) := fun {j ka te σ G' z m} z1 z2 e =>
        ev_mkCount0 (Pm := fun i => i = z - 2) (P := fun d => d = cntSD m true) st iC oC (ev_IP (ev_opV e ev_c (v_sub st)) rfl) (fun m e => by omega) fun m' e => by rw [show m' = m by omega]
      refine q_if st h9 (et_testV (ev_opV (ev_var rfl) ev_c (v_eqI st))) (fun HA pA kA hA => ?_) (fun HA pA kA hA => q_end ?_)
      · refine q_setI st hA (ev_2I (P1 := fun z => z = 2) (P2 := fun z => 0 ≤ z ∧ z < 63) (P3 := fun z => 2 ≤ z ∧ z ≤ 64) (ev_IP ev_c rfl) (ev_impI (ev_pickP (Pm := fun z => z ∈ ([9, 63] : List Int)) (ea_cons (ev_var rfl) (ea_cons (ev_intP (ws := [9, 63]) st (ea_consV ev_c (ea_consV ev_c ea_nilV)) (by decide) (ev_pick (ea_consV (ev_var rfl) (ea_consV ev_c ea_nilV)) (by decide) (by decide))) ea_nil)) fun m hm => ?_) fun r hr => ?_) (fun i j G' => v_add st) fun i j h1 h2 => by omega) fun c HB hc kB hB => ?_
        · have hm : m = 9 ∨ m = 63 := by simpa using hm
          omega
        · obtain ⟨m, hm, hr⟩ := hr
          have hm : m = 9 ∨ m = 63 := by simpa using hm
          omega
        obtain ⟨m, rfl⟩ : ∃ m : Nat, c = (m : Int) + 2 := ⟨(c - 2).toNat, by omega⟩
        have tr := tr_cnt (t := m) (by omega) true
        have ln : (cntSD m true).names.length = m + 2 := cwords_len m
        have dp := depL1b tr.d1 tr.d2
        by_cases c6 : (m : Int) + 2 ≤ 6
        · refine q_set hB (ev_call (RA := RCons (IsV (.int 2)) (RCons (IsScP K Cs fun d => d = cntSD m true) (RCons (IsV .non) RNil))) (R := IsScP K Cs fun d' => d' = heapSD (cntSD m true)) st (ea_cons ev_c (ea_cons (mkc rfl (by omega) (ev_var rfl)) (ea_cons ev_c ea_nil))) fun vs G' s' e => ?_) fun vC GC HC sC rC => ?_
          · obtain ⟨_, _, rfl, a1, _, _, rfl, ⟨d, ⟨x, rfl, sd⟩, rfl⟩, _, _, rfl, a2, e⟩ := e
            obtain rfl := (show _ = _ from a1)
            obtain rfl := (show _ = _ from a2)
            obtain rfl := (show _ = [] from e)
            exact ⟨x, _, sd, tr.ok, .inr (.inr ⟨_, rfl, .inl ⟨by omega, by omega, (heap_word tr.ok.nd tr.wd).1, rfl⟩⟩)⟩
          obtain ⟨d', ⟨x', rfl, sd'⟩, rfl⟩ := rC
          have lh : (heapSD (cntSD m true)).names.length = 2 ^ (m + 2) := by
            rw [← ln]
            exact heapNames_len _
          refine q_retV st sC.s (x := .bl true) (ev_if (ka := 0) (kb := 0) (R := IsV (.bl true)) st (et_testV (ev_opV (ev_var rfl) ev_c (v_gt st))) (fun hc => absurd (of_decide_eq_true hc) (by omega)) fun hc => ev_andT st (ev_eq rfl (ev_opV (ev_var rfl) ev_c (v_notN st))) (ev_callV st (ea_consV (ev_sF st sd' (ev_var rfl)).1 (ea_consV (ev_opV ev_c (ev_var rfl) (v_shl (i := 1) st ⟨by omega, by omega, by decide⟩)) ea_nilV)) fun G' s' => ?_)) fun HD kD hD => q _
          rw [lh, Int.one_mul, show ((m : Int) + 2).toNat = m + 2 by omega, Int.natCast_pow]
          exact like_int (by decide)
        · refine q_set hB (ev_call (RA := RCons (IsV (.int 2)) (RCons (IsScP K Cs fun d => d = cntSD m true) (RCons (IsV .non) RNil))) (R := IsV .non) st (ea_cons ev_c (ea_cons (mkc rfl (by omega) (ev_var rfl)) (ea_cons ev_c ea_nil))) fun vs G' s' e => ?_) fun vC GC HC sC rC => ?_
          · obtain ⟨_, _, rfl, a1, _, _, rfl, ⟨d, ⟨x, rfl, sd⟩, rfl⟩, _, _, rfl, a2, e⟩ := e
            obtain rfl := (show _ = _ from a1)
            obtain rfl := (show _ = _ from a2)
            obtain rfl := (show _ = [] from e)
            exact ⟨x, _, sd, tr.ok, .inr (.inr ⟨_, rfl, .inr ⟨.inl (by omega), rfl⟩⟩)⟩
          obtain rfl := (show _ = _ from rC)
          exact q_retV st sC.s (x := .bl true) (ev_if (ka := 0) (kb := 0) (R := IsV (.bl true)) st (et_testV (ev_opV (ev_var rfl) ev_c (v_gt st))) (fun hc => ev_eq rfl (ev_opV (ev_var rfl) ev_c (v_isN st))) fun hc => absurd (of_decide_eq_false hc) (by omega)) fun HD kD hD => q _
      · obtain ⟨m, rfl⟩ : ∃ m : Nat, a = (m : Int) + 2 := ⟨(a - 2).toNat, by omega⟩
        obtain ⟨l, rfl⟩ : ∃ l : Nat, b = (l : Int) + 2 := ⟨(b - 2).toNat, by omega⟩
        have tr := tr_cnt (t := m) (by omega) true
        have tr2 := tr_cnt (t := l) (by omega) true
        have ln : (cntSD m true).names.length = m + 2 := cwords_len m
        have ln2 : (cntSD l true).names.length = l + 2 := cwords_len l
        have dp := depL2b tr.d1 tr.d2 tr2.d1 tr2.d2
        have en : ((m : Int) + 2) * ((l : Int) + 2) = (((m + 2) * (l + 2) : Nat) : Int) := by
          rw [Int.natCast_mul]
          rfl
        by_cases c6 : (m + 2) * (l + 2) ≤ 64
        · refine q_set hA (ev_call (RA := RCons (IsV (.int 0)) (RCons (IsScP K Cs fun d => d = cntSD m true) (RCons (IsScP K Cs fun d => d = cntSD l true) RNil))) (R := IsScP K Cs fun d' => d' = pairSD (cntSD m true) (cntSD l true)) st (ea_cons ev_c (ea_cons (mkc rfl (by omega) (ev_var rfl)) (ea_cons (mkc rfl (by omega) (ev_var rfl)) ea_nil))) fun vs G' s' e => ?_) fun vC GC HC sC rC => ?_
          · obtain ⟨_, _, rfl, a1, _, _, rfl, ⟨d, ⟨x, rfl, sd⟩, rfl⟩, _, _, rfl, ⟨d2, ⟨x2, rfl, sd2⟩, rfl⟩, e⟩ := e
            obtain rfl := (show _ = _ from a1)
            obtain rfl := (show _ = [] from e)
            exact ⟨x, _, sd, tr.ok, .inl ⟨x2, _, rfl, sd2, tr2.ok, .inl ⟨by rw [ln, ln2]; exact c6, by omega, (pair_word tr.ok.nd tr2.ok.nd tr.wd tr2.wd).1, rfl⟩⟩⟩
          obtain ⟨d', ⟨x', rfl, sd'⟩, rfl⟩ := rC
          have lh : (pairSD (cntSD m true) (cntSD l true)).names.length = (m + 2) * (l + 2) := by
            rw [← ln, ← ln2]
            exact pairNames_len _ _
          refine q_if st sC.s (et_testV (ev_opV (ev_opV (ev_var rfl) (ev_var rfl) (v_mul st (.inl ⟨by omega, by omega⟩))) ev_c (v_gt st))) (fun HD pD kD hD => absurd (of_decide_eq_true pD.symm) (by rw [en]; omega)) (fun HD pD kD hD => q_end ?_)
          refine q_retV st hD (ev_andT st (ev_eq rfl (ev_opV (ev_var rfl) ev_c (v_notN st))) (ev_callV (R := IsV (.bl true)) st (ea_consV (ev_sF st sd' (ev_var rfl)).1 (ea_consV (ev_opV (ev_var rfl) (ev_var rfl) (v_mul st (.inl ⟨by omega, by omega⟩))) ea_nilV)) fun G' s' => ?_)) fun HE kE hE => q _
          rw [lh, en]
          exact like_int (by decide)
        · refine q_set hA (ev_call (RA := RCons (IsV (.int 0)) (RCons (IsScP K Cs fun d => d = cntSD m true) (RCons (IsScP K Cs fun d => d = cntSD l true) RNil))) (R := IsV .non) st (ea_cons ev_c (ea_cons (mkc rfl (by omega) (ev_var rfl)) (ea_cons (mkc rfl (by omega) (ev_var rfl)) ea_nil))) fun vs G' s' e => ?_) fun vC GC HC sC rC => ?_
          · obtain ⟨_, _, rfl, a1, _, _, rfl, ⟨d, ⟨x, rfl, sd⟩, rfl⟩, _, _, rfl, ⟨d2, ⟨x2, rfl, sd2⟩, rfl⟩, e⟩ := e
            obtain rfl := (show _ = _ from a1)
            obtain rfl := (show _ = [] from e)
            exact ⟨x, _, sd, tr.ok, .inl ⟨x2, _, rfl, sd2, tr2.ok, .inr ⟨.inl (by rw [ln, ln2]; omega), rfl⟩⟩⟩
          obtain rfl := (show _ = _ from rC)
          refine q_if st sC.s (et_testV (ev_opV (ev_opV (ev_var rfl) (ev_var rfl) (v_mul st (.inl ⟨by omega, by omega⟩))) ev_c (v_gt st))) (fun HD pD kD hD => ?_) (fun HD pD kD hD => absurd (of_decide_eq_false pD.symm) (by rw [en]; omega))
          exact q_retV st hD (ev_eq rfl (ev_opV (ev_var rfl) ev_c (v_isN st))) fun HE kE hE => q _
    · refine q_setI st h7 (ev_2I (P1 := fun z => 1 ≤ z ∧ z ≤ 32) (P2 := fun z => 0 ≤ z ∧ z < 2) (P3 := fun z => 0 ≤ z ∧ z ≤ 64) (ev_IP (ev_opV ev_c (ev_var rfl) (v_div (i := 64) st ⟨by omega, by omega⟩)) ?_) (ev_pick (ea_consV (ev_var rfl) (ea_consV ev_c ea_nilV)) (by decide) (by decide)) (fun i j G' => v_add st) fun i j h1 h2 => by omega) fun z H8 hz k8 h8 => q_end (hu _ _ ⟨z, _, rfl, hz, st.wk h8 (by omega)⟩)
      have e2 : 1 ≤ 64 / a := (Int.le_ediv_iff_mul_le (by omega)).mpr (by omega)
      have e3 : 64 / a ≤ 32 := Int.ediv_le_of_le_mul (by omega) (by omega)
      exact ⟨e2, e3⟩
    · exact q_end (hu _ _ ⟨b0, _, rfl, by omega, st.wk h7 (by omega)⟩)
end
end L2.DS
namespace L2.DS
open PySem PySem.Spec PyProof.Rows
theorem bind_Scale {K : PySem.W.Frag} {f : Addr} {fd : FuncData} (F : FunD K "__init__" "Scale.__init__" (defArgs s_Scale___init__) (defBody s_Scale___init__) (defScope s_Scale___init__) [.int 1] [] f fd) : ∃ ds, Vals [.int 1] ds ∧ Binds K fd ["self", "label", "names", "never_at", "still_at", "depth"] ds :=
  F.binds1 5 0 (by decide) rfl fun T kV doc pm an cdv ct us its h1 h2 => match us, its, h1, h2 with
    | [_, _, _, _, _], [_], _, _ => ⟨_, rfl, rfl⟩
theorem bind_Scale6 {K : PySem.W.Frag} {f : Addr} {fd : FuncData} (F : FunD K "__init__" "Scale.__init__" (defArgs s_Scale___init__) (defBody s_Scale___init__) (defScope s_Scale___init__) [.int 1] [] f fd) : ∃ ds, Vals [] ds ∧ Binds K fd ["self", "label", "names", "never_at", "still_at", "depth"] ds :=
  F.binds1 6 1 (by decide) rfl fun T kV doc pm an cdv ct us its h1 h2 => match us, its, h1, h2 with
    | [_, _, _, _, _, _], [_], _, _ => ⟨_, rfl, rfl⟩
theorem FunSD.kbindsN {prog : Program} {K : PySem.W.Frag} {x qual : Str} {st : Stmt} {kws : List (Str × V)} {f D : Addr} {fd : FuncData} {ps : List Str} (F : FunSD prog K x qual st [] kws f fd D) (n : Nat) (ks : List Str)
    (h : ∀ (cc : Addr) (kV doc pm : Value) (an : Option Addr) (cdv ct : Value) (us ws : List Value), us.length = n → ws.length = ks.length → bindArgs (PySem.W.fnX x qual (defArgs st) (defBody st) (defScope st) [("__class__", cc)] .none kV doc pm an cdv ct) ⟨us, ks.zip ws⟩ = pure (ps.zip (us ++ ws))) :
    KBn K fd ps n ks (fun us ws => us ++ ws) (fun vs zs => vs ++ zs) := by
  obtain ⟨oc, od, dV, kV, doc, pm, an, cda, ct, osl, cc, ol, vs, file, tf, ccl, ccd, csl, rfl, h2, h3, h4, h5, h6, h7, h8, hD, hK⟩ := F.ex
  rcases hD with ⟨_, rfl⟩ | ⟨e, _⟩
  · exact ⟨fun s us ws X l1 l2 => .of_eq (h cc kV doc pm an (.ref cda) ct us ws l1 l2), fun r1 r2 => r1.append r2⟩
  · exact absurd rfl e
theorem bind_Wn {P : Program} {K : PySem.W.Frag} {f D : Addr} {fd : FuncData} (F : FunSD P K "__init__" "WithNever.__init__" s_WithNever___init__ [] [] f fd D) : Binds K fd ["self", "label", "contents", "words"] [] :=
  F.bindsN fun cc kV doc pm an cdv ct us h => match us, h with
    | [_, _, _, _], _ => rfl
theorem bindK_Tb {P : Program} {K : PySem.W.Frag} {f D : Addr} {fd : FuncData} (F : FunSD P K "__init__" "TableScale.__init__" s_TableScale___init__ [] [] f fd D) : KBn K fd ["self", "names", "joins", "products", "never", "still"] 4 ["never", "still"] (fun us ws => us ++ ws) (fun vs zs => vs ++ zs) :=
  F.kbindsN 4 ["never", "still"] fun cc kV doc pm an cdv ct us ws h1 h2 => match us, ws, h1, h2 with
    | [_, _, _, _], [_, _], _, _ => rfl
theorem bind_Pr {P : Program} {K : PySem.W.Frag} {f D : Addr} {fd : FuncData} (F : FunSD P K "__init__" "PairScale.__init__" s_PairScale___init__ [] [] f fd D) : Binds K fd ["self", "left", "right"] [] :=
  F.bindsN fun cc kV doc pm an cdv ct us h => match us, h with
    | [_, _, _], _ => rfl
theorem bind_Tu {P : Program} {K : PySem.W.Frag} {f D : Addr} {fd : FuncData} (F : FunSD P K "__init__" "TurnedScale.__init__" s_TurnedScale___init__ [] [] f fd D) : Binds K fd ["self", "inner"] [] :=
  F.bindsN fun cc kV doc pm an cdv ct us h => match us, h with
    | [_, _], _ => rfl
theorem bind_Cs {P : Program} {K : PySem.W.Frag} {f D : Addr} {fd : FuncData} (F : FunSD P K "__init__" "CountScale.__init__" s_CountScale___init__ [] [("order", .str "up")] f fd D) : ∃ ds, Vals [.str ("up" : Str)] ds ∧ Binds K fd ["self", "most", "order"] ds :=
  F.binds0 2 (by decide) rfl fun cc D doc pm an cdv ct us ks h1 h2 => match us, ks, h1, h2 with
    | [_, _], [_], _, _ => ⟨_, _, _, _, _, _, rfl, rfl, rfl⟩
theorem bindK_Cs {P : Program} {K : PySem.W.Frag} {f D : Addr} {fd : FuncData} (F : FunSD P K "__init__" "CountScale.__init__" s_CountScale___init__ [] [("order", .str "up")] f fd D) : ∃ g : List Value → List Value → List Value, KBn K fd ["self", "most", "order"] 2 ["order"] g (fun vs zs => vs ++ zs) := by
  obtain ⟨mv, h⟩ := F.kbinds0 (ps := ["self", "most", "order"]) 2 ["order"] [] (fun us _ ws => us ++ ws) (by decide) (fun q h => by cases h) (fun r1 _ r3 => r1.append r3) fun cc D doc pm an cdv ct us mv ws h1 h2 h3 => match us, mv, ws, h1, h2, h3 with
    | [_, _], [], [_], _, _, _ => rfl
  exact ⟨_, h⟩
theorem bind_Sp {P : Program} {K : PySem.W.Frag} {f D : Addr} {fd : FuncData} (F : FunSD P K "__init__" "SpanScale.__init__" s_SpanScale___init__ [] [] f fd D) : Binds K fd ["self", "most"] [] :=
  F.bindsN fun cc kV doc pm an cdv ct us h => match us, h with
    | [_, _], _ => rfl
theorem bind_Wt {P : Program} {K : PySem.W.Frag} {f D : Addr} {fd : FuncData} (F : FunSD P K "__init__" "WatchScale.__init__" s_WatchScale___init__ [] [] f fd D) : Binds K fd ["self", "states"] [] :=
  F.bindsN fun cc kV doc pm an cdv ct us h => match us, h with
    | [_, _], _ => rfl
theorem bind_St {P : Program} {K : PySem.W.Frag} {f D : Addr} {fd : FuncData} (F : FunSD P K "__init__" "SetScale.__init__" s_SetScale___init__ [] [("join", .str "may")] f fd D) : ∃ ds, Vals [.str ("may" : Str)] ds ∧ Binds K fd ["self", "count", "join"] ds :=
  F.binds0 2 (by decide) rfl fun cc D doc pm an cdv ct us ks h1 h2 => match us, ks, h1, h2 with
    | [_, _], [_], _, _ => ⟨_, _, _, _, _, _, rfl, rfl, rfl⟩
theorem bindK_St {P : Program} {K : PySem.W.Frag} {f D : Addr} {fd : FuncData} (F : FunSD P K "__init__" "SetScale.__init__" s_SetScale___init__ [] [("join", .str "may")] f fd D) : ∃ g : List Value → List Value → List Value, KBn K fd ["self", "count", "join"] 2 ["join"] g (fun vs zs => vs ++ zs) := by
  obtain ⟨mv, h⟩ := F.kbinds0 (ps := ["self", "count", "join"]) 2 ["join"] [] (fun us _ ws => us ++ ws) (by decide) (fun q h => by cases h) (fun r1 _ r3 => r1.append r3) fun cc D doc pm an cdv ct us mv ws h1 h2 h3 => match us, mv, ws, h1, h2, h3 with
    | [_, _], [], [_], _, _, _ => rfl
  exact ⟨_, h⟩
theorem bind_Hp {P : Program} {K : PySem.W.Frag} {f D : Addr} {fd : FuncData} (F : FunSD P K "__init__" "HeapScale.__init__" s_HeapScale___init__ [] [] f fd D) : Binds K fd ["self", "inner"] [] :=
  F.bindsN fun cc kV doc pm an cdv ct us h => match us, h with
    | [_, _], _ => rfl
end L2.DS
/-! What the looks say: defs with a closure over their class, own errors. -/
namespace L2.DS
open PySem PySem.Spec PyProof.Rows
section
variable {P : Program} {K : Fg} {f D C : Addr} {x qual file z nm : Str} {st : Stmt}
theorem ckFile_ok {vs : Array Value} (h : ckFile file vs = true) : ∃ fi tf, vs[2]? = some (.str fi tf) ∧ (file == fi) = true := by
  unfold ckFile at h
  split at h
  · rename_i fi tf e
    exact ⟨fi, tf, e, h⟩
  · cases h
theorem ckFlds_ok {o : Option Obj} (h : ckFlds file o = true) : ∃ c1 oc1 vs sl1, o = some ⟨c1, oc1, .fields vs, sl1⟩ ∧ ∃ fi tf, vs[2]? = some (.str fi tf) ∧ (file == fi) = true := by
  unfold ckFlds at h
  split at h
  · rename_i c1 oc1 vs sl1
    exact ⟨c1, oc1, vs, sl1, rfl, ckFile_ok h⟩
  · cases h
theorem ckCode_ok {v : Value} (h : ckCode file K qual v = true) : ∃ cda, v = .ref cda ∧ PySem.W.codeIn K (.ref cda) qual = true ∧ ckFlds file (K.lookup cda) = true := by
  unfold ckCode at h
  split at h
  · rename_i cda
    exact ⟨cda, rfl, and2 h⟩
  · cases h
theorem ckCell_ok {o : Option Obj} (h : ckCell D o = true) : ∃ c2 oc2 sl2, o = some ⟨c2, oc2, .cell (some (.ref D)), sl2⟩ := by
  unfold ckCell at h
  split at h
  · rename_i c2 oc2 D' sl2
    rw [of_decide_eq_true h]
    exact ⟨c2, oc2, sl2, rfl⟩
  · cases h
theorem ckClo_ok {l : List (Str × Addr)} (h : ckClo K D l = true) : ∃ cc, l = [(("__class__" : Str), cc)] ∧ ckCell D (K.lookup cc) = true := by
  unfold ckClo at h
  split at h
  · rename_i y cc
    obtain ⟨a, b⟩ := and2 h
    rw [of_decide_eq_true a]
    exact ⟨cc, rfl, b⟩
  · cases h
/-- all that stands behind a def that says super() -/
theorem sup_of (e : fnU K f = some (x, qual, defArgs st, .stmts (defBody st), defScope st, mainGlobals, builtinsNs)) (c : ckSup file K f D qual = true) :
    ∃ (oc : Value) (od : Option Addr) (kV doc pm : Value) (an : Option Addr) (cda : Addr) (ct : Value) (osl : Array (Option Value)) (cc : Addr) (c1 : Value) (oc1 : Option Addr) (vs : Array Value) (sl1 : Array (Option Value)) (fi : Str) (tf : Tok) (c2 : Value) (oc2 : Option Addr) (sl2 : Array (Option Value)),
    K.lookup f = some ⟨oc, od, .func (PySem.W.fnX x qual (defArgs st) (defBody st) (defScope st) [("__class__", cc)] .none kV doc pm an (.ref cda) ct), osl⟩ ∧ PySem.W.codeIn K (.ref cda) qual = true ∧ K.lookup cda = some ⟨c1, oc1, .fields vs, sl1⟩ ∧ vs[2]? = some (.str fi tf) ∧ (file == fi) = true ∧
    K.lookup cc = some ⟨c2, oc2, .cell (some (.ref D)), sl2⟩ ∧ PySem.W.keepIn K (.ref f) = true ∧ PySem.W.fnIn K f = true ∧ PySem.W.typeIn K (.ref f) = some (.type "function") ∧ (fdA K f).kwdefaults = kV := by
  obtain ⟨oc, od, osl, cl, dV, kV, doc, pm, an, cdv, ct, l⟩ := fnU_ok e
  obtain ⟨k, c⟩ := and2 c
  obtain ⟨k1, c⟩ := and2 c
  obtain ⟨k2, c⟩ := and2 c
  have kw : (fdA K f).kwdefaults = kV := by
    unfold fdA
    rw [l]
  rw [l] at c
  obtain ⟨a1, c⟩ := and2 c
  obtain ⟨a2, a3⟩ := and2 c
  obtain rfl := isNon_ok a1
  obtain ⟨cc, rfl, b1⟩ := ckClo_ok a2
  obtain ⟨cda, rfl, b2, b3⟩ := ckCode_ok a3
  obtain ⟨c1, oc1, vs, sl1, d1, fi, tf, d2, d3⟩ := ckFlds_ok b3
  obtain ⟨c2, oc2, sl2, e1⟩ := ckCell_ok b1
  exact ⟨oc, od, kV, doc, pm, an, cda, ct, osl, cc, c1, oc1, vs, sl1, fi, tf, c2, oc2, sl2, l, b2, d1, d2, d3, e1, k, k1, of_decide_eq_true k2, kw⟩
/-- a plain def, piece by piece -/
theorem fnl_of (e : fnU K f = some (x, qual, defArgs st, .stmts (defBody st), defScope st, mainGlobals, builtinsNs)) (c : ckFn K f qual = true) : ∃ oc od kV doc pm an cdv ct osl, K.lookup f = some ⟨oc, od, .func (PySem.W.fnOf x qual (defArgs st) (defBody st) (defScope st) .none kV doc pm an cdv ct), osl⟩ ∧ PySem.W.codeIn K cdv qual = true ∧ PySem.W.keepIn K (.ref f) = true := by
  obtain ⟨fd, F⟩ := fun_of e c
  obtain ⟨oc, od, kV, doc, pm, an, cdv, ct, osl, rfl, l, c2⟩ := F.ex
  exact ⟨oc, od, kV, doc, pm, an, cdv, ct, osl, l, c2, F.kp⟩
theorem fnlI_of {i : Int} (e : fnU K f = some (x, qual, defArgs st, .stmts (defBody st), defScope st, mainGlobals, builtinsNs)) (c : ckFnI K f qual i = true) : ∃ T oc od kV doc pm an cdv ct osl cT dT tT n slT, K.lookup f = some ⟨oc, od, .func (PySem.W.fnOf x qual (defArgs st) (defBody st) (defScope st) (.ref T) kV doc pm an cdv ct), osl⟩ ∧ PySem.W.codeIn K cdv qual = true ∧ PySem.W.keepIn K (.ref f) = true ∧
    K.lookup T = some ⟨cT, dT, .seq [Value.int i tT].toArray n, slT⟩ := by
  obtain ⟨fd, F⟩ := funI_of e c
  obtain ⟨oc, od, dV, kV, doc, pm, an, cdv, ct, osl, rfl, l, c2, hD, _⟩ := F.ex
  rcases hD with ⟨a1, a2⟩ | ⟨_, T, o, its, n, rfl, lT, hd, r⟩
  · first | exact absurd a2 (by simp) | exact absurd a1 (by simp)
  · obtain ⟨cT, dT, dt, slT⟩ := o
    dsimp only at hd
    subst hd
    match its, r with
    | [u], r =>
      obtain ⟨t, rfl⟩ : ∃ t, u = Value.int i t := by
        cases r with
        | cons a _ => exact a
      exact ⟨T, oc, od, kV, doc, pm, an, cdv, ct, osl, cT, dT, t, n, slT, l, c2, F.kp, lT⟩
theorem ckKw_ok (h : ckKw K f nm z = true) : ∃ D t, (fdA K f).kwdefaults = .ref D ∧ PySem.W.nsIn K D nm = some (some (.str z t)) := by
  unfold ckKw at h
  split at h
  · rename_i D' e
    split at h
    · rename_i y t e2
      obtain rfl := of_decide_eq_true h
      exact ⟨D', t, e, e2⟩
    · cases h
  · cases h
theorem ckCls_ok2 (h : ckCls K D = true) : ∃ a b cd d, K.lookup D = some ⟨a, b, .cls cd, d⟩ := by
  unfold ckCls at h
  split at h
  · rename_i a b cd d e
    exact ⟨a, b, cd, d, e⟩
  · cases h
theorem nsInt_of {i : Int} (h : ckInt K x i = true) : ∃ t, PySem.W.nsIn K mainGlobals x = some (some (.int i t)) := by
  unfold ckInt at h
  split at h
  · rename_i j t e
    obtain rfl := of_decide_eq_true h
    exact ⟨t, e⟩
  · cases h
theorem nsStr_of (h : ckStr K x z = true) : ∃ t, PySem.W.nsIn K mainGlobals x = some (some (.str z t)) := by
  unfold ckStr at h
  split at h
  · rename_i j t e
    obtain rfl := of_decide_eq_true h
    exact ⟨t, e⟩
  · cases h
end
end L2.DS
namespace L2.DS
open PySem PySem.Spec PyProof.Rows
theorem all_mk {l : PySem.W.OpenLaw} {w : World} {K : PySem.W.Frag} {h : Heap} {mg : Str → Option Value} {fa : Addr} {CS : Addr} {CW : Addr} {CT : Addr} {CP : Addr} {CR : Addr} {CC : Addr} {CA : Addr} {CV : Addr} {CE : Addr} {CH : Addr} {f_Scale___init__ T_Scale___init__ : Addr} {od_Scale___init__ an_Scale___init__ : Option Addr} {sl_Scale___init__ : Array (Option Value)} {oc_Scale___init__ kV_Scale___init__ dc_Scale___init__ pm_Scale___init__ cd_Scale___init__ ct_Scale___init__ : Value} {cT : Value} {dT : Option Addr} {slT : Array (Option Value)} {tT : Tok} {nT : Nat} {tM : Tok} {f_cut_down : Addr} {od_cut_down an_cut_down : Option Addr} {sl_cut_down : Array (Option Value)} {oc_cut_down kV_cut_down dc_cut_down pm_cut_down cd_cut_down ct_cut_down : Value} {f_number_name : Addr} {od_number_name an_number_name : Option Addr} {sl_number_name : Array (Option Value)} {oc_number_name kV_number_name dc_number_name pm_number_name cd_number_name ct_number_name : Value} {f_digits_of : Addr} {od_digits_of an_digits_of : Option Addr} {sl_digits_of : Array (Option Value)} {oc_digits_of kV_digits_of dc_digits_of pm_digits_of cd_digits_of ct_digits_of : Value} {tS : Tok} {f_is_table_name : Addr} {od_is_table_name an_is_table_name : Option Addr} {sl_is_table_name : Array (Option Value)} {oc_is_table_name kV_is_table_name dc_is_table_name pm_is_table_name cd_is_table_name ct_is_table_name : Value} {f_table_places : Addr} {od_table_places an_table_places : Option Addr} {sl_table_places : Array (Option Value)} {oc_table_places kV_table_places dc_table_places pm_table_places cd_table_places ct_table_places : Value} {tD : Tok} {f_depth_above : Addr} {od_depth_above an_depth_above : Option Addr} {sl_depth_above : Array (Option Value)} {oc_depth_above kV_depth_above dc_depth_above pm_depth_above cd_depth_above ct_depth_above : Value} {f_half_places : Addr} {od_half_places an_half_places : Option Addr} {sl_half_places : Array (Option Value)} {oc_half_places kV_half_places dc_half_places pm_half_places cd_half_places ct_half_places : Value} {f_Scale_then_at : Addr} {od_Scale_then_at an_Scale_then_at : Option Addr} {sl_Scale_then_at : Array (Option Value)} {oc_Scale_then_at kV_Scale_then_at dc_Scale_then_at pm_Scale_then_at cd_Scale_then_at ct_Scale_then_at : Value} {f_Scale_join_at : Addr} {od_Scale_join_at an_Scale_join_at : Option Addr} {sl_Scale_join_at : Array (Option Value)} {oc_Scale_join_at kV_Scale_join_at dc_Scale_join_at pm_Scale_join_at cd_Scale_join_at ct_Scale_join_at : Value} {f_Scale_name_at : Addr} {od_Scale_name_at an_Scale_name_at : Option Addr} {sl_Scale_name_at : Array (Option Value)} {oc_Scale_name_at kV_Scale_name_at dc_Scale_name_at pm_Scale_name_at cd_Scale_name_at ct_Scale_name_at : Value} {f_TableScale_make_then : Addr} {od_TableScale_make_then an_TableScale_make_then : Option Addr} {sl_TableScale_make_then : Array (Option Value)} {oc_TableScale_make_then kV_TableScale_make_then dc_TableScale_make_then pm_TableScale_make_then cd_TableScale_make_then ct_TableScale_make_then : Value} {f_TableScale_make_join : Addr} {od_TableScale_make_join an_TableScale_make_join : Option Addr} {sl_TableScale_make_join : Array (Option Value)} {oc_TableScale_make_join kV_TableScale_make_join dc_TableScale_make_join pm_TableScale_make_join cd_TableScale_make_join ct_TableScale_make_join : Value} {f_PairScale_make_then : Addr} {od_PairScale_make_then an_PairScale_make_then : Option Addr} {sl_PairScale_make_then : Array (Option Value)} {oc_PairScale_make_then kV_PairScale_make_then dc_PairScale_make_then pm_PairScale_make_then cd_PairScale_make_then ct_PairScale_make_then : Value} {f_PairScale_make_join : Addr} {od_PairScale_make_join an_PairScale_make_join : Option Addr} {sl_PairScale_make_join : Array (Option Value)} {oc_PairScale_make_join kV_PairScale_make_join dc_PairScale_make_join pm_PairScale_make_join cd_PairScale_make_join ct_PairScale_make_join : Value} {f_TurnedScale_make_then : Addr} {od_TurnedScale_make_then an_TurnedScale_make_then : Option Addr} {sl_TurnedScale_make_then : Array (Option Value)} {oc_TurnedScale_make_then kV_TurnedScale_make_then dc_TurnedScale_make_then pm_TurnedScale_make_then cd_TurnedScale_make_then ct_TurnedScale_make_then : Value} {f_TurnedScale_make_join : Addr} {od_TurnedScale_make_join an_TurnedScale_make_join : Option Addr} {sl_TurnedScale_make_join : Array (Option Value)} {oc_TurnedScale_make_join kV_TurnedScale_make_join dc_TurnedScale_make_join pm_TurnedScale_make_join cd_TurnedScale_make_join ct_TurnedScale_make_join : Value} {f_CountScale_behind : Addr} {od_CountScale_behind an_CountScale_behind : Option Addr} {sl_CountScale_behind : Array (Option Value)} {oc_CountScale_behind kV_CountScale_behind dc_CountScale_behind pm_CountScale_behind cd_CountScale_behind ct_CountScale_behind : Value} {f_CountScale_either : Addr} {od_CountScale_either an_CountScale_either : Option Addr} {sl_CountScale_either : Array (Option Value)} {oc_CountScale_either kV_CountScale_either dc_CountScale_either pm_CountScale_either cd_CountScale_either ct_CountScale_either : Value} {f_WithNever_make_then : Addr} {od_WithNever_make_then an_WithNever_make_then : Option Addr} {sl_WithNever_make_then : Array (Option Value)} {oc_WithNever_make_then kV_WithNever_make_then dc_WithNever_make_then pm_WithNever_make_then cd_WithNever_make_then ct_WithNever_make_then : Value} {f_WithNever_make_join : Addr} {od_WithNever_make_join an_WithNever_make_join : Option Addr} {sl_WithNever_make_join : Array (Option Value)} {oc_WithNever_make_join kV_WithNever_make_join dc_WithNever_make_join pm_WithNever_make_join cd_WithNever_make_join ct_WithNever_make_join : Value} {f_SpanScale_behind : Addr} {od_SpanScale_behind an_SpanScale_behind : Option Addr} {sl_SpanScale_behind : Array (Option Value)} {oc_SpanScale_behind kV_SpanScale_behind dc_SpanScale_behind pm_SpanScale_behind cd_SpanScale_behind ct_SpanScale_behind : Value} {f_SpanScale_either : Addr} {od_SpanScale_either an_SpanScale_either : Option Addr} {sl_SpanScale_either : Array (Option Value)} {oc_SpanScale_either kV_SpanScale_either dc_SpanScale_either pm_SpanScale_either cd_SpanScale_either ct_SpanScale_either : Value} {f_WatchScale_arrows : Addr} {od_WatchScale_arrows an_WatchScale_arrows : Option Addr} {sl_WatchScale_arrows : Array (Option Value)} {oc_WatchScale_arrows kV_WatchScale_arrows dc_WatchScale_arrows pm_WatchScale_arrows cd_WatchScale_arrows ct_WatchScale_arrows : Value} {f_WatchScale_make_then : Addr} {od_WatchScale_make_then an_WatchScale_make_then : Option Addr} {sl_WatchScale_make_then : Array (Option Value)} {oc_WatchScale_make_then kV_WatchScale_make_then dc_WatchScale_make_then pm_WatchScale_make_then cd_WatchScale_make_then ct_WatchScale_make_then : Value} {f_WatchScale_make_join : Addr} {od_WatchScale_make_join an_WatchScale_make_join : Option Addr} {sl_WatchScale_make_join : Array (Option Value)} {oc_WatchScale_make_join kV_WatchScale_make_join dc_WatchScale_make_join pm_WatchScale_make_join cd_WatchScale_make_join ct_WatchScale_make_join : Value} {f_SetScale_behind : Addr} {od_SetScale_behind an_SetScale_behind : Option Addr} {sl_SetScale_behind : Array (Option Value)} {oc_SetScale_behind kV_SetScale_behind dc_SetScale_behind pm_SetScale_behind cd_SetScale_behind ct_SetScale_behind : Value} {f_SetScale_either : Addr} {od_SetScale_either an_SetScale_either : Option Addr} {sl_SetScale_either : Array (Option Value)} {oc_SetScale_either kV_SetScale_either dc_SetScale_either pm_SetScale_either cd_SetScale_either ct_SetScale_either : Value} {f_HeapScale_make_then : Addr} {od_HeapScale_make_then an_HeapScale_make_then : Option Addr} {sl_HeapScale_make_then : Array (Option Value)} {oc_HeapScale_make_then kV_HeapScale_make_then dc_HeapScale_make_then pm_HeapScale_make_then cd_HeapScale_make_then ct_HeapScale_make_then : Value} {f_HeapScale_make_join : Addr} {od_HeapScale_make_join an_HeapScale_make_join : Option Addr} {sl_HeapScale_make_join : Array (Option Value)} {oc_HeapScale_make_join kV_HeapScale_make_join dc_HeapScale_make_join pm_HeapScale_make_join cd_HeapScale_make_join ct_HeapScale_make_join : Value} {f_WithNever___init__ cda_WithNever___init__ cc_WithNever___init__ : Addr} {od_WithNever___init__ an_WithNever___init__ : Option Addr} {sl_WithNever___init__ : Array (Option Value)} {oc_WithNever___init__ kV_WithNever___init__ dc_WithNever___init__ pm_WithNever___init__ ct_WithNever___init__ : Value} {q1_WithNever___init__ q2_WithNever___init__ q3_WithNever___init__ : Value} {e1_WithNever___init__ e2_WithNever___init__ e3_WithNever___init__ : Option Addr} {g1_WithNever___init__ g2_WithNever___init__ g3_WithNever___init__ : Array (Option Value)} {vs_WithNever___init__ : Array Value} {fi_WithNever___init__ : Str} {tf_WithNever___init__ : Tok} {cl_WithNever___init__ : ClassData} {f_TableScale___init__ cda_TableScale___init__ cc_TableScale___init__ : Addr} {od_TableScale___init__ an_TableScale___init__ : Option Addr} {sl_TableScale___init__ : Array (Option Value)} {oc_TableScale___init__ kV_TableScale___init__ dc_TableScale___init__ pm_TableScale___init__ ct_TableScale___init__ : Value} {q1_TableScale___init__ q2_TableScale___init__ q3_TableScale___init__ : Value} {e1_TableScale___init__ e2_TableScale___init__ e3_TableScale___init__ : Option Addr} {g1_TableScale___init__ g2_TableScale___init__ g3_TableScale___init__ : Array (Option Value)} {vs_TableScale___init__ : Array Value} {fi_TableScale___init__ : Str} {tf_TableScale___init__ : Tok} {cl_TableScale___init__ : ClassData} {f_PairScale___init__ cda_PairScale___init__ cc_PairScale___init__ : Addr} {od_PairScale___init__ an_PairScale___init__ : Option Addr} {sl_PairScale___init__ : Array (Option Value)} {oc_PairScale___init__ kV_PairScale___init__ dc_PairScale___init__ pm_PairScale___init__ ct_PairScale___init__ : Value} {q1_PairScale___init__ q2_PairScale___init__ q3_PairScale___init__ : Value} {e1_PairScale___init__ e2_PairScale___init__ e3_PairScale___init__ : Option Addr} {g1_PairScale___init__ g2_PairScale___init__ g3_PairScale___init__ : Array (Option Value)} {vs_PairScale___init__ : Array Value} {fi_PairScale___init__ : Str} {tf_PairScale___init__ : Tok} {cl_PairScale___init__ : ClassData} {f_TurnedScale___init__ cda_TurnedScale___init__ cc_TurnedScale___init__ : Addr} {od_TurnedScale___init__ an_TurnedScale___init__ : Option Addr} {sl_TurnedScale___init__ : Array (Option Value)} {oc_TurnedScale___init__ kV_TurnedScale___init__ dc_TurnedScale___init__ pm_TurnedScale___init__ ct_TurnedScale___init__ : Value} {q1_TurnedScale___init__ q2_TurnedScale___init__ q3_TurnedScale___init__ : Value} {e1_TurnedScale___init__ e2_TurnedScale___init__ e3_TurnedScale___init__ : Option Addr} {g1_TurnedScale___init__ g2_TurnedScale___init__ g3_TurnedScale___init__ : Array (Option Value)} {vs_TurnedScale___init__ : Array Value} {fi_TurnedScale___init__ : Str} {tf_TurnedScale___init__ : Tok} {cl_TurnedScale___init__ : ClassData} {kd_CountScale___init__ : Addr} {tk_CountScale___init__ : Tok} {f_CountScale___init__ cda_CountScale___init__ cc_CountScale___init__ : Addr} {od_CountScale___init__ an_CountScale___init__ : Option Addr} {sl_CountScale___init__ : Array (Option Value)} {oc_CountScale___init__ dc_CountScale___init__ pm_CountScale___init__ ct_CountScale___init__ : Value} {q1_CountScale___init__ q2_CountScale___init__ q3_CountScale___init__ : Value} {e1_CountScale___init__ e2_CountScale___init__ e3_CountScale___init__ : Option Addr} {g1_CountScale___init__ g2_CountScale___init__ g3_CountScale___init__ : Array (Option Value)} {vs_CountScale___init__ : Array Value} {fi_CountScale___init__ : Str} {tf_CountScale___init__ : Tok} {cl_CountScale___init__ : ClassData} {f_SpanScale___init__ cda_SpanScale___init__ cc_SpanScale___init__ : Addr} {od_SpanScale___init__ an_SpanScale___init__ : Option Addr} {sl_SpanScale___init__ : Array (Option Value)} {oc_SpanScale___init__ kV_SpanScale___init__ dc_SpanScale___init__ pm_SpanScale___init__ ct_SpanScale___init__ : Value} {q1_SpanScale___init__ q2_SpanScale___init__ q3_SpanScale___init__ : Value} {e1_SpanScale___init__ e2_SpanScale___init__ e3_SpanScale___init__ : Option Addr} {g1_SpanScale___init__ g2_SpanScale___init__ g3_SpanScale___init__ : Array (Option Value)} {vs_SpanScale___init__ : Array Value} {fi_SpanScale___init__ : Str} {tf_SpanScale___init__ : Tok} {cl_SpanScale___init__ : ClassData} {f_WatchScale___init__ cda_WatchScale___init__ cc_WatchScale___init__ : Addr} {od_WatchScale___init__ an_WatchScale___init__ : Option Addr} {sl_WatchScale___init__ : Array (Option Value)} {oc_WatchScale___init__ kV_WatchScale___init__ dc_WatchScale___init__ pm_WatchScale___init__ ct_WatchScale___init__ : Value} {q1_WatchScale___init__ q2_WatchScale___init__ q3_WatchScale___init__ : Value} {e1_WatchScale___init__ e2_WatchScale___init__ e3_WatchScale___init__ : Option Addr} {g1_WatchScale___init__ g2_WatchScale___init__ g3_WatchScale___init__ : Array (Option Value)} {vs_WatchScale___init__ : Array Value} {fi_WatchScale___init__ : Str} {tf_WatchScale___init__ : Tok} {cl_WatchScale___init__ : ClassData} {kd_SetScale___init__ : Addr} {tk_SetScale___init__ : Tok} {f_SetScale___init__ cda_SetScale___init__ cc_SetScale___init__ : Addr} {od_SetScale___init__ an_SetScale___init__ : Option Addr} {sl_SetScale___init__ : Array (Option Value)} {oc_SetScale___init__ dc_SetScale___init__ pm_SetScale___init__ ct_SetScale___init__ : Value} {q1_SetScale___init__ q2_SetScale___init__ q3_SetScale___init__ : Value} {e1_SetScale___init__ e2_SetScale___init__ e3_SetScale___init__ : Option Addr} {g1_SetScale___init__ g2_SetScale___init__ g3_SetScale___init__ : Array (Option Value)} {vs_SetScale___init__ : Array Value} {fi_SetScale___init__ : Str} {tf_SetScale___init__ : Tok} {cl_SetScale___init__ : ClassData} {f_HeapScale___init__ cda_HeapScale___init__ cc_HeapScale___init__ : Addr} {od_HeapScale___init__ an_HeapScale___init__ : Option Addr} {sl_HeapScale___init__ : Array (Option Value)} {oc_HeapScale___init__ kV_HeapScale___init__ dc_HeapScale___init__ pm_HeapScale___init__ ct_HeapScale___init__ : Value} {q1_HeapScale___init__ q2_HeapScale___init__ q3_HeapScale___init__ : Value} {e1_HeapScale___init__ e2_HeapScale___init__ e3_HeapScale___init__ : Option Addr} {g1_HeapScale___init__ g2_HeapScale___init__ g3_HeapScale___init__ : Array (Option Value)} {vs_HeapScale___init__ : Array Value} {fi_HeapScale___init__ : Str} {tf_HeapScale___init__ : Tok} {cl_HeapScale___init__ : ClassData} {f__law_source : Addr} {od__law_source an__law_source : Option Addr} {sl__law_source : Array (Option Value)} {oc__law_source kV__law_source dc__law_source pm__law_source cd__law_source ct__law_source : Value} {f__law_pick : Addr} {od__law_pick an__law_pick : Option Addr} {sl__law_pick : Array (Option Value)} {oc__law_pick kV__law_pick dc__law_pick pm__law_pick cd__law_pick ct__law_pick : Value} {f__law_like : Addr} {od__law_like an__law_like : Option Addr} {sl__law_like : Array (Option Value)} {oc__law_like kV__law_like dc__law_like pm__law_like cd__law_like ct__law_like : Value} {f__law_number : Addr} {od__law_number an__law_number : Option Addr} {sl__law_number : Array (Option Value)} {oc__law_number kV__law_number dc__law_number pm__law_number cd__law_number ct__law_number : Value} {f__law_family_size : Addr} {od__law_family_size an__law_family_size : Option Addr} {sl__law_family_size : Array (Option Value)} {oc__law_family_size kV__law_family_size dc__law_family_size pm__law_family_size cd__law_family_size ct__law_family_size : Value} {f__law_family : Addr} {od__law_family an__law_family : Option Addr} {sl__law_family : Array (Option Value)} {oc__law_family kV__law_family dc__law_family pm__law_family cd__law_family ct__law_family : Value} {f__law_around : Addr} {od__law_around an__law_around : Option Addr} {sl__law_around : Array (Option Value)} {oc__law_around kV__law_around dc__law_around pm__law_around cd__law_around ct__law_around : Value} {f__law_due : Addr} {od__law_due an__law_due : Option Addr} {sl__law_due : Array (Option Value)} {oc__law_due kV__law_due dc__law_due pm__law_due cd__law_due ct__law_due : Value} {f__law_deep_right : Addr} {od__law_deep_right an__law_deep_right : Option Addr} {sl__law_deep_right : Array (Option Value)} {oc__law_deep_right kV__law_deep_right dc__law_deep_right pm__law_deep_right cd__law_deep_right ct__law_deep_right : Value} {f_law : Addr} {od_law an_law : Option Addr} {sl_law : Array (Option Value)} {oc_law kV_law dc_law pm_law cd_law ct_law : Value} {A_BadScale : Addr} {CDe : Addr} (X : K.In h) (G : h.Ns mainGlobals mg) (hfa : mg "law" = some (.ref fa))
    (z_int : PySem.W.nsIn K mainGlobals "int" = some none)
    (z_abs : PySem.W.nsIn K mainGlobals "abs" = some none)
    (z_range : PySem.W.nsIn K mainGlobals "range" = some none)
    (z_len : PySem.W.nsIn K mainGlobals "len" = some none)
    (z_isinstance : PySem.W.nsIn K mainGlobals "isinstance" = some none)
    (z_bool : PySem.W.nsIn K mainGlobals "bool" = some none)
    (z_str : PySem.W.nsIn K mainGlobals "str" = some none)
    (z_list : PySem.W.nsIn K mainGlobals "list" = some none)
    (z_tuple : PySem.W.nsIn K mainGlobals "tuple" = some none)
    (z_dict : PySem.W.nsIn K mainGlobals "dict" = some none)
    (z_enumerate : PySem.W.nsIn K mainGlobals "enumerate" = some none)
    (z_zip : PySem.W.nsIn K mainGlobals "zip" = some none)
    (z_reversed : PySem.W.nsIn K mainGlobals "reversed" = some none)
    (z_ValueError : PySem.W.nsIn K mainGlobals "ValueError" = some none)
    (z_LookupError : PySem.W.nsIn K mainGlobals "LookupError" = some none)
    (z_KeyError : PySem.W.nsIn K mainGlobals "KeyError" = some none)
    (z_Exception : PySem.W.nsIn K mainGlobals "Exception" = some none)
    (z_super : PySem.W.nsIn K mainGlobals "super" = some none)
    (z_sum : PySem.W.nsIn K mainGlobals "sum" = some none)
    (z_any : PySem.W.nsIn K mainGlobals "any" = some none)
    (z_all : PySem.W.nsIn K mainGlobals "all" = some none)
    (z_sorted : PySem.W.nsIn K mainGlobals "sorted" = some none)
    (z_max : PySem.W.nsIn K mainGlobals "max" = some none)
    (z_min : PySem.W.nsIn K mainGlobals "min" = some none)
    (z_NotImplementedError : PySem.W.nsIn K mainGlobals "NotImplementedError" = some none)
    (z_set : PySem.W.nsIn K mainGlobals "set" = some none)
    (z_repr : PySem.W.nsIn K mainGlobals "repr" = some none)
    (opq : PySem.W.nsIn K cStatics "thirdparty.any" = some none)
    (top0 : (l.prog.main.scope.names.lookup ("super" : Str)).isSome = false)
    (a_CS : PySem.W.nsIn K mainGlobals "Scale" = some (some (.ref CS)))
    (a_CW : PySem.W.nsIn K mainGlobals "WithNever" = some (some (.ref CW)))
    (a_CT : PySem.W.nsIn K mainGlobals "TableScale" = some (some (.ref CT)))
    (a_CP : PySem.W.nsIn K mainGlobals "PairScale" = some (some (.ref CP)))
    (a_CR : PySem.W.nsIn K mainGlobals "TurnedScale" = some (some (.ref CR)))
    (a_CC : PySem.W.nsIn K mainGlobals "CountScale" = some (some (.ref CC)))
    (a_CA : PySem.W.nsIn K mainGlobals "SpanScale" = some (some (.ref CA)))
    (a_CV : PySem.W.nsIn K mainGlobals "WatchScale" = some (some (.ref CV)))
    (a_CE : PySem.W.nsIn K mainGlobals "SetScale" = some (some (.ref CE)))
    (a_CH : PySem.W.nsIn K mainGlobals "HeapScale" = some (some (.ref CH)))
    (pg_CT : PySem.W.plainGet K CT Str.empty = true)
    (hd_CT : PySem.W.hasDictIn K CT = true)
    (po_CT : PySem.W.plainOver K CT = true)
    (sa_CT : PySem.W.findIn K (.ref CT) "__setattr__" = some (some (.builtin "object.__setattr__")))
    (na_CT_written_joins : PySem.W.findIn K (.ref CT) "written_joins" = some none)
    (na_CT_written_products : PySem.W.findIn K (.ref CT) "written_products" = some none)
    (na_CT_label : PySem.W.findIn K (.ref CT) "label" = some none)
    (na_CT_size : PySem.W.findIn K (.ref CT) "size" = some none)
    (na_CT_never_at : PySem.W.findIn K (.ref CT) "never_at" = some none)
    (na_CT_still_at : PySem.W.findIn K (.ref CT) "still_at" = some none)
    (na_CT_depth : PySem.W.findIn K (.ref CT) "depth" = some none)
    (na_CT_worth_names : PySem.W.findIn K (.ref CT) "worth_names" = some none)
    (na_CT_worth_places : PySem.W.findIn K (.ref CT) "worth_places" = some none)
    (na_CT_product_table : PySem.W.findIn K (.ref CT) "product_table" = some none)
    (na_CT_join_table : PySem.W.findIn K (.ref CT) "join_table" = some none)
    (pg_CP : PySem.W.plainGet K CP Str.empty = true)
    (hd_CP : PySem.W.hasDictIn K CP = true)
    (po_CP : PySem.W.plainOver K CP = true)
    (sa_CP : PySem.W.findIn K (.ref CP) "__setattr__" = some (some (.builtin "object.__setattr__")))
    (na_CP_left : PySem.W.findIn K (.ref CP) "left" = some none)
    (na_CP_right : PySem.W.findIn K (.ref CP) "right" = some none)
    (na_CP_label : PySem.W.findIn K (.ref CP) "label" = some none)
    (na_CP_size : PySem.W.findIn K (.ref CP) "size" = some none)
    (na_CP_never_at : PySem.W.findIn K (.ref CP) "never_at" = some none)
    (na_CP_still_at : PySem.W.findIn K (.ref CP) "still_at" = some none)
    (na_CP_depth : PySem.W.findIn K (.ref CP) "depth" = some none)
    (na_CP_worth_names : PySem.W.findIn K (.ref CP) "worth_names" = some none)
    (na_CP_worth_places : PySem.W.findIn K (.ref CP) "worth_places" = some none)
    (na_CP_product_table : PySem.W.findIn K (.ref CP) "product_table" = some none)
    (na_CP_join_table : PySem.W.findIn K (.ref CP) "join_table" = some none)
    (pg_CR : PySem.W.plainGet K CR Str.empty = true)
    (hd_CR : PySem.W.hasDictIn K CR = true)
    (po_CR : PySem.W.plainOver K CR = true)
    (sa_CR : PySem.W.findIn K (.ref CR) "__setattr__" = some (some (.builtin "object.__setattr__")))
    (na_CR_inner : PySem.W.findIn K (.ref CR) "inner" = some none)
    (na_CR_label : PySem.W.findIn K (.ref CR) "label" = some none)
    (na_CR_size : PySem.W.findIn K (.ref CR) "size" = some none)
    (na_CR_never_at : PySem.W.findIn K (.ref CR) "never_at" = some none)
    (na_CR_still_at : PySem.W.findIn K (.ref CR) "still_at" = some none)
    (na_CR_depth : PySem.W.findIn K (.ref CR) "depth" = some none)
    (na_CR_worth_names : PySem.W.findIn K (.ref CR) "worth_names" = some none)
    (na_CR_worth_places : PySem.W.findIn K (.ref CR) "worth_places" = some none)
    (na_CR_product_table : PySem.W.findIn K (.ref CR) "product_table" = some none)
    (na_CR_join_table : PySem.W.findIn K (.ref CR) "join_table" = some none)
    (pg_CC : PySem.W.plainGet K CC Str.empty = true)
    (hd_CC : PySem.W.hasDictIn K CC = true)
    (po_CC : PySem.W.plainOver K CC = true)
    (sa_CC : PySem.W.findIn K (.ref CC) "__setattr__" = some (some (.builtin "object.__setattr__")))
    (na_CC_most : PySem.W.findIn K (.ref CC) "most" = some none)
    (na_CC_rising : PySem.W.findIn K (.ref CC) "rising" = some none)
    (na_CC_contents : PySem.W.findIn K (.ref CC) "contents" = some none)
    (na_CC_label : PySem.W.findIn K (.ref CC) "label" = some none)
    (na_CC_size : PySem.W.findIn K (.ref CC) "size" = some none)
    (na_CC_never_at : PySem.W.findIn K (.ref CC) "never_at" = some none)
    (na_CC_still_at : PySem.W.findIn K (.ref CC) "still_at" = some none)
    (na_CC_depth : PySem.W.findIn K (.ref CC) "depth" = some none)
    (na_CC_worth_names : PySem.W.findIn K (.ref CC) "worth_names" = some none)
    (na_CC_worth_places : PySem.W.findIn K (.ref CC) "worth_places" = some none)
    (na_CC_product_table : PySem.W.findIn K (.ref CC) "product_table" = some none)
    (na_CC_join_table : PySem.W.findIn K (.ref CC) "join_table" = some none)
    (pg_CA : PySem.W.plainGet K CA Str.empty = true)
    (hd_CA : PySem.W.hasDictIn K CA = true)
    (po_CA : PySem.W.plainOver K CA = true)
    (sa_CA : PySem.W.findIn K (.ref CA) "__setattr__" = some (some (.builtin "object.__setattr__")))
    (na_CA_most : PySem.W.findIn K (.ref CA) "most" = some none)
    (na_CA_contents : PySem.W.findIn K (.ref CA) "contents" = some none)
    (na_CA_label : PySem.W.findIn K (.ref CA) "label" = some none)
    (na_CA_size : PySem.W.findIn K (.ref CA) "size" = some none)
    (na_CA_never_at : PySem.W.findIn K (.ref CA) "never_at" = some none)
    (na_CA_still_at : PySem.W.findIn K (.ref CA) "still_at" = some none)
    (na_CA_depth : PySem.W.findIn K (.ref CA) "depth" = some none)
    (na_CA_worth_names : PySem.W.findIn K (.ref CA) "worth_names" = some none)
    (na_CA_worth_places : PySem.W.findIn K (.ref CA) "worth_places" = some none)
    (na_CA_product_table : PySem.W.findIn K (.ref CA) "product_table" = some none)
    (na_CA_join_table : PySem.W.findIn K (.ref CA) "join_table" = some none)
    (pg_CV : PySem.W.plainGet K CV Str.empty = true)
    (hd_CV : PySem.W.hasDictIn K CV = true)
    (po_CV : PySem.W.plainOver K CV = true)
    (sa_CV : PySem.W.findIn K (.ref CV) "__setattr__" = some (some (.builtin "object.__setattr__")))
    (na_CV_states : PySem.W.findIn K (.ref CV) "states" = some none)
    (na_CV_label : PySem.W.findIn K (.ref CV) "label" = some none)
    (na_CV_size : PySem.W.findIn K (.ref CV) "size" = some none)
    (na_CV_never_at : PySem.W.findIn K (.ref CV) "never_at" = some none)
    (na_CV_still_at : PySem.W.findIn K (.ref CV) "still_at" = some none)
    (na_CV_depth : PySem.W.findIn K (.ref CV) "depth" = some none)
    (na_CV_worth_names : PySem.W.findIn K (.ref CV) "worth_names" = some none)
    (na_CV_worth_places : PySem.W.findIn K (.ref CV) "worth_places" = some none)
    (na_CV_product_table : PySem.W.findIn K (.ref CV) "product_table" = some none)
    (na_CV_join_table : PySem.W.findIn K (.ref CV) "join_table" = some none)
    (pg_CE : PySem.W.plainGet K CE Str.empty = true)
    (hd_CE : PySem.W.hasDictIn K CE = true)
    (po_CE : PySem.W.plainOver K CE = true)
    (sa_CE : PySem.W.findIn K (.ref CE) "__setattr__" = some (some (.builtin "object.__setattr__")))
    (na_CE_loose : PySem.W.findIn K (.ref CE) "loose" = some none)
    (na_CE_contents : PySem.W.findIn K (.ref CE) "contents" = some none)
    (na_CE_label : PySem.W.findIn K (.ref CE) "label" = some none)
    (na_CE_size : PySem.W.findIn K (.ref CE) "size" = some none)
    (na_CE_never_at : PySem.W.findIn K (.ref CE) "never_at" = some none)
    (na_CE_still_at : PySem.W.findIn K (.ref CE) "still_at" = some none)
    (na_CE_depth : PySem.W.findIn K (.ref CE) "depth" = some none)
    (na_CE_worth_names : PySem.W.findIn K (.ref CE) "worth_names" = some none)
    (na_CE_worth_places : PySem.W.findIn K (.ref CE) "worth_places" = some none)
    (na_CE_product_table : PySem.W.findIn K (.ref CE) "product_table" = some none)
    (na_CE_join_table : PySem.W.findIn K (.ref CE) "join_table" = some none)
    (pg_CH : PySem.W.plainGet K CH Str.empty = true)
    (hd_CH : PySem.W.hasDictIn K CH = true)
    (po_CH : PySem.W.plainOver K CH = true)
    (sa_CH : PySem.W.findIn K (.ref CH) "__setattr__" = some (some (.builtin "object.__setattr__")))
    (na_CH_inner : PySem.W.findIn K (.ref CH) "inner" = some none)
    (na_CH_heaps : PySem.W.findIn K (.ref CH) "heaps" = some none)
    (na_CH_label : PySem.W.findIn K (.ref CH) "label" = some none)
    (na_CH_size : PySem.W.findIn K (.ref CH) "size" = some none)
    (na_CH_never_at : PySem.W.findIn K (.ref CH) "never_at" = some none)
    (na_CH_still_at : PySem.W.findIn K (.ref CH) "still_at" = some none)
    (na_CH_depth : PySem.W.findIn K (.ref CH) "depth" = some none)
    (na_CH_worth_names : PySem.W.findIn K (.ref CH) "worth_names" = some none)
    (na_CH_worth_places : PySem.W.findIn K (.ref CH) "worth_places" = some none)
    (na_CH_product_table : PySem.W.findIn K (.ref CH) "product_table" = some none)
    (na_CH_join_table : PySem.W.findIn K (.ref CH) "join_table" = some none)
    (a_f_Scale___init__ : PySem.W.findIn K (.ref CS) "__init__" = some (some (.ref f_Scale___init__)))
    (l_Scale___init__ : K.lookup f_Scale___init__ = some ⟨oc_Scale___init__, od_Scale___init__, .func (PySem.W.fnOf "__init__" "Scale.__init__" (defArgs s_Scale___init__) (defBody s_Scale___init__) (defScope s_Scale___init__) (.ref T_Scale___init__) kV_Scale___init__ dc_Scale___init__ pm_Scale___init__ an_Scale___init__ cd_Scale___init__ ct_Scale___init__), sl_Scale___init__⟩)
    (c_Scale___init__ : PySem.W.codeIn K cd_Scale___init__ "Scale.__init__" = true)
    (k_Scale___init__ : PySem.W.keepIn K (.ref f_Scale___init__) = true)
    (lT : K.lookup T_Scale___init__ = some ⟨cT, dT, .seq [Value.int 1 tT].toArray nT, slT⟩)
    (fiS : PySem.W.fnIn K f_Scale___init__ = true)
    (tyS : PySem.W.typeIn K (.ref f_Scale___init__) = some (.type "function"))
    (gM : PySem.W.nsIn K mainGlobals "MOST_WORTHS" = some (some (.int 64 tM)))
    (a_f_cut_down : PySem.W.nsIn K mainGlobals "cut_down" = some (some (.ref f_cut_down)))
    (l_cut_down : K.lookup f_cut_down = some ⟨oc_cut_down, od_cut_down, .func (PySem.W.fnOf "cut_down" "cut_down" (defArgs s_cut_down) (defBody s_cut_down) (defScope s_cut_down) .none kV_cut_down dc_cut_down pm_cut_down an_cut_down cd_cut_down ct_cut_down), sl_cut_down⟩)
    (c_cut_down : PySem.W.codeIn K cd_cut_down "cut_down" = true)
    (k_cut_down : PySem.W.keepIn K (.ref f_cut_down) = true)
    (a_f_number_name : PySem.W.nsIn K mainGlobals "number_name" = some (some (.ref f_number_name)))
    (l_number_name : K.lookup f_number_name = some ⟨oc_number_name, od_number_name, .func (PySem.W.fnOf "number_name" "number_name" (defArgs s_number_name) (defBody s_number_name) (defScope s_number_name) .none kV_number_name dc_number_name pm_number_name an_number_name cd_number_name ct_number_name), sl_number_name⟩)
    (c_number_name : PySem.W.codeIn K cd_number_name "number_name" = true)
    (k_number_name : PySem.W.keepIn K (.ref f_number_name) = true)
    (a_f_digits_of : PySem.W.nsIn K mainGlobals "digits_of" = some (some (.ref f_digits_of)))
    (l_digits_of : K.lookup f_digits_of = some ⟨oc_digits_of, od_digits_of, .func (PySem.W.fnOf "digits_of" "digits_of" (defArgs s_digits_of) (defBody s_digits_of) (defScope s_digits_of) .none kV_digits_of dc_digits_of pm_digits_of an_digits_of cd_digits_of ct_digits_of), sl_digits_of⟩)
    (c_digits_of : PySem.W.codeIn K cd_digits_of "digits_of" = true)
    (k_digits_of : PySem.W.keepIn K (.ref f_digits_of) = true)
    (gS : PySem.W.nsIn K mainGlobals "SIGNS" = some (some (.str signsL tS)))
    (a_f_is_table_name : PySem.W.nsIn K mainGlobals "is_table_name" = some (some (.ref f_is_table_name)))
    (l_is_table_name : K.lookup f_is_table_name = some ⟨oc_is_table_name, od_is_table_name, .func (PySem.W.fnOf "is_table_name" "is_table_name" (defArgs s_is_table_name) (defBody s_is_table_name) (defScope s_is_table_name) .none kV_is_table_name dc_is_table_name pm_is_table_name an_is_table_name cd_is_table_name ct_is_table_name), sl_is_table_name⟩)
    (c_is_table_name : PySem.W.codeIn K cd_is_table_name "is_table_name" = true)
    (k_is_table_name : PySem.W.keepIn K (.ref f_is_table_name) = true)
    (a_f_table_places : PySem.W.nsIn K mainGlobals "table_places" = some (some (.ref f_table_places)))
    (l_table_places : K.lookup f_table_places = some ⟨oc_table_places, od_table_places, .func (PySem.W.fnOf "table_places" "table_places" (defArgs s_table_places) (defBody s_table_places) (defScope s_table_places) .none kV_table_places dc_table_places pm_table_places an_table_places cd_table_places ct_table_places), sl_table_places⟩)
    (c_table_places : PySem.W.codeIn K cd_table_places "table_places" = true)
    (k_table_places : PySem.W.keepIn K (.ref f_table_places) = true)
    (gD : PySem.W.nsIn K mainGlobals "DEEPEST" = some (some (.int 10 tD)))
    (a_f_depth_above : PySem.W.nsIn K mainGlobals "depth_above" = some (some (.ref f_depth_above)))
    (l_depth_above : K.lookup f_depth_above = some ⟨oc_depth_above, od_depth_above, .func (PySem.W.fnOf "depth_above" "depth_above" (defArgs s_depth_above) (defBody s_depth_above) (defScope s_depth_above) .none kV_depth_above dc_depth_above pm_depth_above an_depth_above cd_depth_above ct_depth_above), sl_depth_above⟩)
    (c_depth_above : PySem.W.codeIn K cd_depth_above "depth_above" = true)
    (k_depth_above : PySem.W.keepIn K (.ref f_depth_above) = true)
    (a_f_half_places : PySem.W.nsIn K mainGlobals "half_places" = some (some (.ref f_half_places)))
    (l_half_places : K.lookup f_half_places = some ⟨oc_half_places, od_half_places, .func (PySem.W.fnOf "half_places" "half_places" (defArgs s_half_places) (defBody s_half_places) (defScope s_half_places) .none kV_half_places dc_half_places pm_half_places an_half_places cd_half_places ct_half_places), sl_half_places⟩)
    (c_half_places : PySem.W.codeIn K cd_half_places "half_places" = true)
    (k_half_places : PySem.W.keepIn K (.ref f_half_places) = true)
    (a_CT_f_Scale_then_at : PySem.W.findIn K (.ref CT) "then_at" = some (some (.ref f_Scale_then_at)))
    (i_Scale_then_at : PySem.W.isFn K (.ref f_Scale_then_at) = true)
    (l_Scale_then_at : K.lookup f_Scale_then_at = some ⟨oc_Scale_then_at, od_Scale_then_at, .func (PySem.W.fnOf "then_at" "Scale.then_at" (defArgs s_Scale_then_at) (defBody s_Scale_then_at) (defScope s_Scale_then_at) .none kV_Scale_then_at dc_Scale_then_at pm_Scale_then_at an_Scale_then_at cd_Scale_then_at ct_Scale_then_at), sl_Scale_then_at⟩)
    (c_Scale_then_at : PySem.W.codeIn K cd_Scale_then_at "Scale.then_at" = true)
    (k_Scale_then_at : PySem.W.keepIn K (.ref f_Scale_then_at) = true)
    (a_CP_f_Scale_then_at : PySem.W.findIn K (.ref CP) "then_at" = some (some (.ref f_Scale_then_at)))
    (a_CR_f_Scale_then_at : PySem.W.findIn K (.ref CR) "then_at" = some (some (.ref f_Scale_then_at)))
    (a_CC_f_Scale_then_at : PySem.W.findIn K (.ref CC) "then_at" = some (some (.ref f_Scale_then_at)))
    (a_CA_f_Scale_then_at : PySem.W.findIn K (.ref CA) "then_at" = some (some (.ref f_Scale_then_at)))
    (a_CV_f_Scale_then_at : PySem.W.findIn K (.ref CV) "then_at" = some (some (.ref f_Scale_then_at)))
    (a_CE_f_Scale_then_at : PySem.W.findIn K (.ref CE) "then_at" = some (some (.ref f_Scale_then_at)))
    (a_CH_f_Scale_then_at : PySem.W.findIn K (.ref CH) "then_at" = some (some (.ref f_Scale_then_at)))
    (a_CT_f_Scale_join_at : PySem.W.findIn K (.ref CT) "join_at" = some (some (.ref f_Scale_join_at)))
    (i_Scale_join_at : PySem.W.isFn K (.ref f_Scale_join_at) = true)
    (l_Scale_join_at : K.lookup f_Scale_join_at = some ⟨oc_Scale_join_at, od_Scale_join_at, .func (PySem.W.fnOf "join_at" "Scale.join_at" (defArgs s_Scale_join_at) (defBody s_Scale_join_at) (defScope s_Scale_join_at) .none kV_Scale_join_at dc_Scale_join_at pm_Scale_join_at an_Scale_join_at cd_Scale_join_at ct_Scale_join_at), sl_Scale_join_at⟩)
    (c_Scale_join_at : PySem.W.codeIn K cd_Scale_join_at "Scale.join_at" = true)
    (k_Scale_join_at : PySem.W.keepIn K (.ref f_Scale_join_at) = true)
    (a_CP_f_Scale_join_at : PySem.W.findIn K (.ref CP) "join_at" = some (some (.ref f_Scale_join_at)))
    (a_CR_f_Scale_join_at : PySem.W.findIn K (.ref CR) "join_at" = some (some (.ref f_Scale_join_at)))
    (a_CC_f_Scale_join_at : PySem.W.findIn K (.ref CC) "join_at" = some (some (.ref f_Scale_join_at)))
    (a_CA_f_Scale_join_at : PySem.W.findIn K (.ref CA) "join_at" = some (some (.ref f_Scale_join_at)))
    (a_CV_f_Scale_join_at : PySem.W.findIn K (.ref CV) "join_at" = some (some (.ref f_Scale_join_at)))
    (a_CE_f_Scale_join_at : PySem.W.findIn K (.ref CE) "join_at" = some (some (.ref f_Scale_join_at)))
    (a_CH_f_Scale_join_at : PySem.W.findIn K (.ref CH) "join_at" = some (some (.ref f_Scale_join_at)))
    (a_CT_f_Scale_name_at : PySem.W.findIn K (.ref CT) "name_at" = some (some (.ref f_Scale_name_at)))
    (i_Scale_name_at : PySem.W.isFn K (.ref f_Scale_name_at) = true)
    (l_Scale_name_at : K.lookup f_Scale_name_at = some ⟨oc_Scale_name_at, od_Scale_name_at, .func (PySem.W.fnOf "name_at" "Scale.name_at" (defArgs s_Scale_name_at) (defBody s_Scale_name_at) (defScope s_Scale_name_at) .none kV_Scale_name_at dc_Scale_name_at pm_Scale_name_at an_Scale_name_at cd_Scale_name_at ct_Scale_name_at), sl_Scale_name_at⟩)
    (c_Scale_name_at : PySem.W.codeIn K cd_Scale_name_at "Scale.name_at" = true)
    (k_Scale_name_at : PySem.W.keepIn K (.ref f_Scale_name_at) = true)
    (a_CP_f_Scale_name_at : PySem.W.findIn K (.ref CP) "name_at" = some (some (.ref f_Scale_name_at)))
    (a_CR_f_Scale_name_at : PySem.W.findIn K (.ref CR) "name_at" = some (some (.ref f_Scale_name_at)))
    (a_CC_f_Scale_name_at : PySem.W.findIn K (.ref CC) "name_at" = some (some (.ref f_Scale_name_at)))
    (a_CA_f_Scale_name_at : PySem.W.findIn K (.ref CA) "name_at" = some (some (.ref f_Scale_name_at)))
    (a_CV_f_Scale_name_at : PySem.W.findIn K (.ref CV) "name_at" = some (some (.ref f_Scale_name_at)))
    (a_CE_f_Scale_name_at : PySem.W.findIn K (.ref CE) "name_at" = some (some (.ref f_Scale_name_at)))
    (a_CH_f_Scale_name_at : PySem.W.findIn K (.ref CH) "name_at" = some (some (.ref f_Scale_name_at)))
    (a_CT_f_TableScale_make_then : PySem.W.findIn K (.ref CT) "make_then" = some (some (.ref f_TableScale_make_then)))
    (i_TableScale_make_then : PySem.W.isFn K (.ref f_TableScale_make_then) = true)
    (l_TableScale_make_then : K.lookup f_TableScale_make_then = some ⟨oc_TableScale_make_then, od_TableScale_make_then, .func (PySem.W.fnOf "make_then" "TableScale.make_then" (defArgs s_TableScale_make_then) (defBody s_TableScale_make_then) (defScope s_TableScale_make_then) .none kV_TableScale_make_then dc_TableScale_make_then pm_TableScale_make_then an_TableScale_make_then cd_TableScale_make_then ct_TableScale_make_then), sl_TableScale_make_then⟩)
    (c_TableScale_make_then : PySem.W.codeIn K cd_TableScale_make_then "TableScale.make_then" = true)
    (k_TableScale_make_then : PySem.W.keepIn K (.ref f_TableScale_make_then) = true)
    (a_CT_f_TableScale_make_join : PySem.W.findIn K (.ref CT) "make_join" = some (some (.ref f_TableScale_make_join)))
    (i_TableScale_make_join : PySem.W.isFn K (.ref f_TableScale_make_join) = true)
    (l_TableScale_make_join : K.lookup f_TableScale_make_join = some ⟨oc_TableScale_make_join, od_TableScale_make_join, .func (PySem.W.fnOf "make_join" "TableScale.make_join" (defArgs s_TableScale_make_join) (defBody s_TableScale_make_join) (defScope s_TableScale_make_join) .none kV_TableScale_make_join dc_TableScale_make_join pm_TableScale_make_join an_TableScale_make_join cd_TableScale_make_join ct_TableScale_make_join), sl_TableScale_make_join⟩)
    (c_TableScale_make_join : PySem.W.codeIn K cd_TableScale_make_join "TableScale.make_join" = true)
    (k_TableScale_make_join : PySem.W.keepIn K (.ref f_TableScale_make_join) = true)
    (a_CP_f_PairScale_make_then : PySem.W.findIn K (.ref CP) "make_then" = some (some (.ref f_PairScale_make_then)))
    (i_PairScale_make_then : PySem.W.isFn K (.ref f_PairScale_make_then) = true)
    (l_PairScale_make_then : K.lookup f_PairScale_make_then = some ⟨oc_PairScale_make_then, od_PairScale_make_then, .func (PySem.W.fnOf "make_then" "PairScale.make_then" (defArgs s_PairScale_make_then) (defBody s_PairScale_make_then) (defScope s_PairScale_make_then) .none kV_PairScale_make_then dc_PairScale_make_then pm_PairScale_make_then an_PairScale_make_then cd_PairScale_make_then ct_PairScale_make_then), sl_PairScale_make_then⟩)
    (c_PairScale_make_then : PySem.W.codeIn K cd_PairScale_make_then "PairScale.make_then" = true)
    (k_PairScale_make_then : PySem.W.keepIn K (.ref f_PairScale_make_then) = true)
    (a_CP_f_PairScale_make_join : PySem.W.findIn K (.ref CP) "make_join" = some (some (.ref f_PairScale_make_join)))
    (i_PairScale_make_join : PySem.W.isFn K (.ref f_PairScale_make_join) = true)
    (l_PairScale_make_join : K.lookup f_PairScale_make_join = some ⟨oc_PairScale_make_join, od_PairScale_make_join, .func (PySem.W.fnOf "make_join" "PairScale.make_join" (defArgs s_PairScale_make_join) (defBody s_PairScale_make_join) (defScope s_PairScale_make_join) .none kV_PairScale_make_join dc_PairScale_make_join pm_PairScale_make_join an_PairScale_make_join cd_PairScale_make_join ct_PairScale_make_join), sl_PairScale_make_join⟩)
    (c_PairScale_make_join : PySem.W.codeIn K cd_PairScale_make_join "PairScale.make_join" = true)
    (k_PairScale_make_join : PySem.W.keepIn K (.ref f_PairScale_make_join) = true)
    (a_CR_f_TurnedScale_make_then : PySem.W.findIn K (.ref CR) "make_then" = some (some (.ref f_TurnedScale_make_then)))
    (i_TurnedScale_make_then : PySem.W.isFn K (.ref f_TurnedScale_make_then) = true)
    (l_TurnedScale_make_then : K.lookup f_TurnedScale_make_then = some ⟨oc_TurnedScale_make_then, od_TurnedScale_make_then, .func (PySem.W.fnOf "make_then" "TurnedScale.make_then" (defArgs s_TurnedScale_make_then) (defBody s_TurnedScale_make_then) (defScope s_TurnedScale_make_then) .none kV_TurnedScale_make_then dc_TurnedScale_make_then pm_TurnedScale_make_then an_TurnedScale_make_then cd_TurnedScale_make_then ct_TurnedScale_make_then), sl_TurnedScale_make_then⟩)
    (c_TurnedScale_make_then : PySem.W.codeIn K cd_TurnedScale_make_then "TurnedScale.make_then" = true)
    (k_TurnedScale_make_then : PySem.W.keepIn K (.ref f_TurnedScale_make_then) = true)
    (a_CR_f_TurnedScale_make_join : PySem.W.findIn K (.ref CR) "make_join" = some (some (.ref f_TurnedScale_make_join)))
    (i_TurnedScale_make_join : PySem.W.isFn K (.ref f_TurnedScale_make_join) = true)
    (l_TurnedScale_make_join : K.lookup f_TurnedScale_make_join = some ⟨oc_TurnedScale_make_join, od_TurnedScale_make_join, .func (PySem.W.fnOf "make_join" "TurnedScale.make_join" (defArgs s_TurnedScale_make_join) (defBody s_TurnedScale_make_join) (defScope s_TurnedScale_make_join) .none kV_TurnedScale_make_join dc_TurnedScale_make_join pm_TurnedScale_make_join an_TurnedScale_make_join cd_TurnedScale_make_join ct_TurnedScale_make_join), sl_TurnedScale_make_join⟩)
    (c_TurnedScale_make_join : PySem.W.codeIn K cd_TurnedScale_make_join "TurnedScale.make_join" = true)
    (k_TurnedScale_make_join : PySem.W.keepIn K (.ref f_TurnedScale_make_join) = true)
    (a_CC_f_CountScale_behind : PySem.W.findIn K (.ref CC) "behind" = some (some (.ref f_CountScale_behind)))
    (i_CountScale_behind : PySem.W.isFn K (.ref f_CountScale_behind) = true)
    (l_CountScale_behind : K.lookup f_CountScale_behind = some ⟨oc_CountScale_behind, od_CountScale_behind, .func (PySem.W.fnOf "behind" "CountScale.behind" (defArgs s_CountScale_behind) (defBody s_CountScale_behind) (defScope s_CountScale_behind) .none kV_CountScale_behind dc_CountScale_behind pm_CountScale_behind an_CountScale_behind cd_CountScale_behind ct_CountScale_behind), sl_CountScale_behind⟩)
    (c_CountScale_behind : PySem.W.codeIn K cd_CountScale_behind "CountScale.behind" = true)
    (k_CountScale_behind : PySem.W.keepIn K (.ref f_CountScale_behind) = true)
    (a_CC_f_CountScale_either : PySem.W.findIn K (.ref CC) "either" = some (some (.ref f_CountScale_either)))
    (i_CountScale_either : PySem.W.isFn K (.ref f_CountScale_either) = true)
    (l_CountScale_either : K.lookup f_CountScale_either = some ⟨oc_CountScale_either, od_CountScale_either, .func (PySem.W.fnOf "either" "CountScale.either" (defArgs s_CountScale_either) (defBody s_CountScale_either) (defScope s_CountScale_either) .none kV_CountScale_either dc_CountScale_either pm_CountScale_either an_CountScale_either cd_CountScale_either ct_CountScale_either), sl_CountScale_either⟩)
    (c_CountScale_either : PySem.W.codeIn K cd_CountScale_either "CountScale.either" = true)
    (k_CountScale_either : PySem.W.keepIn K (.ref f_CountScale_either) = true)
    (a_CC_f_WithNever_make_then : PySem.W.findIn K (.ref CC) "make_then" = some (some (.ref f_WithNever_make_then)))
    (i_WithNever_make_then : PySem.W.isFn K (.ref f_WithNever_make_then) = true)
    (l_WithNever_make_then : K.lookup f_WithNever_make_then = some ⟨oc_WithNever_make_then, od_WithNever_make_then, .func (PySem.W.fnOf "make_then" "WithNever.make_then" (defArgs s_WithNever_make_then) (defBody s_WithNever_make_then) (defScope s_WithNever_make_then) .none kV_WithNever_make_then dc_WithNever_make_then pm_WithNever_make_then an_WithNever_make_then cd_WithNever_make_then ct_WithNever_make_then), sl_WithNever_make_then⟩)
    (c_WithNever_make_then : PySem.W.codeIn K cd_WithNever_make_then "WithNever.make_then" = true)
    (k_WithNever_make_then : PySem.W.keepIn K (.ref f_WithNever_make_then) = true)
    (a_CC_f_WithNever_make_join : PySem.W.findIn K (.ref CC) "make_join" = some (some (.ref f_WithNever_make_join)))
    (i_WithNever_make_join : PySem.W.isFn K (.ref f_WithNever_make_join) = true)
    (l_WithNever_make_join : K.lookup f_WithNever_make_join = some ⟨oc_WithNever_make_join, od_WithNever_make_join, .func (PySem.W.fnOf "make_join" "WithNever.make_join" (defArgs s_WithNever_make_join) (defBody s_WithNever_make_join) (defScope s_WithNever_make_join) .none kV_WithNever_make_join dc_WithNever_make_join pm_WithNever_make_join an_WithNever_make_join cd_WithNever_make_join ct_WithNever_make_join), sl_WithNever_make_join⟩)
    (c_WithNever_make_join : PySem.W.codeIn K cd_WithNever_make_join "WithNever.make_join" = true)
    (k_WithNever_make_join : PySem.W.keepIn K (.ref f_WithNever_make_join) = true)
    (a_CA_f_SpanScale_behind : PySem.W.findIn K (.ref CA) "behind" = some (some (.ref f_SpanScale_behind)))
    (i_SpanScale_behind : PySem.W.isFn K (.ref f_SpanScale_behind) = true)
    (l_SpanScale_behind : K.lookup f_SpanScale_behind = some ⟨oc_SpanScale_behind, od_SpanScale_behind, .func (PySem.W.fnOf "behind" "SpanScale.behind" (defArgs s_SpanScale_behind) (defBody s_SpanScale_behind) (defScope s_SpanScale_behind) .none kV_SpanScale_behind dc_SpanScale_behind pm_SpanScale_behind an_SpanScale_behind cd_SpanScale_behind ct_SpanScale_behind), sl_SpanScale_behind⟩)
    (c_SpanScale_behind : PySem.W.codeIn K cd_SpanScale_behind "SpanScale.behind" = true)
    (k_SpanScale_behind : PySem.W.keepIn K (.ref f_SpanScale_behind) = true)
    (a_CA_f_SpanScale_either : PySem.W.findIn K (.ref CA) "either" = some (some (.ref f_SpanScale_either)))
    (i_SpanScale_either : PySem.W.isFn K (.ref f_SpanScale_either) = true)
    (l_SpanScale_either : K.lookup f_SpanScale_either = some ⟨oc_SpanScale_either, od_SpanScale_either, .func (PySem.W.fnOf "either" "SpanScale.either" (defArgs s_SpanScale_either) (defBody s_SpanScale_either) (defScope s_SpanScale_either) .none kV_SpanScale_either dc_SpanScale_either pm_SpanScale_either an_SpanScale_either cd_SpanScale_either ct_SpanScale_either), sl_SpanScale_either⟩)
    (c_SpanScale_either : PySem.W.codeIn K cd_SpanScale_either "SpanScale.either" = true)
    (k_SpanScale_either : PySem.W.keepIn K (.ref f_SpanScale_either) = true)
    (a_CA_f_WithNever_make_then : PySem.W.findIn K (.ref CA) "make_then" = some (some (.ref f_WithNever_make_then)))
    (a_CA_f_WithNever_make_join : PySem.W.findIn K (.ref CA) "make_join" = some (some (.ref f_WithNever_make_join)))
    (a_CV_f_WatchScale_arrows : PySem.W.findIn K (.ref CV) "arrows" = some (some (.ref f_WatchScale_arrows)))
    (i_WatchScale_arrows : PySem.W.isFn K (.ref f_WatchScale_arrows) = true)
    (l_WatchScale_arrows : K.lookup f_WatchScale_arrows = some ⟨oc_WatchScale_arrows, od_WatchScale_arrows, .func (PySem.W.fnOf "arrows" "WatchScale.arrows" (defArgs s_WatchScale_arrows) (defBody s_WatchScale_arrows) (defScope s_WatchScale_arrows) .none kV_WatchScale_arrows dc_WatchScale_arrows pm_WatchScale_arrows an_WatchScale_arrows cd_WatchScale_arrows ct_WatchScale_arrows), sl_WatchScale_arrows⟩)
    (c_WatchScale_arrows : PySem.W.codeIn K cd_WatchScale_arrows "WatchScale.arrows" = true)
    (k_WatchScale_arrows : PySem.W.keepIn K (.ref f_WatchScale_arrows) = true)
    (a_CV_f_WatchScale_make_then : PySem.W.findIn K (.ref CV) "make_then" = some (some (.ref f_WatchScale_make_then)))
    (i_WatchScale_make_then : PySem.W.isFn K (.ref f_WatchScale_make_then) = true)
    (l_WatchScale_make_then : K.lookup f_WatchScale_make_then = some ⟨oc_WatchScale_make_then, od_WatchScale_make_then, .func (PySem.W.fnOf "make_then" "WatchScale.make_then" (defArgs s_WatchScale_make_then) (defBody s_WatchScale_make_then) (defScope s_WatchScale_make_then) .none kV_WatchScale_make_then dc_WatchScale_make_then pm_WatchScale_make_then an_WatchScale_make_then cd_WatchScale_make_then ct_WatchScale_make_then), sl_WatchScale_make_then⟩)
    (c_WatchScale_make_then : PySem.W.codeIn K cd_WatchScale_make_then "WatchScale.make_then" = true)
    (k_WatchScale_make_then : PySem.W.keepIn K (.ref f_WatchScale_make_then) = true)
    (a_CV_f_WatchScale_make_join : PySem.W.findIn K (.ref CV) "make_join" = some (some (.ref f_WatchScale_make_join)))
    (i_WatchScale_make_join : PySem.W.isFn K (.ref f_WatchScale_make_join) = true)
    (l_WatchScale_make_join : K.lookup f_WatchScale_make_join = some ⟨oc_WatchScale_make_join, od_WatchScale_make_join, .func (PySem.W.fnOf "make_join" "WatchScale.make_join" (defArgs s_WatchScale_make_join) (defBody s_WatchScale_make_join) (defScope s_WatchScale_make_join) .none kV_WatchScale_make_join dc_WatchScale_make_join pm_WatchScale_make_join an_WatchScale_make_join cd_WatchScale_make_join ct_WatchScale_make_join), sl_WatchScale_make_join⟩)
    (c_WatchScale_make_join : PySem.W.codeIn K cd_WatchScale_make_join "WatchScale.make_join" = true)
    (k_WatchScale_make_join : PySem.W.keepIn K (.ref f_WatchScale_make_join) = true)
    (a_CE_f_SetScale_behind : PySem.W.findIn K (.ref CE) "behind" = some (some (.ref f_SetScale_behind)))
    (i_SetScale_behind : PySem.W.isFn K (.ref f_SetScale_behind) = true)
    (l_SetScale_behind : K.lookup f_SetScale_behind = some ⟨oc_SetScale_behind, od_SetScale_behind, .func (PySem.W.fnOf "behind" "SetScale.behind" (defArgs s_SetScale_behind) (defBody s_SetScale_behind) (defScope s_SetScale_behind) .none kV_SetScale_behind dc_SetScale_behind pm_SetScale_behind an_SetScale_behind cd_SetScale_behind ct_SetScale_behind), sl_SetScale_behind⟩)
    (c_SetScale_behind : PySem.W.codeIn K cd_SetScale_behind "SetScale.behind" = true)
    (k_SetScale_behind : PySem.W.keepIn K (.ref f_SetScale_behind) = true)
    (a_CE_f_SetScale_either : PySem.W.findIn K (.ref CE) "either" = some (some (.ref f_SetScale_either)))
    (i_SetScale_either : PySem.W.isFn K (.ref f_SetScale_either) = true)
    (l_SetScale_either : K.lookup f_SetScale_either = some ⟨oc_SetScale_either, od_SetScale_either, .func (PySem.W.fnOf "either" "SetScale.either" (defArgs s_SetScale_either) (defBody s_SetScale_either) (defScope s_SetScale_either) .none kV_SetScale_either dc_SetScale_either pm_SetScale_either an_SetScale_either cd_SetScale_either ct_SetScale_either), sl_SetScale_either⟩)
    (c_SetScale_either : PySem.W.codeIn K cd_SetScale_either "SetScale.either" = true)
    (k_SetScale_either : PySem.W.keepIn K (.ref f_SetScale_either) = true)
    (a_CE_f_WithNever_make_then : PySem.W.findIn K (.ref CE) "make_then" = some (some (.ref f_WithNever_make_then)))
    (a_CE_f_WithNever_make_join : PySem.W.findIn K (.ref CE) "make_join" = some (some (.ref f_WithNever_make_join)))
    (a_CH_f_HeapScale_make_then : PySem.W.findIn K (.ref CH) "make_then" = some (some (.ref f_HeapScale_make_then)))
    (i_HeapScale_make_then : PySem.W.isFn K (.ref f_HeapScale_make_then) = true)
    (l_HeapScale_make_then : K.lookup f_HeapScale_make_then = some ⟨oc_HeapScale_make_then, od_HeapScale_make_then, .func (PySem.W.fnOf "make_then" "HeapScale.make_then" (defArgs s_HeapScale_make_then) (defBody s_HeapScale_make_then) (defScope s_HeapScale_make_then) .none kV_HeapScale_make_then dc_HeapScale_make_then pm_HeapScale_make_then an_HeapScale_make_then cd_HeapScale_make_then ct_HeapScale_make_then), sl_HeapScale_make_then⟩)
    (c_HeapScale_make_then : PySem.W.codeIn K cd_HeapScale_make_then "HeapScale.make_then" = true)
    (k_HeapScale_make_then : PySem.W.keepIn K (.ref f_HeapScale_make_then) = true)
    (a_CH_f_HeapScale_make_join : PySem.W.findIn K (.ref CH) "make_join" = some (some (.ref f_HeapScale_make_join)))
    (i_HeapScale_make_join : PySem.W.isFn K (.ref f_HeapScale_make_join) = true)
    (l_HeapScale_make_join : K.lookup f_HeapScale_make_join = some ⟨oc_HeapScale_make_join, od_HeapScale_make_join, .func (PySem.W.fnOf "make_join" "HeapScale.make_join" (defArgs s_HeapScale_make_join) (defBody s_HeapScale_make_join) (defScope s_HeapScale_make_join) .none kV_HeapScale_make_join dc_HeapScale_make_join pm_HeapScale_make_join an_HeapScale_make_join cd_HeapScale_make_join ct_HeapScale_make_join), sl_HeapScale_make_join⟩)
    (c_HeapScale_make_join : PySem.W.codeIn K cd_HeapScale_make_join "HeapScale.make_join" = true)
    (k_HeapScale_make_join : PySem.W.keepIn K (.ref f_HeapScale_make_join) = true)
    (a_f_WithNever___init__ : PySem.W.findIn K (.ref CW) "__init__" = some (some (.ref f_WithNever___init__)))
    (ty_WithNever___init__ : PySem.W.typeIn K (.ref f_WithNever___init__) = some (.type "function"))
    (l_WithNever___init__ : K.lookup f_WithNever___init__ = some ⟨oc_WithNever___init__, od_WithNever___init__, .func (PySem.W.fnX "__init__" "WithNever.__init__" (defArgs s_WithNever___init__) (defBody s_WithNever___init__) (defScope s_WithNever___init__) [("__class__", cc_WithNever___init__)] .none kV_WithNever___init__ dc_WithNever___init__ pm_WithNever___init__ an_WithNever___init__ (.ref cda_WithNever___init__) ct_WithNever___init__), sl_WithNever___init__⟩)
    (c_WithNever___init__ : PySem.W.codeIn K (.ref cda_WithNever___init__) "WithNever.__init__" = true)
    (lc_WithNever___init__ : K.lookup cda_WithNever___init__ = some ⟨q1_WithNever___init__, e1_WithNever___init__, .fields vs_WithNever___init__, g1_WithNever___init__⟩)
    (hv_WithNever___init__ : vs_WithNever___init__[2]? = some (.str fi_WithNever___init__ tf_WithNever___init__))
    (hf_WithNever___init__ : ((l.prog.main.file : Str) == fi_WithNever___init__) = true)
    (lx_WithNever___init__ : K.lookup cc_WithNever___init__ = some ⟨q2_WithNever___init__, e2_WithNever___init__, .cell (some (.ref CW)), g2_WithNever___init__⟩)
    (lD_WithNever___init__ : K.lookup CW = some ⟨q3_WithNever___init__, e3_WithNever___init__, .cls cl_WithNever___init__, g3_WithNever___init__⟩)
    (k_WithNever___init__ : PySem.W.keepIn K (.ref f_WithNever___init__) = true)
    (fi2_WithNever___init__ : PySem.W.fnIn K f_WithNever___init__ = true)
    (mW_CC : PySem.W.mroIn K CC (.ref CW) = some true)
    (sW_CC : PySem.W.ks_superIn K CC CW "__init__" = some (some (.ref f_Scale___init__)))
    (mW_CA : PySem.W.mroIn K CA (.ref CW) = some true)
    (sW_CA : PySem.W.ks_superIn K CA CW "__init__" = some (some (.ref f_Scale___init__)))
    (mW_CE : PySem.W.mroIn K CE (.ref CW) = some true)
    (sW_CE : PySem.W.ks_superIn K CE CW "__init__" = some (some (.ref f_Scale___init__)))
    (a_f_TableScale___init__ : PySem.W.findIn K (.ref CT) "__init__" = some (some (.ref f_TableScale___init__)))
    (ty_TableScale___init__ : PySem.W.typeIn K (.ref f_TableScale___init__) = some (.type "function"))
    (l_TableScale___init__ : K.lookup f_TableScale___init__ = some ⟨oc_TableScale___init__, od_TableScale___init__, .func (PySem.W.fnX "__init__" "TableScale.__init__" (defArgs s_TableScale___init__) (defBody s_TableScale___init__) (defScope s_TableScale___init__) [("__class__", cc_TableScale___init__)] .none kV_TableScale___init__ dc_TableScale___init__ pm_TableScale___init__ an_TableScale___init__ (.ref cda_TableScale___init__) ct_TableScale___init__), sl_TableScale___init__⟩)
    (c_TableScale___init__ : PySem.W.codeIn K (.ref cda_TableScale___init__) "TableScale.__init__" = true)
    (lc_TableScale___init__ : K.lookup cda_TableScale___init__ = some ⟨q1_TableScale___init__, e1_TableScale___init__, .fields vs_TableScale___init__, g1_TableScale___init__⟩)
    (hv_TableScale___init__ : vs_TableScale___init__[2]? = some (.str fi_TableScale___init__ tf_TableScale___init__))
    (hf_TableScale___init__ : ((l.prog.main.file : Str) == fi_TableScale___init__) = true)
    (lx_TableScale___init__ : K.lookup cc_TableScale___init__ = some ⟨q2_TableScale___init__, e2_TableScale___init__, .cell (some (.ref CT)), g2_TableScale___init__⟩)
    (lD_TableScale___init__ : K.lookup CT = some ⟨q3_TableScale___init__, e3_TableScale___init__, .cls cl_TableScale___init__, g3_TableScale___init__⟩)
    (k_TableScale___init__ : PySem.W.keepIn K (.ref f_TableScale___init__) = true)
    (fi2_TableScale___init__ : PySem.W.fnIn K f_TableScale___init__ = true)
    (mCT : PySem.W.mroIn K CT (.ref CT) = some true)
    (sCT : PySem.W.ks_superIn K CT CT "__init__" = some (some (.ref f_Scale___init__)))
    (mk_CT : PySem.W.makesIn K CT = true)
    (fnCT : PySem.W.isFn K (.ref f_TableScale___init__) = true)
    (kp_CT : PySem.W.keepIn K (.ref CT) = true)
    (a_f_PairScale___init__ : PySem.W.findIn K (.ref CP) "__init__" = some (some (.ref f_PairScale___init__)))
    (ty_PairScale___init__ : PySem.W.typeIn K (.ref f_PairScale___init__) = some (.type "function"))
    (l_PairScale___init__ : K.lookup f_PairScale___init__ = some ⟨oc_PairScale___init__, od_PairScale___init__, .func (PySem.W.fnX "__init__" "PairScale.__init__" (defArgs s_PairScale___init__) (defBody s_PairScale___init__) (defScope s_PairScale___init__) [("__class__", cc_PairScale___init__)] .none kV_PairScale___init__ dc_PairScale___init__ pm_PairScale___init__ an_PairScale___init__ (.ref cda_PairScale___init__) ct_PairScale___init__), sl_PairScale___init__⟩)
    (c_PairScale___init__ : PySem.W.codeIn K (.ref cda_PairScale___init__) "PairScale.__init__" = true)
    (lc_PairScale___init__ : K.lookup cda_PairScale___init__ = some ⟨q1_PairScale___init__, e1_PairScale___init__, .fields vs_PairScale___init__, g1_PairScale___init__⟩)
    (hv_PairScale___init__ : vs_PairScale___init__[2]? = some (.str fi_PairScale___init__ tf_PairScale___init__))
    (hf_PairScale___init__ : ((l.prog.main.file : Str) == fi_PairScale___init__) = true)
    (lx_PairScale___init__ : K.lookup cc_PairScale___init__ = some ⟨q2_PairScale___init__, e2_PairScale___init__, .cell (some (.ref CP)), g2_PairScale___init__⟩)
    (lD_PairScale___init__ : K.lookup CP = some ⟨q3_PairScale___init__, e3_PairScale___init__, .cls cl_PairScale___init__, g3_PairScale___init__⟩)
    (k_PairScale___init__ : PySem.W.keepIn K (.ref f_PairScale___init__) = true)
    (fi2_PairScale___init__ : PySem.W.fnIn K f_PairScale___init__ = true)
    (mCP : PySem.W.mroIn K CP (.ref CP) = some true)
    (sCP : PySem.W.ks_superIn K CP CP "__init__" = some (some (.ref f_Scale___init__)))
    (mk_CP : PySem.W.makesIn K CP = true)
    (fnCP : PySem.W.isFn K (.ref f_PairScale___init__) = true)
    (kp_CP : PySem.W.keepIn K (.ref CP) = true)
    (a_f_TurnedScale___init__ : PySem.W.findIn K (.ref CR) "__init__" = some (some (.ref f_TurnedScale___init__)))
    (ty_TurnedScale___init__ : PySem.W.typeIn K (.ref f_TurnedScale___init__) = some (.type "function"))
    (l_TurnedScale___init__ : K.lookup f_TurnedScale___init__ = some ⟨oc_TurnedScale___init__, od_TurnedScale___init__, .func (PySem.W.fnX "__init__" "TurnedScale.__init__" (defArgs s_TurnedScale___init__) (defBody s_TurnedScale___init__) (defScope s_TurnedScale___init__) [("__class__", cc_TurnedScale___init__)] .none kV_TurnedScale___init__ dc_TurnedScale___init__ pm_TurnedScale___init__ an_TurnedScale___init__ (.ref cda_TurnedScale___init__) ct_TurnedScale___init__), sl_TurnedScale___init__⟩)
    (c_TurnedScale___init__ : PySem.W.codeIn K (.ref cda_TurnedScale___init__) "TurnedScale.__init__" = true)
    (lc_TurnedScale___init__ : K.lookup cda_TurnedScale___init__ = some ⟨q1_TurnedScale___init__, e1_TurnedScale___init__, .fields vs_TurnedScale___init__, g1_TurnedScale___init__⟩)
    (hv_TurnedScale___init__ : vs_TurnedScale___init__[2]? = some (.str fi_TurnedScale___init__ tf_TurnedScale___init__))
    (hf_TurnedScale___init__ : ((l.prog.main.file : Str) == fi_TurnedScale___init__) = true)
    (lx_TurnedScale___init__ : K.lookup cc_TurnedScale___init__ = some ⟨q2_TurnedScale___init__, e2_TurnedScale___init__, .cell (some (.ref CR)), g2_TurnedScale___init__⟩)
    (lD_TurnedScale___init__ : K.lookup CR = some ⟨q3_TurnedScale___init__, e3_TurnedScale___init__, .cls cl_TurnedScale___init__, g3_TurnedScale___init__⟩)
    (k_TurnedScale___init__ : PySem.W.keepIn K (.ref f_TurnedScale___init__) = true)
    (fi2_TurnedScale___init__ : PySem.W.fnIn K f_TurnedScale___init__ = true)
    (mCR : PySem.W.mroIn K CR (.ref CR) = some true)
    (sCR : PySem.W.ks_superIn K CR CR "__init__" = some (some (.ref f_Scale___init__)))
    (mk_CR : PySem.W.makesIn K CR = true)
    (fnCR : PySem.W.isFn K (.ref f_TurnedScale___init__) = true)
    (kp_CR : PySem.W.keepIn K (.ref CR) = true)
    (a_f_CountScale___init__ : PySem.W.findIn K (.ref CC) "__init__" = some (some (.ref f_CountScale___init__)))
    (ty_CountScale___init__ : PySem.W.typeIn K (.ref f_CountScale___init__) = some (.type "function"))
    (l_CountScale___init__ : K.lookup f_CountScale___init__ = some ⟨oc_CountScale___init__, od_CountScale___init__, .func (PySem.W.fnX "__init__" "CountScale.__init__" (defArgs s_CountScale___init__) (defBody s_CountScale___init__) (defScope s_CountScale___init__) [("__class__", cc_CountScale___init__)] .none (.ref kd_CountScale___init__) dc_CountScale___init__ pm_CountScale___init__ an_CountScale___init__ (.ref cda_CountScale___init__) ct_CountScale___init__), sl_CountScale___init__⟩)
    (c_CountScale___init__ : PySem.W.codeIn K (.ref cda_CountScale___init__) "CountScale.__init__" = true)
    (lc_CountScale___init__ : K.lookup cda_CountScale___init__ = some ⟨q1_CountScale___init__, e1_CountScale___init__, .fields vs_CountScale___init__, g1_CountScale___init__⟩)
    (hv_CountScale___init__ : vs_CountScale___init__[2]? = some (.str fi_CountScale___init__ tf_CountScale___init__))
    (hf_CountScale___init__ : ((l.prog.main.file : Str) == fi_CountScale___init__) = true)
    (lx_CountScale___init__ : K.lookup cc_CountScale___init__ = some ⟨q2_CountScale___init__, e2_CountScale___init__, .cell (some (.ref CC)), g2_CountScale___init__⟩)
    (lD_CountScale___init__ : K.lookup CC = some ⟨q3_CountScale___init__, e3_CountScale___init__, .cls cl_CountScale___init__, g3_CountScale___init__⟩)
    (k_CountScale___init__ : PySem.W.keepIn K (.ref f_CountScale___init__) = true)
    (fi2_CountScale___init__ : PySem.W.fnIn K f_CountScale___init__ = true)
    (kw_CountScale___init__ : PySem.W.nsIn K kd_CountScale___init__ "order" = some (some (.str "up" tk_CountScale___init__)))
    (mCC : PySem.W.mroIn K CC (.ref CC) = some true)
    (sCC : PySem.W.ks_superIn K CC CC "__init__" = some (some (.ref f_WithNever___init__)))
    (mk_CC : PySem.W.makesIn K CC = true)
    (fnCC : PySem.W.isFn K (.ref f_CountScale___init__) = true)
    (kp_CC : PySem.W.keepIn K (.ref CC) = true)
    (a_f_SpanScale___init__ : PySem.W.findIn K (.ref CA) "__init__" = some (some (.ref f_SpanScale___init__)))
    (ty_SpanScale___init__ : PySem.W.typeIn K (.ref f_SpanScale___init__) = some (.type "function"))
    (l_SpanScale___init__ : K.lookup f_SpanScale___init__ = some ⟨oc_SpanScale___init__, od_SpanScale___init__, .func (PySem.W.fnX "__init__" "SpanScale.__init__" (defArgs s_SpanScale___init__) (defBody s_SpanScale___init__) (defScope s_SpanScale___init__) [("__class__", cc_SpanScale___init__)] .none kV_SpanScale___init__ dc_SpanScale___init__ pm_SpanScale___init__ an_SpanScale___init__ (.ref cda_SpanScale___init__) ct_SpanScale___init__), sl_SpanScale___init__⟩)
    (c_SpanScale___init__ : PySem.W.codeIn K (.ref cda_SpanScale___init__) "SpanScale.__init__" = true)
    (lc_SpanScale___init__ : K.lookup cda_SpanScale___init__ = some ⟨q1_SpanScale___init__, e1_SpanScale___init__, .fields vs_SpanScale___init__, g1_SpanScale___init__⟩)
    (hv_SpanScale___init__ : vs_SpanScale___init__[2]? = some (.str fi_SpanScale___init__ tf_SpanScale___init__))
    (hf_SpanScale___init__ : ((l.prog.main.file : Str) == fi_SpanScale___init__) = true)
    (lx_SpanScale___init__ : K.lookup cc_SpanScale___init__ = some ⟨q2_SpanScale___init__, e2_SpanScale___init__, .cell (some (.ref CA)), g2_SpanScale___init__⟩)
    (lD_SpanScale___init__ : K.lookup CA = some ⟨q3_SpanScale___init__, e3_SpanScale___init__, .cls cl_SpanScale___init__, g3_SpanScale___init__⟩)
    (k_SpanScale___init__ : PySem.W.keepIn K (.ref f_SpanScale___init__) = true)
    (fi2_SpanScale___init__ : PySem.W.fnIn K f_SpanScale___init__ = true)
    (mCA : PySem.W.mroIn K CA (.ref CA) = some true)
    (sCA : PySem.W.ks_superIn K CA CA "__init__" = some (some (.ref f_WithNever___init__)))
    (mk_CA : PySem.W.makesIn K CA = true)
    (fnCA : PySem.W.isFn K (.ref f_SpanScale___init__) = true)
    (kp_CA : PySem.W.keepIn K (.ref CA) = true)
    (a_f_WatchScale___init__ : PySem.W.findIn K (.ref CV) "__init__" = some (some (.ref f_WatchScale___init__)))
    (ty_WatchScale___init__ : PySem.W.typeIn K (.ref f_WatchScale___init__) = some (.type "function"))
    (l_WatchScale___init__ : K.lookup f_WatchScale___init__ = some ⟨oc_WatchScale___init__, od_WatchScale___init__, .func (PySem.W.fnX "__init__" "WatchScale.__init__" (defArgs s_WatchScale___init__) (defBody s_WatchScale___init__) (defScope s_WatchScale___init__) [("__class__", cc_WatchScale___init__)] .none kV_WatchScale___init__ dc_WatchScale___init__ pm_WatchScale___init__ an_WatchScale___init__ (.ref cda_WatchScale___init__) ct_WatchScale___init__), sl_WatchScale___init__⟩)
    (c_WatchScale___init__ : PySem.W.codeIn K (.ref cda_WatchScale___init__) "WatchScale.__init__" = true)
    (lc_WatchScale___init__ : K.lookup cda_WatchScale___init__ = some ⟨q1_WatchScale___init__, e1_WatchScale___init__, .fields vs_WatchScale___init__, g1_WatchScale___init__⟩)
    (hv_WatchScale___init__ : vs_WatchScale___init__[2]? = some (.str fi_WatchScale___init__ tf_WatchScale___init__))
    (hf_WatchScale___init__ : ((l.prog.main.file : Str) == fi_WatchScale___init__) = true)
    (lx_WatchScale___init__ : K.lookup cc_WatchScale___init__ = some ⟨q2_WatchScale___init__, e2_WatchScale___init__, .cell (some (.ref CV)), g2_WatchScale___init__⟩)
    (lD_WatchScale___init__ : K.lookup CV = some ⟨q3_WatchScale___init__, e3_WatchScale___init__, .cls cl_WatchScale___init__, g3_WatchScale___init__⟩)
    (k_WatchScale___init__ : PySem.W.keepIn K (.ref f_WatchScale___init__) = true)
    (fi2_WatchScale___init__ : PySem.W.fnIn K f_WatchScale___init__ = true)
    (mCV : PySem.W.mroIn K CV (.ref CV) = some true)
    (sCV : PySem.W.ks_superIn K CV CV "__init__" = some (some (.ref f_Scale___init__)))
    (mk_CV : PySem.W.makesIn K CV = true)
    (fnCV : PySem.W.isFn K (.ref f_WatchScale___init__) = true)
    (kp_CV : PySem.W.keepIn K (.ref CV) = true)
    (a_f_SetScale___init__ : PySem.W.findIn K (.ref CE) "__init__" = some (some (.ref f_SetScale___init__)))
    (ty_SetScale___init__ : PySem.W.typeIn K (.ref f_SetScale___init__) = some (.type "function"))
    (l_SetScale___init__ : K.lookup f_SetScale___init__ = some ⟨oc_SetScale___init__, od_SetScale___init__, .func (PySem.W.fnX "__init__" "SetScale.__init__" (defArgs s_SetScale___init__) (defBody s_SetScale___init__) (defScope s_SetScale___init__) [("__class__", cc_SetScale___init__)] .none (.ref kd_SetScale___init__) dc_SetScale___init__ pm_SetScale___init__ an_SetScale___init__ (.ref cda_SetScale___init__) ct_SetScale___init__), sl_SetScale___init__⟩)
    (c_SetScale___init__ : PySem.W.codeIn K (.ref cda_SetScale___init__) "SetScale.__init__" = true)
    (lc_SetScale___init__ : K.lookup cda_SetScale___init__ = some ⟨q1_SetScale___init__, e1_SetScale___init__, .fields vs_SetScale___init__, g1_SetScale___init__⟩)
    (hv_SetScale___init__ : vs_SetScale___init__[2]? = some (.str fi_SetScale___init__ tf_SetScale___init__))
    (hf_SetScale___init__ : ((l.prog.main.file : Str) == fi_SetScale___init__) = true)
    (lx_SetScale___init__ : K.lookup cc_SetScale___init__ = some ⟨q2_SetScale___init__, e2_SetScale___init__, .cell (some (.ref CE)), g2_SetScale___init__⟩)
    (lD_SetScale___init__ : K.lookup CE = some ⟨q3_SetScale___init__, e3_SetScale___init__, .cls cl_SetScale___init__, g3_SetScale___init__⟩)
    (k_SetScale___init__ : PySem.W.keepIn K (.ref f_SetScale___init__) = true)
    (fi2_SetScale___init__ : PySem.W.fnIn K f_SetScale___init__ = true)
    (kw_SetScale___init__ : PySem.W.nsIn K kd_SetScale___init__ "join" = some (some (.str "may" tk_SetScale___init__)))
    (mCE : PySem.W.mroIn K CE (.ref CE) = some true)
    (sCE : PySem.W.ks_superIn K CE CE "__init__" = some (some (.ref f_WithNever___init__)))
    (mk_CE : PySem.W.makesIn K CE = true)
    (fnCE : PySem.W.isFn K (.ref f_SetScale___init__) = true)
    (kp_CE : PySem.W.keepIn K (.ref CE) = true)
    (a_f_HeapScale___init__ : PySem.W.findIn K (.ref CH) "__init__" = some (some (.ref f_HeapScale___init__)))
    (ty_HeapScale___init__ : PySem.W.typeIn K (.ref f_HeapScale___init__) = some (.type "function"))
    (l_HeapScale___init__ : K.lookup f_HeapScale___init__ = some ⟨oc_HeapScale___init__, od_HeapScale___init__, .func (PySem.W.fnX "__init__" "HeapScale.__init__" (defArgs s_HeapScale___init__) (defBody s_HeapScale___init__) (defScope s_HeapScale___init__) [("__class__", cc_HeapScale___init__)] .none kV_HeapScale___init__ dc_HeapScale___init__ pm_HeapScale___init__ an_HeapScale___init__ (.ref cda_HeapScale___init__) ct_HeapScale___init__), sl_HeapScale___init__⟩)
    (c_HeapScale___init__ : PySem.W.codeIn K (.ref cda_HeapScale___init__) "HeapScale.__init__" = true)
    (lc_HeapScale___init__ : K.lookup cda_HeapScale___init__ = some ⟨q1_HeapScale___init__, e1_HeapScale___init__, .fields vs_HeapScale___init__, g1_HeapScale___init__⟩)
    (hv_HeapScale___init__ : vs_HeapScale___init__[2]? = some (.str fi_HeapScale___init__ tf_HeapScale___init__))
    (hf_HeapScale___init__ : ((l.prog.main.file : Str) == fi_HeapScale___init__) = true)
    (lx_HeapScale___init__ : K.lookup cc_HeapScale___init__ = some ⟨q2_HeapScale___init__, e2_HeapScale___init__, .cell (some (.ref CH)), g2_HeapScale___init__⟩)
    (lD_HeapScale___init__ : K.lookup CH = some ⟨q3_HeapScale___init__, e3_HeapScale___init__, .cls cl_HeapScale___init__, g3_HeapScale___init__⟩)
    (k_HeapScale___init__ : PySem.W.keepIn K (.ref f_HeapScale___init__) = true)
    (fi2_HeapScale___init__ : PySem.W.fnIn K f_HeapScale___init__ = true)
    (mCH : PySem.W.mroIn K CH (.ref CH) = some true)
    (sCH : PySem.W.ks_superIn K CH CH "__init__" = some (some (.ref f_Scale___init__)))
    (mk_CH : PySem.W.makesIn K CH = true)
    (fnCH : PySem.W.isFn K (.ref f_HeapScale___init__) = true)
    (kp_CH : PySem.W.keepIn K (.ref CH) = true)
    (a_f__law_source : PySem.W.nsIn K mainGlobals "_law_source" = some (some (.ref f__law_source)))
    (l__law_source : K.lookup f__law_source = some ⟨oc__law_source, od__law_source, .func (PySem.W.fnOf "_law_source" "_law_source" (defArgs s__law_source) (defBody s__law_source) (defScope s__law_source) .none kV__law_source dc__law_source pm__law_source an__law_source cd__law_source ct__law_source), sl__law_source⟩)
    (c__law_source : PySem.W.codeIn K cd__law_source "_law_source" = true)
    (k__law_source : PySem.W.keepIn K (.ref f__law_source) = true)
    (a_f__law_pick : PySem.W.nsIn K mainGlobals "_law_pick" = some (some (.ref f__law_pick)))
    (l__law_pick : K.lookup f__law_pick = some ⟨oc__law_pick, od__law_pick, .func (PySem.W.fnOf "_law_pick" "_law_pick" (defArgs s__law_pick) (defBody s__law_pick) (defScope s__law_pick) .none kV__law_pick dc__law_pick pm__law_pick an__law_pick cd__law_pick ct__law_pick), sl__law_pick⟩)
    (c__law_pick : PySem.W.codeIn K cd__law_pick "_law_pick" = true)
    (k__law_pick : PySem.W.keepIn K (.ref f__law_pick) = true)
    (a_f__law_like : PySem.W.nsIn K mainGlobals "_law_like" = some (some (.ref f__law_like)))
    (l__law_like : K.lookup f__law_like = some ⟨oc__law_like, od__law_like, .func (PySem.W.fnOf "_law_like" "_law_like" (defArgs s__law_like) (defBody s__law_like) (defScope s__law_like) .none kV__law_like dc__law_like pm__law_like an__law_like cd__law_like ct__law_like), sl__law_like⟩)
    (c__law_like : PySem.W.codeIn K cd__law_like "_law_like" = true)
    (k__law_like : PySem.W.keepIn K (.ref f__law_like) = true)
    (a_f__law_number : PySem.W.nsIn K mainGlobals "_law_number" = some (some (.ref f__law_number)))
    (l__law_number : K.lookup f__law_number = some ⟨oc__law_number, od__law_number, .func (PySem.W.fnOf "_law_number" "_law_number" (defArgs s__law_number) (defBody s__law_number) (defScope s__law_number) .none kV__law_number dc__law_number pm__law_number an__law_number cd__law_number ct__law_number), sl__law_number⟩)
    (c__law_number : PySem.W.codeIn K cd__law_number "_law_number" = true)
    (k__law_number : PySem.W.keepIn K (.ref f__law_number) = true)
    (a_f__law_family_size : PySem.W.nsIn K mainGlobals "_law_family_size" = some (some (.ref f__law_family_size)))
    (l__law_family_size : K.lookup f__law_family_size = some ⟨oc__law_family_size, od__law_family_size, .func (PySem.W.fnOf "_law_family_size" "_law_family_size" (defArgs s__law_family_size) (defBody s__law_family_size) (defScope s__law_family_size) .none kV__law_family_size dc__law_family_size pm__law_family_size an__law_family_size cd__law_family_size ct__law_family_size), sl__law_family_size⟩)
    (c__law_family_size : PySem.W.codeIn K cd__law_family_size "_law_family_size" = true)
    (k__law_family_size : PySem.W.keepIn K (.ref f__law_family_size) = true)
    (a_f__law_family : PySem.W.nsIn K mainGlobals "_law_family" = some (some (.ref f__law_family)))
    (l__law_family : K.lookup f__law_family = some ⟨oc__law_family, od__law_family, .func (PySem.W.fnOf "_law_family" "_law_family" (defArgs s__law_family) (defBody s__law_family) (defScope s__law_family) .none kV__law_family dc__law_family pm__law_family an__law_family cd__law_family ct__law_family), sl__law_family⟩)
    (c__law_family : PySem.W.codeIn K cd__law_family "_law_family" = true)
    (k__law_family : PySem.W.keepIn K (.ref f__law_family) = true)
    (a_f__law_around : PySem.W.nsIn K mainGlobals "_law_around" = some (some (.ref f__law_around)))
    (l__law_around : K.lookup f__law_around = some ⟨oc__law_around, od__law_around, .func (PySem.W.fnOf "_law_around" "_law_around" (defArgs s__law_around) (defBody s__law_around) (defScope s__law_around) .none kV__law_around dc__law_around pm__law_around an__law_around cd__law_around ct__law_around), sl__law_around⟩)
    (c__law_around : PySem.W.codeIn K cd__law_around "_law_around" = true)
    (k__law_around : PySem.W.keepIn K (.ref f__law_around) = true)
    (a_f__law_due : PySem.W.nsIn K mainGlobals "_law_due" = some (some (.ref f__law_due)))
    (l__law_due : K.lookup f__law_due = some ⟨oc__law_due, od__law_due, .func (PySem.W.fnOf "_law_due" "_law_due" (defArgs s__law_due) (defBody s__law_due) (defScope s__law_due) .none kV__law_due dc__law_due pm__law_due an__law_due cd__law_due ct__law_due), sl__law_due⟩)
    (c__law_due : PySem.W.codeIn K cd__law_due "_law_due" = true)
    (k__law_due : PySem.W.keepIn K (.ref f__law_due) = true)
    (a_f__law_deep_right : PySem.W.nsIn K mainGlobals "_law_deep_right" = some (some (.ref f__law_deep_right)))
    (l__law_deep_right : K.lookup f__law_deep_right = some ⟨oc__law_deep_right, od__law_deep_right, .func (PySem.W.fnOf "_law_deep_right" "_law_deep_right" (defArgs s__law_deep_right) (defBody s__law_deep_right) (defScope s__law_deep_right) .none kV__law_deep_right dc__law_deep_right pm__law_deep_right an__law_deep_right cd__law_deep_right ct__law_deep_right), sl__law_deep_right⟩)
    (c__law_deep_right : PySem.W.codeIn K cd__law_deep_right "_law_deep_right" = true)
    (k__law_deep_right : PySem.W.keepIn K (.ref f__law_deep_right) = true)
    (a_f_law : PySem.W.nsIn K mainGlobals "law" = some (some (.ref f_law)))
    (l_law : K.lookup f_law = some ⟨oc_law, od_law, .func (PySem.W.fnOf "law" "law" (defArgs s_law) (defBody s_law) (defScope s_law) .none kV_law dc_law pm_law an_law cd_law ct_law), sl_law⟩)
    (c_law : PySem.W.codeIn K cd_law "law" = true)
    (k_law : PySem.W.keepIn K (.ref f_law) = true)
    (xsp_ : PySem.W.specialIn K (.builtin "object.__class__") "__get__" = some (some (.builtin "getset_descriptor.__get__")))
    (xtk_ : PySem.W.takesIn K (.builtin "object.__class__") = some true)
    (a_A_BadScale : PySem.W.nsIn K mainGlobals "BadScale" = some (some (.ref A_BadScale)))
    (xh_BadScale : PySem.W.hasDictIn K A_BadScale = true)
    (xe_BadScale : PySem.W.subIn K (.ref A_BadScale) (.type "BaseException") = some true)
    (xk_BadScale : PySem.W.keepIn K (.ref A_BadScale) = true)
    (xg_BadScale : PySem.W.findIn K (.ref A_BadScale) "__getattribute__" = some (some (.builtin "BaseException.__getattribute__")))
    (xgg_BadScale : PySem.W.findIn K (.ref A_BadScale) "__getattr__" = some none)
    (xcl_BadScale : PySem.W.findIn K (.ref A_BadScale) "__class__" = some (some (.builtin "object.__class__")))
    (xmo_BadScale : PySem.W.mroIn K A_BadScale (.type "object") = some true)
    (xt_BadScale : PySem.W.typeIn K (.ref A_BadScale) = some (.type "type"))
    (xte_BadScale : PySem.W.exmOne K (.ref A_BadScale) (.ref A_BadScale) = some true)
    (q_BadScale : PySem.W.excIn K A_BadScale (eTail "ValueError") "ValueError.__new__" = true)
    (a_CDe : PySem.W.nsIn K mainGlobals "DeedscaleError" = some (some (.ref CDe)))
    (kDe : PySem.W.kitOne K (.ref A_BadScale) (.ref CDe) = some true)
    : ∃ fd : FuncData, (∀ (s : Shared) (v : Value), BindsTo s fd ⟨[v], []⟩ [("_law_script", v)]) ∧ ∀ base : Heap, K.In base → base.Ns mainGlobals mg → FnOk l.prog w K mg base CX0 14 fa fd ["_law_script"] (sp_law K) := by
  have e := hfa.symm.trans (PySem.W.mg_of X G a_f_law)
  cases e
  refine ⟨PySem.W.fnOf "law" "law" (defArgs s_law) (defBody s_law) (defScope s_law) .none kV_law dc_law pm_law an_law cd_law ct_law, fun s v => .of_eq rfl, fun base _ _ => ?_⟩
  have Z : Bi mg := ⟨PySem.W.mg_none_of X G z_int, PySem.W.mg_none_of X G z_abs, PySem.W.mg_none_of X G z_range, PySem.W.mg_none_of X G z_len, PySem.W.mg_none_of X G z_isinstance, PySem.W.mg_none_of X G z_bool, PySem.W.mg_none_of X G z_str, PySem.W.mg_none_of X G z_list, PySem.W.mg_none_of X G z_tuple, PySem.W.mg_none_of X G z_dict, PySem.W.mg_none_of X G z_enumerate, PySem.W.mg_none_of X G z_zip, PySem.W.mg_none_of X G z_reversed, PySem.W.mg_none_of X G z_ValueError, PySem.W.mg_none_of X G z_LookupError, PySem.W.mg_none_of X G z_KeyError, PySem.W.mg_none_of X G z_Exception, PySem.W.mg_none_of X G z_super, PySem.W.mg_none_of X G z_sum, PySem.W.mg_none_of X G z_any, PySem.W.mg_none_of X G z_all, PySem.W.mg_none_of X G z_sorted, PySem.W.mg_none_of X G z_max, PySem.W.mg_none_of X G z_min, PySem.W.mg_none_of X G z_NotImplementedError, PySem.W.mg_none_of X G z_set, PySem.W.mg_none_of X G z_repr⟩
  have hC_CT : Cls K CT := ⟨pg_CT, hd_CT, po_CT, sa_CT⟩
  have hN_CT : ∀ f ∈ (["written_joins", "written_products", "label", "size", "never_at", "still_at", "depth", "worth_names", "worth_places", "product_table", "join_table"] : List Str), NoAttr K CT f := by
    intro f hf
    simp only [List.mem_cons, List.not_mem_nil, or_false] at hf
    rcases hf with rfl | rfl | rfl | rfl | rfl | rfl | rfl | rfl | rfl | rfl | rfl
    · exact na_CT_written_joins
    · exact na_CT_written_products
    · exact na_CT_label
    · exact na_CT_size
    · exact na_CT_never_at
    · exact na_CT_still_at
    · exact na_CT_depth
    · exact na_CT_worth_names
    · exact na_CT_worth_places
    · exact na_CT_product_table
    · exact na_CT_join_table
  have n_CT : ∀ f ∈ scF, NoAttr K CT f := fun f hf => hN_CT f (List.mem_cons_of_mem _ (List.mem_cons_of_mem _ hf))
  have o_CT : ClsOk K CT := ⟨hC_CT, n_CT⟩
  have hC_CP : Cls K CP := ⟨pg_CP, hd_CP, po_CP, sa_CP⟩
  have hN_CP : ∀ f ∈ (["left", "right", "label", "size", "never_at", "still_at", "depth", "worth_names", "worth_places", "product_table", "join_table"] : List Str), NoAttr K CP f := by
    intro f hf
    simp only [List.mem_cons, List.not_mem_nil, or_false] at hf
    rcases hf with rfl | rfl | rfl | rfl | rfl | rfl | rfl | rfl | rfl | rfl | rfl
    · exact na_CP_left
    · exact na_CP_right
    · exact na_CP_label
    · exact na_CP_size
    · exact na_CP_never_at
    · exact na_CP_still_at
    · exact na_CP_depth
    · exact na_CP_worth_names
    · exact na_CP_worth_places
    · exact na_CP_product_table
    · exact na_CP_join_table
  have n_CP : ∀ f ∈ scF, NoAttr K CP f := fun f hf => hN_CP f (List.mem_cons_of_mem _ (List.mem_cons_of_mem _ hf))
  have o_CP : ClsOk K CP := ⟨hC_CP, n_CP⟩
  have hC_CR : Cls K CR := ⟨pg_CR, hd_CR, po_CR, sa_CR⟩
  have hN_CR : ∀ f ∈ (["inner", "label", "size", "never_at", "still_at", "depth", "worth_names", "worth_places", "product_table", "join_table"] : List Str), NoAttr K CR f := by
    intro f hf
    simp only [List.mem_cons, List.not_mem_nil, or_false] at hf
    rcases hf with rfl | rfl | rfl | rfl | rfl | rfl | rfl | rfl | rfl | rfl
    · exact na_CR_inner
    · exact na_CR_label
    · exact na_CR_size
    · exact na_CR_never_at
    · exact na_CR_still_at
    · exact na_CR_depth
    · exact na_CR_worth_names
    · exact na_CR_worth_places
    · exact na_CR_product_table
    · exact na_CR_join_table
  have n_CR : ∀ f ∈ scF, NoAttr K CR f := fun f hf => hN_CR f (List.mem_cons_of_mem _ hf)
  have o_CR : ClsOk K CR := ⟨hC_CR, n_CR⟩
  have hC_CC : Cls K CC := ⟨pg_CC, hd_CC, po_CC, sa_CC⟩
  have hN_CC : ∀ f ∈ (["most", "rising", "contents", "label", "size", "never_at", "still_at", "depth", "worth_names", "worth_places", "product_table", "join_table"] : List Str), NoAttr K CC f := by
    intro f hf
    simp only [List.mem_cons, List.not_mem_nil, or_false] at hf
    rcases hf with rfl | rfl | rfl | rfl | rfl | rfl | rfl | rfl | rfl | rfl | rfl | rfl
    · exact na_CC_most
    · exact na_CC_rising
    · exact na_CC_contents
    · exact na_CC_label
    · exact na_CC_size
    · exact na_CC_never_at
    · exact na_CC_still_at
    · exact na_CC_depth
    · exact na_CC_worth_names
    · exact na_CC_worth_places
    · exact na_CC_product_table
    · exact na_CC_join_table
  have nW_CC : ∀ f ∈ wnF, NoAttr K CC f := fun f hf => hN_CC f (List.mem_cons_of_mem _ (List.mem_cons_of_mem _ hf))
  have n_CC : ∀ f ∈ scF, NoAttr K CC f := fun f hf => hN_CC f (List.mem_cons_of_mem _ (List.mem_cons_of_mem _ (List.mem_cons_of_mem _ hf)))
  have o_CC : ClsOk K CC := ⟨hC_CC, n_CC⟩
  have hC_CA : Cls K CA := ⟨pg_CA, hd_CA, po_CA, sa_CA⟩
  have hN_CA : ∀ f ∈ (["most", "contents", "label", "size", "never_at", "still_at", "depth", "worth_names", "worth_places", "product_table", "join_table"] : List Str), NoAttr K CA f := by
    intro f hf
    simp only [List.mem_cons, List.not_mem_nil, or_false] at hf
    rcases hf with rfl | rfl | rfl | rfl | rfl | rfl | rfl | rfl | rfl | rfl | rfl
    · exact na_CA_most
    · exact na_CA_contents
    · exact na_CA_label
    · exact na_CA_size
    · exact na_CA_never_at
    · exact na_CA_still_at
    · exact na_CA_depth
    · exact na_CA_worth_names
    · exact na_CA_worth_places
    · exact na_CA_product_table
    · exact na_CA_join_table
  have nW_CA : ∀ f ∈ wnF, NoAttr K CA f := fun f hf => hN_CA f (List.mem_cons_of_mem _ hf)
  have n_CA : ∀ f ∈ scF, NoAttr K CA f := fun f hf => hN_CA f (List.mem_cons_of_mem _ (List.mem_cons_of_mem _ hf))
  have o_CA : ClsOk K CA := ⟨hC_CA, n_CA⟩
  have hC_CV : Cls K CV := ⟨pg_CV, hd_CV, po_CV, sa_CV⟩
  have hN_CV : ∀ f ∈ (["states", "label", "size", "never_at", "still_at", "depth", "worth_names", "worth_places", "product_table", "join_table"] : List Str), NoAttr K CV f := by
    intro f hf
    simp only [List.mem_cons, List.not_mem_nil, or_false] at hf
    rcases hf with rfl | rfl | rfl | rfl | rfl | rfl | rfl | rfl | rfl | rfl
    · exact na_CV_states
    · exact na_CV_label
    · exact na_CV_size
    · exact na_CV_never_at
    · exact na_CV_still_at
    · exact na_CV_depth
    · exact na_CV_worth_names
    · exact na_CV_worth_places
    · exact na_CV_product_table
    · exact na_CV_join_table
  have n_CV : ∀ f ∈ scF, NoAttr K CV f := fun f hf => hN_CV f (List.mem_cons_of_mem _ hf)
  have o_CV : ClsOk K CV := ⟨hC_CV, n_CV⟩
  have hC_CE : Cls K CE := ⟨pg_CE, hd_CE, po_CE, sa_CE⟩
  have hN_CE : ∀ f ∈ (["loose", "contents", "label", "size", "never_at", "still_at", "depth", "worth_names", "worth_places", "product_table", "join_table"] : List Str), NoAttr K CE f := by
    intro f hf
    simp only [List.mem_cons, List.not_mem_nil, or_false] at hf
    rcases hf with rfl | rfl | rfl | rfl | rfl | rfl | rfl | rfl | rfl | rfl | rfl
    · exact na_CE_loose
    · exact na_CE_contents
    · exact na_CE_label
    · exact na_CE_size
    · exact na_CE_never_at
    · exact na_CE_still_at
    · exact na_CE_depth
    · exact na_CE_worth_names
    · exact na_CE_worth_places
    · exact na_CE_product_table
    · exact na_CE_join_table
  have nW_CE : ∀ f ∈ wnF, NoAttr K CE f := fun f hf => hN_CE f (List.mem_cons_of_mem _ hf)
  have n_CE : ∀ f ∈ scF, NoAttr K CE f := fun f hf => hN_CE f (List.mem_cons_of_mem _ (List.mem_cons_of_mem _ hf))
  have o_CE : ClsOk K CE := ⟨hC_CE, n_CE⟩
  have hC_CH : Cls K CH := ⟨pg_CH, hd_CH, po_CH, sa_CH⟩
  have hN_CH : ∀ f ∈ (["inner", "heaps", "label", "size", "never_at", "still_at", "depth", "worth_names", "worth_places", "product_table", "join_table"] : List Str), NoAttr K CH f := by
    intro f hf
    simp only [List.mem_cons, List.not_mem_nil, or_false] at hf
    rcases hf with rfl | rfl | rfl | rfl | rfl | rfl | rfl | rfl | rfl | rfl | rfl
    · exact na_CH_inner
    · exact na_CH_heaps
    · exact na_CH_label
    · exact na_CH_size
    · exact na_CH_never_at
    · exact na_CH_still_at
    · exact na_CH_depth
    · exact na_CH_worth_names
    · exact na_CH_worth_places
    · exact na_CH_product_table
    · exact na_CH_join_table
  have n_CH : ∀ f ∈ scF, NoAttr K CH f := fun f hf => hN_CH f (List.mem_cons_of_mem _ (List.mem_cons_of_mem _ hf))
  have o_CH : ClsOk K CH := ⟨hC_CH, n_CH⟩
  have F_Scale___init__ := mk_funD (v := .int 1) l_Scale___init__ c_Scale___init__ k_Scale___init__ lT ⟨_, rfl⟩
  have F_cut_down := fun_mk (st := s_cut_down) l_cut_down c_cut_down k_cut_down
  have F_number_name := fun_mk (st := s_number_name) l_number_name c_number_name k_number_name
  have b_cut_down := F_cut_down.binds (ps := ["number", "most"]) fun _ _ _ _ _ _ us hl => match us, hl with | [_, _], _ => rfl
  have c__cut_down : Callee l.prog w K mg base "cut_down" CX0 1 ["number", "most"] [] (spP PCut) := ⟨f_cut_down, _, [], PySem.W.mg_of X G a_f_cut_down, k_cut_down, ok_cut_down F_cut_down, b_cut_down, .nil⟩
  have b_number_name := F_number_name.binds (ps := ["number", "most"]) fun _ _ _ _ _ _ us hl => match us, hl with | [_, _], _ => rfl
  have c__number_name : Callee l.prog w K mg base "number_name" CX0 1 ["number", "most"] [] (spP PNum) := ⟨f_number_name, _, [], PySem.W.mg_of X G a_f_number_name, k_number_name, ok_number_name Z F_number_name, b_number_name, .nil⟩
  have F_digits_of := fun_mk (st := s_digits_of) l_digits_of c_digits_of k_digits_of
  have b_digits_of := F_digits_of.binds (ps := ["number", "width"]) fun _ _ _ _ _ _ us hl => match us, hl with | [_, _], _ => rfl
  have c__digits_of : Callee l.prog w K mg base "digits_of" CX0 1 ["number", "width"] [] (spP PDig) := ⟨f_digits_of, _, [], PySem.W.mg_of X G a_f_digits_of, k_digits_of, ok_digits_of Z F_digits_of, b_digits_of, .nil⟩
  have F_is_table_name := fun_mk (st := s_is_table_name) l_is_table_name c_is_table_name k_is_table_name
  have F_table_places := fun_mk (st := s_table_places) l_table_places c_table_places k_table_places
  have b_is_table_name := F_is_table_name.binds (ps := ["name"]) fun _ _ _ _ _ _ us hl => match us, hl with | [_], _ => rfl
  have c__is_table_name : Callee l.prog w K mg base "is_table_name" CX0 1 ["name"] [] (spP PIsN) := ⟨f_is_table_name, _, [], PySem.W.mg_of X G a_f_is_table_name, k_is_table_name, ok_is_table_name Z (PySem.W.mg_of X G gS) F_is_table_name, b_is_table_name, .nil⟩
  have b_table_places := F_table_places.binds (ps := ["places", "table"]) fun _ _ _ _ _ _ us hl => match us, hl with | [_, _], _ => rfl
  have c__table_places : Callee l.prog w K mg base "table_places" CX0 1 ["places", "table"] [] (spP PTp) := ⟨f_table_places, _, [], PySem.W.mg_of X G a_f_table_places, k_table_places, ok_table_places Z F_table_places, b_table_places, .nil⟩
  have F_depth_above := fun_mk (st := s_depth_above) l_depth_above c_depth_above k_depth_above
  have c__depth_above : CalleeR l.prog w K mg base "depth_above" CX0 2 (spP (PDepC K [CT, CP, CR, CC, CA, CV, CE, CH])) := ok_depth_above Z (PySem.W.mg_of X G gM) (PySem.W.mg_of X G gD) F_depth_above (PySem.W.mg_of X G a_f_depth_above) k_depth_above
  have F_half_places := fun_mk (st := s_half_places) l_half_places c_half_places k_half_places
  have b_half_places := F_half_places.binds (ps := ["place", "many"]) fun _ _ _ _ _ _ us hl => match us, hl with | [_, _], _ => rfl
  have c__half_places : Callee l.prog w K mg base "half_places" CX0 1 ["place", "many"] [] (spP PHalf) := ⟨f_half_places, _, [], PySem.W.mg_of X G a_f_half_places, k_half_places, ok_half F_half_places, b_half_places, .nil⟩
  have F_Scale_then_at := fun_mk (st := s_Scale_then_at) l_Scale_then_at c_Scale_then_at k_Scale_then_at
  have b_Scale_then_at := F_Scale_then_at.binds (ps := ["self", "first", "second"]) fun _ _ _ _ _ _ us hl => match us, hl with | [_, _, _], _ => rfl
  have c_CT_then_at : Method l.prog w K mg base CT "then_at" CX0 1 ["self", "first", "second"] [] (spP (PAt K fun th _ a b => .int (th a b))) := ⟨f_Scale_then_at, _, [], hC_CT, ⟨a_CT_f_Scale_then_at, i_Scale_then_at, k_Scale_then_at⟩, ok_then_at F_Scale_then_at, b_Scale_then_at, .nil⟩
  have c_CP_then_at : Method l.prog w K mg base CP "then_at" CX0 1 ["self", "first", "second"] [] (spP (PAt K fun th _ a b => .int (th a b))) := ⟨f_Scale_then_at, _, [], hC_CP, ⟨a_CP_f_Scale_then_at, i_Scale_then_at, k_Scale_then_at⟩, ok_then_at F_Scale_then_at, b_Scale_then_at, .nil⟩
  have c_CR_then_at : Method l.prog w K mg base CR "then_at" CX0 1 ["self", "first", "second"] [] (spP (PAt K fun th _ a b => .int (th a b))) := ⟨f_Scale_then_at, _, [], hC_CR, ⟨a_CR_f_Scale_then_at, i_Scale_then_at, k_Scale_then_at⟩, ok_then_at F_Scale_then_at, b_Scale_then_at, .nil⟩
  have c_CC_then_at : Method l.prog w K mg base CC "then_at" CX0 1 ["self", "first", "second"] [] (spP (PAt K fun th _ a b => .int (th a b))) := ⟨f_Scale_then_at, _, [], hC_CC, ⟨a_CC_f_Scale_then_at, i_Scale_then_at, k_Scale_then_at⟩, ok_then_at F_Scale_then_at, b_Scale_then_at, .nil⟩
  have c_CA_then_at : Method l.prog w K mg base CA "then_at" CX0 1 ["self", "first", "second"] [] (spP (PAt K fun th _ a b => .int (th a b))) := ⟨f_Scale_then_at, _, [], hC_CA, ⟨a_CA_f_Scale_then_at, i_Scale_then_at, k_Scale_then_at⟩, ok_then_at F_Scale_then_at, b_Scale_then_at, .nil⟩
  have c_CV_then_at : Method l.prog w K mg base CV "then_at" CX0 1 ["self", "first", "second"] [] (spP (PAt K fun th _ a b => .int (th a b))) := ⟨f_Scale_then_at, _, [], hC_CV, ⟨a_CV_f_Scale_then_at, i_Scale_then_at, k_Scale_then_at⟩, ok_then_at F_Scale_then_at, b_Scale_then_at, .nil⟩
  have c_CE_then_at : Method l.prog w K mg base CE "then_at" CX0 1 ["self", "first", "second"] [] (spP (PAt K fun th _ a b => .int (th a b))) := ⟨f_Scale_then_at, _, [], hC_CE, ⟨a_CE_f_Scale_then_at, i_Scale_then_at, k_Scale_then_at⟩, ok_then_at F_Scale_then_at, b_Scale_then_at, .nil⟩
  have c_CH_then_at : Method l.prog w K mg base CH "then_at" CX0 1 ["self", "first", "second"] [] (spP (PAt K fun th _ a b => .int (th a b))) := ⟨f_Scale_then_at, _, [], hC_CH, ⟨a_CH_f_Scale_then_at, i_Scale_then_at, k_Scale_then_at⟩, ok_then_at F_Scale_then_at, b_Scale_then_at, .nil⟩
  have c_then_at : ∀ C ∈ [CT, CP, CR, CC, CA, CV, CE, CH], Method l.prog w K mg base C "then_at" CX0 1 ["self", "first", "second"] [] (spP (PAt K fun th _ a b => .int (th a b))) := by
    intro C h
    simp only [List.mem_cons, List.not_mem_nil, or_false] at h
    rcases h with rfl | rfl | rfl | rfl | rfl | rfl | rfl | rfl
    · exact c_CT_then_at
    · exact c_CP_then_at
    · exact c_CR_then_at
    · exact c_CC_then_at
    · exact c_CA_then_at
    · exact c_CV_then_at
    · exact c_CE_then_at
    · exact c_CH_then_at
  have F_Scale_join_at := fun_mk (st := s_Scale_join_at) l_Scale_join_at c_Scale_join_at k_Scale_join_at
  have b_Scale_join_at := F_Scale_join_at.binds (ps := ["self", "first", "second"]) fun _ _ _ _ _ _ us hl => match us, hl with | [_, _, _], _ => rfl
  have c_CT_join_at : Method l.prog w K mg base CT "join_at" CX0 1 ["self", "first", "second"] [] (spP (PAt K fun _ jn a b => .int (jn a b))) := ⟨f_Scale_join_at, _, [], hC_CT, ⟨a_CT_f_Scale_join_at, i_Scale_join_at, k_Scale_join_at⟩, ok_join_at F_Scale_join_at, b_Scale_join_at, .nil⟩
  have c_CP_join_at : Method l.prog w K mg base CP "join_at" CX0 1 ["self", "first", "second"] [] (spP (PAt K fun _ jn a b => .int (jn a b))) := ⟨f_Scale_join_at, _, [], hC_CP, ⟨a_CP_f_Scale_join_at, i_Scale_join_at, k_Scale_join_at⟩, ok_join_at F_Scale_join_at, b_Scale_join_at, .nil⟩
  have c_CR_join_at : Method l.prog w K mg base CR "join_at" CX0 1 ["self", "first", "second"] [] (spP (PAt K fun _ jn a b => .int (jn a b))) := ⟨f_Scale_join_at, _, [], hC_CR, ⟨a_CR_f_Scale_join_at, i_Scale_join_at, k_Scale_join_at⟩, ok_join_at F_Scale_join_at, b_Scale_join_at, .nil⟩
  have c_CC_join_at : Method l.prog w K mg base CC "join_at" CX0 1 ["self", "first", "second"] [] (spP (PAt K fun _ jn a b => .int (jn a b))) := ⟨f_Scale_join_at, _, [], hC_CC, ⟨a_CC_f_Scale_join_at, i_Scale_join_at, k_Scale_join_at⟩, ok_join_at F_Scale_join_at, b_Scale_join_at, .nil⟩
  have c_CA_join_at : Method l.prog w K mg base CA "join_at" CX0 1 ["self", "first", "second"] [] (spP (PAt K fun _ jn a b => .int (jn a b))) := ⟨f_Scale_join_at, _, [], hC_CA, ⟨a_CA_f_Scale_join_at, i_Scale_join_at, k_Scale_join_at⟩, ok_join_at F_Scale_join_at, b_Scale_join_at, .nil⟩
  have c_CV_join_at : Method l.prog w K mg base CV "join_at" CX0 1 ["self", "first", "second"] [] (spP (PAt K fun _ jn a b => .int (jn a b))) := ⟨f_Scale_join_at, _, [], hC_CV, ⟨a_CV_f_Scale_join_at, i_Scale_join_at, k_Scale_join_at⟩, ok_join_at F_Scale_join_at, b_Scale_join_at, .nil⟩
  have c_CE_join_at : Method l.prog w K mg base CE "join_at" CX0 1 ["self", "first", "second"] [] (spP (PAt K fun _ jn a b => .int (jn a b))) := ⟨f_Scale_join_at, _, [], hC_CE, ⟨a_CE_f_Scale_join_at, i_Scale_join_at, k_Scale_join_at⟩, ok_join_at F_Scale_join_at, b_Scale_join_at, .nil⟩
  have c_CH_join_at : Method l.prog w K mg base CH "join_at" CX0 1 ["self", "first", "second"] [] (spP (PAt K fun _ jn a b => .int (jn a b))) := ⟨f_Scale_join_at, _, [], hC_CH, ⟨a_CH_f_Scale_join_at, i_Scale_join_at, k_Scale_join_at⟩, ok_join_at F_Scale_join_at, b_Scale_join_at, .nil⟩
  have c_join_at : ∀ C ∈ [CT, CP, CR, CC, CA, CV, CE, CH], Method l.prog w K mg base C "join_at" CX0 1 ["self", "first", "second"] [] (spP (PAt K fun _ jn a b => .int (jn a b))) := by
    intro C h
    simp only [List.mem_cons, List.not_mem_nil, or_false] at h
    rcases h with rfl | rfl | rfl | rfl | rfl | rfl | rfl | rfl
    · exact c_CT_join_at
    · exact c_CP_join_at
    · exact c_CR_join_at
    · exact c_CC_join_at
    · exact c_CA_join_at
    · exact c_CV_join_at
    · exact c_CE_join_at
    · exact c_CH_join_at
  have F_Scale_name_at := fun_mk (st := s_Scale_name_at) l_Scale_name_at c_Scale_name_at k_Scale_name_at
  have b_Scale_name_at := F_Scale_name_at.binds (ps := ["self", "place"]) fun _ _ _ _ _ _ us hl => match us, hl with | [_, _], _ => rfl
  have c_CT_name_at : Method l.prog w K mg base CT "name_at" CX0 1 ["self", "place"] [] (spP (PName K)) := ⟨f_Scale_name_at, _, [], hC_CT, ⟨a_CT_f_Scale_name_at, i_Scale_name_at, k_Scale_name_at⟩, ok_name_at F_Scale_name_at, b_Scale_name_at, .nil⟩
  have c_CP_name_at : Method l.prog w K mg base CP "name_at" CX0 1 ["self", "place"] [] (spP (PName K)) := ⟨f_Scale_name_at, _, [], hC_CP, ⟨a_CP_f_Scale_name_at, i_Scale_name_at, k_Scale_name_at⟩, ok_name_at F_Scale_name_at, b_Scale_name_at, .nil⟩
  have c_CR_name_at : Method l.prog w K mg base CR "name_at" CX0 1 ["self", "place"] [] (spP (PName K)) := ⟨f_Scale_name_at, _, [], hC_CR, ⟨a_CR_f_Scale_name_at, i_Scale_name_at, k_Scale_name_at⟩, ok_name_at F_Scale_name_at, b_Scale_name_at, .nil⟩
  have c_CC_name_at : Method l.prog w K mg base CC "name_at" CX0 1 ["self", "place"] [] (spP (PName K)) := ⟨f_Scale_name_at, _, [], hC_CC, ⟨a_CC_f_Scale_name_at, i_Scale_name_at, k_Scale_name_at⟩, ok_name_at F_Scale_name_at, b_Scale_name_at, .nil⟩
  have c_CA_name_at : Method l.prog w K mg base CA "name_at" CX0 1 ["self", "place"] [] (spP (PName K)) := ⟨f_Scale_name_at, _, [], hC_CA, ⟨a_CA_f_Scale_name_at, i_Scale_name_at, k_Scale_name_at⟩, ok_name_at F_Scale_name_at, b_Scale_name_at, .nil⟩
  have c_CV_name_at : Method l.prog w K mg base CV "name_at" CX0 1 ["self", "place"] [] (spP (PName K)) := ⟨f_Scale_name_at, _, [], hC_CV, ⟨a_CV_f_Scale_name_at, i_Scale_name_at, k_Scale_name_at⟩, ok_name_at F_Scale_name_at, b_Scale_name_at, .nil⟩
  have c_CE_name_at : Method l.prog w K mg base CE "name_at" CX0 1 ["self", "place"] [] (spP (PName K)) := ⟨f_Scale_name_at, _, [], hC_CE, ⟨a_CE_f_Scale_name_at, i_Scale_name_at, k_Scale_name_at⟩, ok_name_at F_Scale_name_at, b_Scale_name_at, .nil⟩
  have c_CH_name_at : Method l.prog w K mg base CH "name_at" CX0 1 ["self", "place"] [] (spP (PName K)) := ⟨f_Scale_name_at, _, [], hC_CH, ⟨a_CH_f_Scale_name_at, i_Scale_name_at, k_Scale_name_at⟩, ok_name_at F_Scale_name_at, b_Scale_name_at, .nil⟩
  have c_name_at : ∀ C ∈ [CT, CP, CR, CC, CA, CV, CE, CH], Method l.prog w K mg base C "name_at" CX0 1 ["self", "place"] [] (spP (PName K)) := by
    intro C h
    simp only [List.mem_cons, List.not_mem_nil, or_false] at h
    rcases h with rfl | rfl | rfl | rfl | rfl | rfl | rfl | rfl
    · exact c_CT_name_at
    · exact c_CP_name_at
    · exact c_CR_name_at
    · exact c_CC_name_at
    · exact c_CA_name_at
    · exact c_CV_name_at
    · exact c_CE_name_at
    · exact c_CH_name_at
  have F_TableScale_make_then := fun_mk (st := s_TableScale_make_then) l_TableScale_make_then c_TableScale_make_then k_TableScale_make_then
  have b_TableScale_make_then := F_TableScale_make_then.binds (ps := ["self", "first", "second"]) fun _ _ _ _ _ _ us hl => match us, hl with | [_, _, _], _ => rfl
  have c_CT_make_then : Method l.prog w K mg base CT "make_then" CX0 5 ["self", "first", "second"] [] (spP (PTbM CT "written_products")) := ⟨f_TableScale_make_then, _, [], hC_CT, ⟨a_CT_f_TableScale_make_then, i_TableScale_make_then, k_TableScale_make_then⟩, ok_tb_then hC_CT (hN_CT _ (by simp)) F_TableScale_make_then, b_TableScale_make_then, .nil⟩
  have F_TableScale_make_join := fun_mk (st := s_TableScale_make_join) l_TableScale_make_join c_TableScale_make_join k_TableScale_make_join
  have b_TableScale_make_join := F_TableScale_make_join.binds (ps := ["self", "first", "second"]) fun _ _ _ _ _ _ us hl => match us, hl with | [_, _, _], _ => rfl
  have c_CT_make_join : Method l.prog w K mg base CT "make_join" CX0 5 ["self", "first", "second"] [] (spP (PTbM CT "written_joins")) := ⟨f_TableScale_make_join, _, [], hC_CT, ⟨a_CT_f_TableScale_make_join, i_TableScale_make_join, k_TableScale_make_join⟩, ok_tb_join hC_CT (hN_CT _ (by simp)) F_TableScale_make_join, b_TableScale_make_join, .nil⟩
  have s_CT : SupC l.prog w K mg base f_Scale___init__ CX0 6 ["self", "label", "names", "never_at", "still_at", "depth"] [.int 1] (spI (PScI K CT (PTbM CT "written_products") (PTbM CT "written_joins"))) := by
    obtain ⟨ds, r, b⟩ := bind_Scale F_Scale___init__
    exact ⟨_, ds, ok_Scale_init Z hC_CT n_CT c_CT_make_then c_CT_make_join F_Scale___init__, b, r, fiS, tyS⟩
  have F_PairScale_make_then := fun_mk (st := s_PairScale_make_then) l_PairScale_make_then c_PairScale_make_then k_PairScale_make_then
  have b_PairScale_make_then := F_PairScale_make_then.binds (ps := ["self", "first", "second"]) fun _ _ _ _ _ _ us hl => match us, hl with | [_, _, _], _ => rfl
  have c_CP_make_then : Method l.prog w K mg base CP "make_then" CX0 5 ["self", "first", "second"] [] (spP (PPrM K [CT, CP, CR, CC, CA, CV, CE, CH] CP SD.th)) := ⟨f_PairScale_make_then, _, [], hC_CP, ⟨a_CP_f_PairScale_make_then, i_PairScale_make_then, k_PairScale_make_then⟩, ok_pair_then hC_CP (hN_CP _ (by simp)) (hN_CP _ (by simp)) c__half_places c_then_at F_PairScale_make_then, b_PairScale_make_then, .nil⟩
  have F_PairScale_make_join := fun_mk (st := s_PairScale_make_join) l_PairScale_make_join c_PairScale_make_join k_PairScale_make_join
  have b_PairScale_make_join := F_PairScale_make_join.binds (ps := ["self", "first", "second"]) fun _ _ _ _ _ _ us hl => match us, hl with | [_, _, _], _ => rfl
  have c_CP_make_join : Method l.prog w K mg base CP "make_join" CX0 5 ["self", "first", "second"] [] (spP (PPrM K [CT, CP, CR, CC, CA, CV, CE, CH] CP SD.jn)) := ⟨f_PairScale_make_join, _, [], hC_CP, ⟨a_CP_f_PairScale_make_join, i_PairScale_make_join, k_PairScale_make_join⟩, ok_pair_join hC_CP (hN_CP _ (by simp)) (hN_CP _ (by simp)) c__half_places c_join_at F_PairScale_make_join, b_PairScale_make_join, .nil⟩
  have s_CP : SupC l.prog w K mg base f_Scale___init__ CX0 6 ["self", "label", "names", "never_at", "still_at", "depth"] [] (spI (PScI K CP (PPrM K [CT, CP, CR, CC, CA, CV, CE, CH] CP SD.th) (PPrM K [CT, CP, CR, CC, CA, CV, CE, CH] CP SD.jn))) := by
    obtain ⟨ds, r, b⟩ := bind_Scale6 F_Scale___init__
    exact ⟨_, ds, ok_Scale_init Z hC_CP n_CP c_CP_make_then c_CP_make_join F_Scale___init__, b, r, fiS, tyS⟩
  have F_TurnedScale_make_then := fun_mk (st := s_TurnedScale_make_then) l_TurnedScale_make_then c_TurnedScale_make_then k_TurnedScale_make_then
  have b_TurnedScale_make_then := F_TurnedScale_make_then.binds (ps := ["self", "first", "second"]) fun _ _ _ _ _ _ us hl => match us, hl with | [_, _, _], _ => rfl
  have c_CR_make_then : Method l.prog w K mg base CR "make_then" CX0 5 ["self", "first", "second"] [] (spP (PTuM K [CT, CP, CR, CC, CA, CV, CE, CH] CR SD.th)) := ⟨f_TurnedScale_make_then, _, [], hC_CR, ⟨a_CR_f_TurnedScale_make_then, i_TurnedScale_make_then, k_TurnedScale_make_then⟩, ok_turn_then hC_CR (hN_CR _ (by simp)) c_then_at F_TurnedScale_make_then, b_TurnedScale_make_then, .nil⟩
  have F_TurnedScale_make_join := fun_mk (st := s_TurnedScale_make_join) l_TurnedScale_make_join c_TurnedScale_make_join k_TurnedScale_make_join
  have b_TurnedScale_make_join := F_TurnedScale_make_join.binds (ps := ["self", "first", "second"]) fun _ _ _ _ _ _ us hl => match us, hl with | [_, _, _], _ => rfl
  have c_CR_make_join : Method l.prog w K mg base CR "make_join" CX0 5 ["self", "first", "second"] [] (spP (PTuM K [CT, CP, CR, CC, CA, CV, CE, CH] CR SD.jn)) := ⟨f_TurnedScale_make_join, _, [], hC_CR, ⟨a_CR_f_TurnedScale_make_join, i_TurnedScale_make_join, k_TurnedScale_make_join⟩, ok_turn_join hC_CR (hN_CR _ (by simp)) c_join_at F_TurnedScale_make_join, b_TurnedScale_make_join, .nil⟩
  have s_CR : SupC l.prog w K mg base f_Scale___init__ CX0 6 ["self", "label", "names", "never_at", "still_at", "depth"] [] (spI (PScI K CR (PTuM K [CT, CP, CR, CC, CA, CV, CE, CH] CR SD.th) (PTuM K [CT, CP, CR, CC, CA, CV, CE, CH] CR SD.jn))) := by
    obtain ⟨ds, r, b⟩ := bind_Scale6 F_Scale___init__
    exact ⟨_, ds, ok_Scale_init Z hC_CR n_CR c_CR_make_then c_CR_make_join F_Scale___init__, b, r, fiS, tyS⟩
  have F_CountScale_behind := fun_mk (st := s_CountScale_behind) l_CountScale_behind c_CountScale_behind k_CountScale_behind
  have b_CountScale_behind := F_CountScale_behind.binds (ps := ["self", "first", "second"]) fun _ _ _ _ _ _ us hl => match us, hl with | [_, _, _], _ => rfl
  have c_CC_behind : Method l.prog w K mg base CC "behind" CX0 3 ["self", "first", "second"] [] (spP (PBeh CC)) := ⟨f_CountScale_behind, _, [], hC_CC, ⟨a_CC_f_CountScale_behind, i_CountScale_behind, k_CountScale_behind⟩, ok_behind hC_CC (hN_CC _ (by simp)) c__cut_down F_CountScale_behind, b_CountScale_behind, .nil⟩
  have F_CountScale_either := fun_mk (st := s_CountScale_either) l_CountScale_either c_CountScale_either k_CountScale_either
  have b_CountScale_either := F_CountScale_either.binds (ps := ["self", "first", "second"]) fun _ _ _ _ _ _ us hl => match us, hl with | [_, _, _], _ => rfl
  have c_CC_either : Method l.prog w K mg base CC "either" CX0 3 ["self", "first", "second"] [] (spP (PEit CC)) := ⟨f_CountScale_either, _, [], hC_CC, ⟨a_CC_f_CountScale_either, i_CountScale_either, k_CountScale_either⟩, ok_either hC_CC (hN_CC _ (by simp)) F_CountScale_either, b_CountScale_either, .nil⟩
  have F_WithNever_make_then := fun_mk (st := s_WithNever_make_then) l_WithNever_make_then c_WithNever_make_then k_WithNever_make_then
  have b_WithNever_make_then := F_WithNever_make_then.binds (ps := ["self", "first", "second"]) fun _ _ _ _ _ _ us hl => match us, hl with | [_, _, _], _ => rfl
  have c_CC_make_then : Method l.prog w K mg base CC "make_then" CX0 5 ["self", "first", "second"] [] (spP (PMk K CC "behind" (PBeh CC) fun _ _ => 0)) := ⟨f_WithNever_make_then, _, [], hC_CC, ⟨a_CC_f_WithNever_make_then, i_WithNever_make_then, k_WithNever_make_then⟩, ok_make_then hC_CC (nW_CC _ (by decide)) c_CC_behind F_WithNever_make_then, b_WithNever_make_then, .nil⟩
  have F_WithNever_make_join := fun_mk (st := s_WithNever_make_join) l_WithNever_make_join c_WithNever_make_join k_WithNever_make_join
  have b_WithNever_make_join := F_WithNever_make_join.binds (ps := ["self", "first", "second"]) fun _ _ _ _ _ _ us hl => match us, hl with | [_, _, _], _ => rfl
  have c_CC_make_join : Method l.prog w K mg base CC "make_join" CX0 5 ["self", "first", "second"] [] (spP (PMk K CC "either" (PEit CC) fun a b => (a : Int) + b)) := ⟨f_WithNever_make_join, _, [], hC_CC, ⟨a_CC_f_WithNever_make_join, i_WithNever_make_join, k_WithNever_make_join⟩, ok_make_join hC_CC (nW_CC _ (by decide)) c_CC_either F_WithNever_make_join, b_WithNever_make_join, .nil⟩
  have s_CC : SupC l.prog w K mg base f_Scale___init__ CX0 6 ["self", "label", "names", "never_at", "still_at", "depth"] [.int 1] (spI (PScI K CC (PMk K CC "behind" (PBeh CC) fun _ _ => 0) (PMk K CC "either" (PEit CC) fun a b => (a : Int) + b))) := by
    obtain ⟨ds, r, b⟩ := bind_Scale F_Scale___init__
    exact ⟨_, ds, ok_Scale_init Z hC_CC n_CC c_CC_make_then c_CC_make_join F_Scale___init__, b, r, fiS, tyS⟩
  have F_SpanScale_behind := fun_mk (st := s_SpanScale_behind) l_SpanScale_behind c_SpanScale_behind k_SpanScale_behind
  have b_SpanScale_behind := F_SpanScale_behind.binds (ps := ["self", "first", "second"]) fun _ _ _ _ _ _ us hl => match us, hl with | [_, _, _], _ => rfl
  have c_CA_behind : Method l.prog w K mg base CA "behind" CX0 3 ["self", "first", "second"] [] (spP (PSpB CA)) := ⟨f_SpanScale_behind, _, [], hC_CA, ⟨a_CA_f_SpanScale_behind, i_SpanScale_behind, k_SpanScale_behind⟩, ok_sp_behind hC_CA (hN_CA _ (by simp)) c__cut_down F_SpanScale_behind, b_SpanScale_behind, .nil⟩
  have F_SpanScale_either := fun_mk (st := s_SpanScale_either) l_SpanScale_either c_SpanScale_either k_SpanScale_either
  have b_SpanScale_either := F_SpanScale_either.binds (ps := ["self", "first", "second"]) fun _ _ _ _ _ _ us hl => match us, hl with | [_, _, _], _ => rfl
  have c_CA_either : Method l.prog w K mg base CA "either" CX0 3 ["self", "first", "second"] [] (spP PSpE) := ⟨f_SpanScale_either, _, [], hC_CA, ⟨a_CA_f_SpanScale_either, i_SpanScale_either, k_SpanScale_either⟩, ok_sp_either F_SpanScale_either, b_SpanScale_either, .nil⟩
  have c_CA_make_then : Method l.prog w K mg base CA "make_then" CX0 5 ["self", "first", "second"] [] (spP (PMk K CA "behind" (PSpB CA) fun _ _ => 0)) := ⟨f_WithNever_make_then, _, [], hC_CA, ⟨a_CA_f_WithNever_make_then, i_WithNever_make_then, k_WithNever_make_then⟩, ok_make_then hC_CA (nW_CA _ (by decide)) c_CA_behind F_WithNever_make_then, b_WithNever_make_then, .nil⟩
  have c_CA_make_join : Method l.prog w K mg base CA "make_join" CX0 5 ["self", "first", "second"] [] (spP (PMk K CA "either" PSpE fun a b => (a : Int) + b)) := ⟨f_WithNever_make_join, _, [], hC_CA, ⟨a_CA_f_WithNever_make_join, i_WithNever_make_join, k_WithNever_make_join⟩, ok_make_join hC_CA (nW_CA _ (by decide)) c_CA_either F_WithNever_make_join, b_WithNever_make_join, .nil⟩
  have s_CA : SupC l.prog w K mg base f_Scale___init__ CX0 6 ["self", "label", "names", "never_at", "still_at", "depth"] [.int 1] (spI (PScI K CA (PMk K CA "behind" (PSpB CA) fun _ _ => 0) (PMk K CA "either" PSpE fun a b => (a : Int) + b))) := by
    obtain ⟨ds, r, b⟩ := bind_Scale F_Scale___init__
    exact ⟨_, ds, ok_Scale_init Z hC_CA n_CA c_CA_make_then c_CA_make_join F_Scale___init__, b, r, fiS, tyS⟩
  have F_WatchScale_arrows := fun_mk (st := s_WatchScale_arrows) l_WatchScale_arrows c_WatchScale_arrows k_WatchScale_arrows
  have b_WatchScale_arrows := F_WatchScale_arrows.binds (ps := ["self", "place"]) fun _ _ _ _ _ _ us hl => match us, hl with | [_, _], _ => rfl
  have c_CV_arrows : Method l.prog w K mg base CV "arrows" CX0 3 ["self", "place"] [] (spP (PArr CV)) := ⟨f_WatchScale_arrows, _, [], hC_CV, ⟨a_CV_f_WatchScale_arrows, i_WatchScale_arrows, k_WatchScale_arrows⟩, ok_arrows Z hC_CV (hN_CV _ (by simp)) F_WatchScale_arrows, b_WatchScale_arrows, .nil⟩
  have F_WatchScale_make_then := fun_mk (st := s_WatchScale_make_then) l_WatchScale_make_then c_WatchScale_make_then k_WatchScale_make_then
  have b_WatchScale_make_then := F_WatchScale_make_then.binds (ps := ["self", "first", "second"]) fun _ _ _ _ _ _ us hl => match us, hl with | [_, _, _], _ => rfl
  have c_CV_make_then : Method l.prog w K mg base CV "make_then" CX0 5 ["self", "first", "second"] [] (spP (PWt CV)) := ⟨f_WatchScale_make_then, _, [], hC_CV, ⟨a_CV_f_WatchScale_make_then, i_WatchScale_make_then, k_WatchScale_make_then⟩, ok_w_then Z hC_CV (hN_CV _ (by simp)) c_CV_arrows F_WatchScale_make_then, b_WatchScale_make_then, .nil⟩
  have F_WatchScale_make_join := fun_mk (st := s_WatchScale_make_join) l_WatchScale_make_join c_WatchScale_make_join k_WatchScale_make_join
  have b_WatchScale_make_join := F_WatchScale_make_join.binds (ps := ["self", "first", "second"]) fun _ _ _ _ _ _ us hl => match us, hl with | [_, _, _], _ => rfl
  have c_CV_make_join : Method l.prog w K mg base CV "make_join" CX0 5 ["self", "first", "second"] [] (spP PWj) := ⟨f_WatchScale_make_join, _, [], hC_CV, ⟨a_CV_f_WatchScale_make_join, i_WatchScale_make_join, k_WatchScale_make_join⟩, ok_w_join F_WatchScale_make_join, b_WatchScale_make_join, .nil⟩
  have s_CV : SupC l.prog w K mg base f_Scale___init__ CX0 6 ["self", "label", "names", "never_at", "still_at", "depth"] [.int 1] (spI (PScI K CV (PWt CV) PWj)) := by
    obtain ⟨ds, r, b⟩ := bind_Scale F_Scale___init__
    exact ⟨_, ds, ok_Scale_init Z hC_CV n_CV c_CV_make_then c_CV_make_join F_Scale___init__, b, r, fiS, tyS⟩
  have F_SetScale_behind := fun_mk (st := s_SetScale_behind) l_SetScale_behind c_SetScale_behind k_SetScale_behind
  have b_SetScale_behind := F_SetScale_behind.binds (ps := ["self", "first", "second"]) fun _ _ _ _ _ _ us hl => match us, hl with | [_, _, _], _ => rfl
  have c_CE_behind : Method l.prog w K mg base CE "behind" CX0 3 ["self", "first", "second"] [] (spP PStB) := ⟨f_SetScale_behind, _, [], hC_CE, ⟨a_CE_f_SetScale_behind, i_SetScale_behind, k_SetScale_behind⟩, ok_t_behind F_SetScale_behind, b_SetScale_behind, .nil⟩
  have F_SetScale_either := fun_mk (st := s_SetScale_either) l_SetScale_either c_SetScale_either k_SetScale_either
  have b_SetScale_either := F_SetScale_either.binds (ps := ["self", "first", "second"]) fun _ _ _ _ _ _ us hl => match us, hl with | [_, _, _], _ => rfl
  have c_CE_either : Method l.prog w K mg base CE "either" CX0 3 ["self", "first", "second"] [] (spP (PStE CE)) := ⟨f_SetScale_either, _, [], hC_CE, ⟨a_CE_f_SetScale_either, i_SetScale_either, k_SetScale_either⟩, ok_t_either hC_CE (hN_CE _ (by simp)) F_SetScale_either, b_SetScale_either, .nil⟩
  have c_CE_make_then : Method l.prog w K mg base CE "make_then" CX0 5 ["self", "first", "second"] [] (spP (PMk K CE "behind" PStB fun _ _ => 0)) := ⟨f_WithNever_make_then, _, [], hC_CE, ⟨a_CE_f_WithNever_make_then, i_WithNever_make_then, k_WithNever_make_then⟩, ok_make_then hC_CE (nW_CE _ (by decide)) c_CE_behind F_WithNever_make_then, b_WithNever_make_then, .nil⟩
  have c_CE_make_join : Method l.prog w K mg base CE "make_join" CX0 5 ["self", "first", "second"] [] (spP (PMk K CE "either" (PStE CE) fun a b => (a : Int) + b)) := ⟨f_WithNever_make_join, _, [], hC_CE, ⟨a_CE_f_WithNever_make_join, i_WithNever_make_join, k_WithNever_make_join⟩, ok_make_join hC_CE (nW_CE _ (by decide)) c_CE_either F_WithNever_make_join, b_WithNever_make_join, .nil⟩
  have s_CE : SupC l.prog w K mg base f_Scale___init__ CX0 6 ["self", "label", "names", "never_at", "still_at", "depth"] [.int 1] (spI (PScI K CE (PMk K CE "behind" PStB fun _ _ => 0) (PMk K CE "either" (PStE CE) fun a b => (a : Int) + b))) := by
    obtain ⟨ds, r, b⟩ := bind_Scale F_Scale___init__
    exact ⟨_, ds, ok_Scale_init Z hC_CE n_CE c_CE_make_then c_CE_make_join F_Scale___init__, b, r, fiS, tyS⟩
  have F_HeapScale_make_then := fun_mk (st := s_HeapScale_make_then) l_HeapScale_make_then c_HeapScale_make_then k_HeapScale_make_then
  have b_HeapScale_make_then := F_HeapScale_make_then.binds (ps := ["self", "first", "second"]) fun _ _ _ _ _ _ us hl => match us, hl with | [_, _, _], _ => rfl
  have c_CH_make_then : Method l.prog w K mg base CH "make_then" CX0 5 ["self", "first", "second"] [] (spP (PHpM K [CT, CP, CR, CC, CA, CV, CE, CH] CH)) := ⟨f_HeapScale_make_then, _, [], hC_CH, ⟨a_CH_f_HeapScale_make_then, i_HeapScale_make_then, k_HeapScale_make_then⟩, ok_heap_then hC_CH (hN_CH _ (by simp)) (hN_CH _ (by simp)) c_then_at F_HeapScale_make_then, b_HeapScale_make_then, .nil⟩
  have F_HeapScale_make_join := fun_mk (st := s_HeapScale_make_join) l_HeapScale_make_join c_HeapScale_make_join k_HeapScale_make_join
  have b_HeapScale_make_join := F_HeapScale_make_join.binds (ps := ["self", "first", "second"]) fun _ _ _ _ _ _ us hl => match us, hl with | [_, _, _], _ => rfl
  have c_CH_make_join : Method l.prog w K mg base CH "make_join" CX0 5 ["self", "first", "second"] [] (spP PHpJ) := ⟨f_HeapScale_make_join, _, [], hC_CH, ⟨a_CH_f_HeapScale_make_join, i_HeapScale_make_join, k_HeapScale_make_join⟩, ok_heap_join F_HeapScale_make_join, b_HeapScale_make_join, .nil⟩
  have s_CH : SupC l.prog w K mg base f_Scale___init__ CX0 6 ["self", "label", "names", "never_at", "still_at", "depth"] [] (spI (PScI K CH (PHpM K [CT, CP, CR, CC, CA, CV, CE, CH] CH) PHpJ)) := by
    obtain ⟨ds, r, b⟩ := bind_Scale6 F_Scale___init__
    exact ⟨_, ds, ok_Scale_init Z hC_CH n_CH c_CH_make_then c_CH_make_join F_Scale___init__, b, r, fiS, tyS⟩
  have F_WithNever___init__ := mk_funS (P := l.prog) (kws := []) l_WithNever___init__ c_WithNever___init__ lc_WithNever___init__ hv_WithNever___init__ hf_WithNever___init__ lx_WithNever___init__ lD_WithNever___init__ k_WithNever___init__ fi2_WithNever___init__ ty_WithNever___init__ kwd_none
  have w_CC : SupC l.prog w K mg base f_WithNever___init__ (L2.CX l.prog w) 8 ["self", "label", "contents", "words"] [] (spI (PWnI K CC (PMk K CC "behind" (PBeh CC) fun _ _ => 0) (PMk K CC "either" (PEit CC) fun a b => (a : Int) + b))) := ⟨_, [], ok_WithNever_init Z hC_CC nW_CC opq top0 mW_CC sW_CC s_CC F_WithNever___init__, bind_Wn F_WithNever___init__, .nil, fi2_WithNever___init__, ty_WithNever___init__⟩
  have w_CA : SupC l.prog w K mg base f_WithNever___init__ (L2.CX l.prog w) 8 ["self", "label", "contents", "words"] [] (spI (PWnI K CA (PMk K CA "behind" (PSpB CA) fun _ _ => 0) (PMk K CA "either" PSpE fun a b => (a : Int) + b))) := ⟨_, [], ok_WithNever_init Z hC_CA nW_CA opq top0 mW_CA sW_CA s_CA F_WithNever___init__, bind_Wn F_WithNever___init__, .nil, fi2_WithNever___init__, ty_WithNever___init__⟩
  have w_CE : SupC l.prog w K mg base f_WithNever___init__ (L2.CX l.prog w) 8 ["self", "label", "contents", "words"] [] (spI (PWnI K CE (PMk K CE "behind" PStB fun _ _ => 0) (PMk K CE "either" (PStE CE) fun a b => (a : Int) + b))) := ⟨_, [], ok_WithNever_init Z hC_CE nW_CE opq top0 mW_CE sW_CE s_CE F_WithNever___init__, bind_Wn F_WithNever___init__, .nil, fi2_WithNever___init__, ty_WithNever___init__⟩
  have F_TableScale___init__ := mk_funS (P := l.prog) (kws := []) l_TableScale___init__ c_TableScale___init__ lc_TableScale___init__ hv_TableScale___init__ hf_TableScale___init__ lx_TableScale___init__ lD_TableScale___init__ k_TableScale___init__ fi2_TableScale___init__ ty_TableScale___init__ kwd_none
  have ok_CT := ok_TableScale_init Z hC_CT hN_CT opq top0 mCT sCT s_CT c__is_table_name c__table_places F_TableScale___init__ (w := w) (base := base)
  have M_CT : Mk K CT f_TableScale___init__ := ⟨mk_CT, a_f_TableScale___init__, fnCT, kp_CT⟩
  have mkK_CT : MakerK l.prog w K mg base "TableScale" CT (L2.CX l.prog w) 10 ["self", "names", "joins", "products", "never", "still"] 3 ["never", "still"] (fun vs zs => vs ++ zs) (spI (PTbI CT)) := ⟨_, _, _, PySem.W.mg_of X G a_CT, M_CT, ok_CT, bindK_Tb F_TableScale___init__⟩
  have F_PairScale___init__ := mk_funS (P := l.prog) (kws := []) l_PairScale___init__ c_PairScale___init__ lc_PairScale___init__ hv_PairScale___init__ hf_PairScale___init__ lx_PairScale___init__ lD_PairScale___init__ k_PairScale___init__ fi2_PairScale___init__ ty_PairScale___init__ kwd_none
  have ok_CP := ok_PairScale_init Z hC_CP hN_CP opq top0 mCP sCP s_CP c__depth_above c_name_at F_PairScale___init__ (w := w) (base := base)
  have M_CP : Mk K CP f_PairScale___init__ := ⟨mk_CP, a_f_PairScale___init__, fnCP, kp_CP⟩
  have mk_CP : Maker l.prog w K mg base "PairScale" CP (L2.CX l.prog w) 10 ["self", "left", "right"] [] (spI (PPrI K [CT, CP, CR, CC, CA, CV, CE, CH] CP)) := ⟨_, _, [], PySem.W.mg_of X G a_CP, M_CP, ok_CP, bind_Pr F_PairScale___init__, .nil⟩
  have F_TurnedScale___init__ := mk_funS (P := l.prog) (kws := []) l_TurnedScale___init__ c_TurnedScale___init__ lc_TurnedScale___init__ hv_TurnedScale___init__ hf_TurnedScale___init__ lx_TurnedScale___init__ lD_TurnedScale___init__ k_TurnedScale___init__ fi2_TurnedScale___init__ ty_TurnedScale___init__ kwd_none
  have ok_CR := ok_TurnedScale_init Z hC_CR hN_CR opq top0 mCR sCR s_CR c__depth_above c_name_at F_TurnedScale___init__ (w := w) (base := base)
  have M_CR : Mk K CR f_TurnedScale___init__ := ⟨mk_CR, a_f_TurnedScale___init__, fnCR, kp_CR⟩
  have mk_CR : Maker l.prog w K mg base "TurnedScale" CR (L2.CX l.prog w) 10 ["self", "inner"] [] (spI (PTuI K [CT, CP, CR, CC, CA, CV, CE, CH] CR)) := ⟨_, _, [], PySem.W.mg_of X G a_CR, M_CR, ok_CR, bind_Tu F_TurnedScale___init__, .nil⟩
  have F_CountScale___init__ := mk_funS (P := l.prog) (kws := [("order", .str "up")]) l_CountScale___init__ c_CountScale___init__ lc_CountScale___init__ hv_CountScale___init__ hf_CountScale___init__ lx_CountScale___init__ lD_CountScale___init__ k_CountScale___init__ fi2_CountScale___init__ ty_CountScale___init__ (kwd_one kw_CountScale___init__ ⟨_, rfl⟩)
  have ok_CC := ok_CountScale_init Z (PySem.W.mg_of X G gM) hC_CC hN_CC opq top0 mCC sCC w_CC c__number_name F_CountScale___init__ (w := w) (base := base)
  have M_CC : Mk K CC f_CountScale___init__ := ⟨mk_CC, a_f_CountScale___init__, fnCC, kp_CC⟩
  have mkK_CC : MakerK l.prog w K mg base "CountScale" CC (L2.CX l.prog w) 10 ["self", "most", "order"] 1 ["order"] (fun vs zs => vs ++ zs) (spI (PCsI CC)) := by
    obtain ⟨g, hg⟩ := bindK_Cs F_CountScale___init__
    exact ⟨_, _, g, PySem.W.mg_of X G a_CC, M_CC, ok_CC, hg⟩
  have mk_CC : Maker l.prog w K mg base "CountScale" CC (L2.CX l.prog w) 10 ["self", "most", "order"] [.str "up"] (spI (PCsI CC)) := by
    obtain ⟨ds, r, b⟩ := bind_Cs F_CountScale___init__
    exact ⟨_, _, ds, PySem.W.mg_of X G a_CC, M_CC, ok_CC, b, r⟩
  have F_SpanScale___init__ := mk_funS (P := l.prog) (kws := []) l_SpanScale___init__ c_SpanScale___init__ lc_SpanScale___init__ hv_SpanScale___init__ hf_SpanScale___init__ lx_SpanScale___init__ lD_SpanScale___init__ k_SpanScale___init__ fi2_SpanScale___init__ ty_SpanScale___init__ kwd_none
  have ok_CA := ok_SpanScale_init Z (PySem.W.mg_of X G gM) hC_CA hN_CA opq top0 mCA sCA w_CA c__number_name F_SpanScale___init__ (w := w) (base := base)
  have M_CA : Mk K CA f_SpanScale___init__ := ⟨mk_CA, a_f_SpanScale___init__, fnCA, kp_CA⟩
  have mk_CA : Maker l.prog w K mg base "SpanScale" CA (L2.CX l.prog w) 10 ["self", "most"] [] (spI (PSpI CA)) := ⟨_, _, [], PySem.W.mg_of X G a_CA, M_CA, ok_CA, bind_Sp F_SpanScale___init__, .nil⟩
  have F_WatchScale___init__ := mk_funS (P := l.prog) (kws := []) l_WatchScale___init__ c_WatchScale___init__ lc_WatchScale___init__ hv_WatchScale___init__ hf_WatchScale___init__ lx_WatchScale___init__ lD_WatchScale___init__ k_WatchScale___init__ fi2_WatchScale___init__ ty_WatchScale___init__ kwd_none
  have ok_CV := ok_WatchScale_init Z hC_CV hN_CV opq top0 mCV sCV s_CV c__digits_of F_WatchScale___init__ (w := w) (base := base)
  have M_CV : Mk K CV f_WatchScale___init__ := ⟨mk_CV, a_f_WatchScale___init__, fnCV, kp_CV⟩
  have mk_CV : Maker l.prog w K mg base "WatchScale" CV (L2.CX l.prog w) 10 ["self", "states"] [] (spI (PWtI CV)) := ⟨_, _, [], PySem.W.mg_of X G a_CV, M_CV, ok_CV, bind_Wt F_WatchScale___init__, .nil⟩
  have F_SetScale___init__ := mk_funS (P := l.prog) (kws := [("join", .str "may")]) l_SetScale___init__ c_SetScale___init__ lc_SetScale___init__ hv_SetScale___init__ hf_SetScale___init__ lx_SetScale___init__ lD_SetScale___init__ k_SetScale___init__ fi2_SetScale___init__ ty_SetScale___init__ (kwd_one kw_SetScale___init__ ⟨_, rfl⟩)
  have ok_CE := ok_SetScale_init Z hC_CE hN_CE opq top0 mCE sCE w_CE c__digits_of F_SetScale___init__ (w := w) (base := base)
  have M_CE : Mk K CE f_SetScale___init__ := ⟨mk_CE, a_f_SetScale___init__, fnCE, kp_CE⟩
  have mkK_CE : MakerK l.prog w K mg base "SetScale" CE (L2.CX l.prog w) 10 ["self", "count", "join"] 1 ["join"] (fun vs zs => vs ++ zs) (spI (PStI CE)) := by
    obtain ⟨g, hg⟩ := bindK_St F_SetScale___init__
    exact ⟨_, _, g, PySem.W.mg_of X G a_CE, M_CE, ok_CE, hg⟩
  have mk_CE : Maker l.prog w K mg base "SetScale" CE (L2.CX l.prog w) 10 ["self", "count", "join"] [.str "may"] (spI (PStI CE)) := by
    obtain ⟨ds, r, b⟩ := bind_St F_SetScale___init__
    exact ⟨_, _, ds, PySem.W.mg_of X G a_CE, M_CE, ok_CE, b, r⟩
  have F_HeapScale___init__ := mk_funS (P := l.prog) (kws := []) l_HeapScale___init__ c_HeapScale___init__ lc_HeapScale___init__ hv_HeapScale___init__ hf_HeapScale___init__ lx_HeapScale___init__ lD_HeapScale___init__ k_HeapScale___init__ fi2_HeapScale___init__ ty_HeapScale___init__ kwd_none
  have ok_CH := ok_HeapScale_init Z hC_CH hN_CH opq top0 mCH sCH s_CH c__depth_above c_name_at F_HeapScale___init__ (w := w) (base := base)
  have M_CH : Mk K CH f_HeapScale___init__ := ⟨mk_CH, a_f_HeapScale___init__, fnCH, kp_CH⟩
  have mk_CH : Maker l.prog w K mg base "HeapScale" CH (L2.CX l.prog w) 10 ["self", "inner"] [] (spI (PHpI K [CT, CP, CR, CC, CA, CV, CE, CH] CH)) := ⟨_, _, [], PySem.W.mg_of X G a_CH, M_CH, ok_CH, bind_Hp F_HeapScale___init__, .nil⟩
  have F__law_source := fun_mk (st := s__law_source) l__law_source c__law_source k__law_source
  have F__law_pick := fun_mk (st := s__law_pick) l__law_pick c__law_pick k__law_pick
  have F__law_like := fun_mk (st := s__law_like) l__law_like c__law_like k__law_like
  have F__law_number := fun_mk (st := s__law_number) l__law_number c__law_number k__law_number
  have F__law_family_size := fun_mk (st := s__law_family_size) l__law_family_size c__law_family_size k__law_family_size
  have F__law_family := fun_mk (st := s__law_family) l__law_family c__law_family k__law_family
  have F__law_around := fun_mk (st := s__law_around) l__law_around c__law_around k__law_around
  have F__law_due := fun_mk (st := s__law_due) l__law_due c__law_due k__law_due
  have F__law_deep_right := fun_mk (st := s__law_deep_right) l__law_deep_right c__law_deep_right k__law_deep_right
  have F_law := fun_mk (st := s_law) l_law c_law k_law
  have b__law_source := F__law_source.binds (ps := ["_law_script"]) fun _ _ _ _ _ _ us hl => match us, hl with | [_], _ => rfl
  have c___law_source : Callee l.prog w K mg base "_law_source" CX0 1 ["_law_script"] [] (sp_source K) := ⟨f__law_source, _, [], PySem.W.mg_of X G a_f__law_source, k__law_source, ok_source Z F__law_source, b__law_source, .nil⟩
  have b__law_pick := F__law_pick.binds (ps := ["_law_source_here", "_law_many"]) fun _ _ _ _ _ _ us hl => match us, hl with | [_, _], _ => rfl
  have c___law_pick : Callee l.prog w K mg base "_law_pick" CX0 1 ["_law_source_here", "_law_many"] [] sp_pick := ⟨f__law_pick, _, [], PySem.W.mg_of X G a_f__law_pick, k__law_pick, ok_pick Z F__law_pick, b__law_pick, .nil⟩
  have b__law_like := F__law_like.binds (ps := ["_law_found", "_law_due_here"]) fun _ _ _ _ _ _ us hl => match us, hl with | [_, _], _ => rfl
  have c___law_like : Callee l.prog w K mg base "_law_like" CX0 4 ["_law_found", "_law_due_here"] [] (spP (PLike K 4)) := ⟨f__law_like, _, [], PySem.W.mg_of X G a_f__law_like, k__law_like, (ok_like Z F__law_like (PySem.W.mg_of X G a_f__law_like) k__law_like b__law_like 4), b__law_like, .nil⟩
  have X_BadScale : ExcC K A_BadScale := ⟨xg_BadScale, xgg_BadScale, xe_BadScale, xh_BadScale, xcl_BadScale, xsp_, xtk_, xmo_BadScale⟩
  have e_BadScale : Ex0C K A_BadScale := ⟨q_BadScale, xk_BadScale, xe_BadScale, xt_BadScale⟩
  have cX_depth_above : CalleeR l.prog w K mg base "depth_above" (L2.CX l.prog w) 2 (sp_depXC K [CT, CP, CR, CC, CA, CV, CE, CH] A_BadScale) := ok_depth_aboveX Z e_BadScale (PySem.W.mg_of X G a_A_BadScale) (PySem.W.mg_of X G gM) (PySem.W.mg_of X G gD) F_depth_above (PySem.W.mg_of X G a_f_depth_above) k_depth_above
  have ok2_CC := fnOk_either ok_CC (ok_CountX Z e_BadScale (PySem.W.mg_of X G a_A_BadScale) (PySem.W.mg_of X G gM) opq top0 F_CountScale___init__)
  have mkK2_CC : MakerK l.prog w K mg base "CountScale" CC (L2.CX l.prog w) 10 ["self", "most", "order"] 1 ["order"] (fun vs zs => vs ++ zs) (spE (spI (PCsI CC)) (spXI A_BadScale PCsX)) := by
    obtain ⟨g, hg⟩ := bindK_Cs F_CountScale___init__
    exact ⟨_, _, g, PySem.W.mg_of X G a_CC, M_CC, ok2_CC, hg⟩
  have ok2_CA := fnOk_either ok_CA (ok_SpanX Z e_BadScale (PySem.W.mg_of X G a_A_BadScale) (PySem.W.mg_of X G gM) opq top0 F_SpanScale___init__)
  have mk2_CA : Maker l.prog w K mg base "SpanScale" CA (L2.CX l.prog w) 10 ["self", "most"] [] (spE (spI (PSpI CA)) (spXI A_BadScale PSpX)) := ⟨_, _, [], PySem.W.mg_of X G a_CA, M_CA, ok2_CA, bind_Sp F_SpanScale___init__, .nil⟩
  have ok2_CE := fnOk_either ok_CE (ok_SetX Z e_BadScale (PySem.W.mg_of X G a_A_BadScale) opq top0 F_SetScale___init__)
  have mkK2_CE : MakerK l.prog w K mg base "SetScale" CE (L2.CX l.prog w) 10 ["self", "count", "join"] 1 ["join"] (fun vs zs => vs ++ zs) (spE (spI (PStI CE)) (spXI A_BadScale PStX)) := by
    obtain ⟨g, hg⟩ := bindK_St F_SetScale___init__
    exact ⟨_, _, g, PySem.W.mg_of X G a_CE, M_CE, ok2_CE, hg⟩
  have ok2_CV := fnOk_either ok_CV (ok_WatchX Z e_BadScale (PySem.W.mg_of X G a_A_BadScale) opq top0 F_WatchScale___init__)
  have mk2_CV : Maker l.prog w K mg base "WatchScale" CV (L2.CX l.prog w) 10 ["self", "states"] [] (spE (spI (PWtI CV)) (spXI A_BadScale PWtX)) := ⟨_, _, [], PySem.W.mg_of X G a_CV, M_CV, ok2_CV, bind_Wt F_WatchScale___init__, .nil⟩
  have ok2_CP := fnOk_either ok_CP (ok_PairX Z cX_depth_above opq top0 F_PairScale___init__)
  have mk2_CP : Maker l.prog w K mg base "PairScale" CP (L2.CX l.prog w) 10 ["self", "left", "right"] [] (spE (spI (PPrI K [CT, CP, CR, CC, CA, CV, CE, CH] CP)) (spXI A_BadScale (PPrX K [CT, CP, CR, CC, CA, CV, CE, CH]))) := ⟨_, _, [], PySem.W.mg_of X G a_CP, M_CP, ok2_CP, bind_Pr F_PairScale___init__, .nil⟩
  have ok2_CR := fnOk_either ok_CR (ok_TurnX Z cX_depth_above opq top0 F_TurnedScale___init__)
  have mk2_CR : Maker l.prog w K mg base "TurnedScale" CR (L2.CX l.prog w) 10 ["self", "inner"] [] (spE (spI (PTuI K [CT, CP, CR, CC, CA, CV, CE, CH] CR)) (spXI A_BadScale (PTuX K [CT, CP, CR, CC, CA, CV, CE, CH]))) := ⟨_, _, [], PySem.W.mg_of X G a_CR, M_CR, ok2_CR, bind_Tu F_TurnedScale___init__, .nil⟩
  have ok2_CH := fnOk_either ok_CH (ok_HeapX Z cX_depth_above opq top0 F_HeapScale___init__)
  have mk2_CH : Maker l.prog w K mg base "HeapScale" CH (L2.CX l.prog w) 10 ["self", "inner"] [] (spE (spI (PHpI K [CT, CP, CR, CC, CA, CV, CE, CH] CH)) (spXI A_BadScale (PHpX K [CT, CP, CR, CC, CA, CV, CE, CH]))) := ⟨_, _, [], PySem.W.mg_of X G a_CH, M_CH, ok2_CH, bind_Hp F_HeapScale___init__, .nil⟩
  have b__law_number := F__law_number.binds (ps := ["_law_state", "_law_below", "_law_above"]) fun _ _ _ _ _ _ us hl => match us, hl with | [_, _, _], _ => rfl
  have c___law_number : Callee l.prog w K mg base "_law_number" CX0 2 ["_law_state", "_law_below", "_law_above"] [] (spS PNum6) := ⟨f__law_number, _, [], PySem.W.mg_of X G a_f__law_number, k__law_number, ok_number06 c___law_pick F__law_number, b__law_number, .nil⟩
  have b__law_family_size := F__law_family_size.binds (ps := ["_law_kind", "_law_number_here", "_law_sort"]) fun _ _ _ _ _ _ us hl => match us, hl with | [_, _, _], _ => rfl
  have c___law_family_size : Callee l.prog w K mg base "_law_family_size" CX0 1 ["_law_kind", "_law_number_here", "_law_sort"] [] (spP (PFsz K)) := ⟨f__law_family_size, _, [], PySem.W.mg_of X G a_f__law_family_size, k__law_family_size, ok_fsize06 F__law_family_size, b__law_family_size, .nil⟩
  have b__law_due := F__law_due.binds (ps := ["_law_size"]) fun _ _ _ _ _ _ us hl => match us, hl with | [_], _ => rfl
  have c___law_due : Callee l.prog w K mg base "_law_due" CX0 1 ["_law_size"] [] (spP PDue) := ⟨f__law_due, _, [], PySem.W.mg_of X G a_f__law_due, k__law_due, ok_due06 F__law_due, b__law_due, .nil⟩
  have b__law_around := F__law_around.binds (ps := ["_law_way", "_law_first", "_law_second"]) fun _ _ _ _ _ _ us hl => match us, hl with | [_, _, _], _ => rfl
  have c___law_around : Callee l.prog w K mg base "_law_around" CX0 12 ["_law_way", "_law_first", "_law_second"] [] (spP (PArd K [CT, CP, CR, CC, CA, CV, CE, CH])) := ⟨f__law_around, _, [], PySem.W.mg_of X G a_f__law_around, k__law_around, ok_around06 (PySem.W.mg_of X G a_A_BadScale) xte_BadScale (by simp) (by simp) (by simp) o_CP o_CR o_CH mk2_CP mk2_CR mk2_CH F__law_around, b__law_around, .nil⟩
  have b__law_family := F__law_family.binds (ps := ["_law_kind", "_law_number_here", "_law_sort"]) fun _ _ _ _ _ _ us hl => match us, hl with | [_, _, _], _ => rfl
  have c___law_family : Callee l.prog w K mg base "_law_family" CX0 12 ["_law_kind", "_law_number_here", "_law_sort"] [] (spP (PFam K)) := ⟨f__law_family, _, [], PySem.W.mg_of X G a_f__law_family, k__law_family, ok_family06 (Cs := [CT, CP, CR, CC, CA, CV, CE, CH]) Z (PySem.W.mg_of X G a_A_BadScale) (PySem.W.mg_of X G a_CDe) xte_BadScale X_BadScale kDe (by simp) (by simp) (by simp) (by simp) o_CC o_CA o_CE o_CV mkK2_CC mk2_CA mkK2_CE mk2_CV F__law_family, b__law_family, .nil⟩
  have b__law_deep_right := F__law_deep_right.binds (ps := ["_law_state"]) fun _ _ _ _ _ _ us hl => match us, hl with | [_], _ => rfl
  have c___law_deep_right : Callee l.prog w K mg base "_law_deep_right" CX0 13 ["_law_state"] [] spDeep := ⟨f__law_deep_right, _, [], PySem.W.mg_of X G a_f__law_deep_right, k__law_deep_right, ok_deep06 (Cs := [CT, CP, CR, CC, CA, CV, CE, CH]) Z (by simp) (by simp) o_CT o_CC c___law_pick mkK_CT mk_CC c___law_around c___law_like F__law_deep_right, b__law_deep_right, .nil⟩
  exact ok_law06 (Cs := [CT, CP, CR, CC, CA, CV, CE, CH]) Z (by simp) o_CC c___law_source c___law_pick c___law_number c___law_family c___law_family_size c___law_due c___law_deep_right c___law_around c___law_like mk_CC F_law
theorem facts_mk {w : World} {K : Fg} {h : Heap} {mg : Str → Option Value} {fa : Addr} (X : K.In h) (G : h.Ns mainGlobals mg) (hfa : mg "law" = some (.ref fa)) (c : SaysB fsH dfsH [] w K) :
    ∃ fd : FuncData, (∀ (s : Shared) (v : Value), BindsTo s fd ⟨[v], []⟩ [("_law_script", v)]) ∧ ∀ base : Heap, K.In base → base.Ns mainGlobals mg → FnOk (PySem.Challenge.rw_deedscale_k06_bad_scales).prog w K mg base CX0 14 fa fd ["_law_script"] (sp_law K) := by
  have h0 : ckH0 K = true := c.fact 0
  obtain ⟨q0, h0⟩ := and2 h0
  obtain ⟨q1, h0⟩ := and2 h0
  obtain ⟨q2, h0⟩ := and2 h0
  obtain ⟨q3, h0⟩ := and2 h0
  obtain ⟨q4, h0⟩ := and2 h0
  obtain ⟨q5, h0⟩ := and2 h0
  obtain ⟨q6, h0⟩ := and2 h0
  obtain ⟨q7, h0⟩ := and2 h0
  obtain ⟨q8, h0⟩ := and2 h0
  obtain ⟨q9, h0⟩ := and2 h0
  obtain ⟨q10, h0⟩ := and2 h0
  have q11 := h0
  have h1 : ckH1 K = true := c.fact 1
  obtain ⟨q12, h1⟩ := and2 h1
  obtain ⟨q13, h1⟩ := and2 h1
  obtain ⟨q14, h1⟩ := and2 h1
  obtain ⟨q15, h1⟩ := and2 h1
  obtain ⟨q16, h1⟩ := and2 h1
  obtain ⟨q17, h1⟩ := and2 h1
  obtain ⟨q18, h1⟩ := and2 h1
  obtain ⟨q19, h1⟩ := and2 h1
  obtain ⟨q20, h1⟩ := and2 h1
  obtain ⟨q21, h1⟩ := and2 h1
  obtain ⟨q22, h1⟩ := and2 h1
  have q23 := h1
  have h2 : ckH2 K = true := c.fact 2
  obtain ⟨q24, h2⟩ := and2 h2
  obtain ⟨q25, h2⟩ := and2 h2
  obtain ⟨q26, h2⟩ := and2 h2
  obtain ⟨q27, h2⟩ := and2 h2
  obtain ⟨q28, h2⟩ := and2 h2
  obtain ⟨q29, h2⟩ := and2 h2
  obtain ⟨q30, h2⟩ := and2 h2
  obtain ⟨q31, h2⟩ := and2 h2
  obtain ⟨q32, h2⟩ := and2 h2
  obtain ⟨q33, h2⟩ := and2 h2
  obtain ⟨q34, h2⟩ := and2 h2
  have q35 := h2
  have h3 : ckH3 K = true := c.fact 3
  obtain ⟨q36, h3⟩ := and2 h3
  obtain ⟨q37, h3⟩ := and2 h3
  obtain ⟨q38, h3⟩ := and2 h3
  obtain ⟨q39, h3⟩ := and2 h3
  obtain ⟨q40, h3⟩ := and2 h3
  obtain ⟨q41, h3⟩ := and2 h3
  obtain ⟨q42, h3⟩ := and2 h3
  obtain ⟨q43, h3⟩ := and2 h3
  obtain ⟨q44, h3⟩ := and2 h3
  obtain ⟨q45, h3⟩ := and2 h3
  obtain ⟨q46, h3⟩ := and2 h3
  have q47 := h3
  have h4 : ckH4 K = true := c.fact 4
  obtain ⟨q48, h4⟩ := and2 h4
  obtain ⟨q49, h4⟩ := and2 h4
  obtain ⟨q50, h4⟩ := and2 h4
  obtain ⟨q51, h4⟩ := and2 h4
  obtain ⟨q52, h4⟩ := and2 h4
  obtain ⟨q53, h4⟩ := and2 h4
  obtain ⟨q54, h4⟩ := and2 h4
  obtain ⟨q55, h4⟩ := and2 h4
  obtain ⟨q56, h4⟩ := and2 h4
  obtain ⟨q57, h4⟩ := and2 h4
  obtain ⟨q58, h4⟩ := and2 h4
  have q59 := h4
  have h5 : ckH5 K = true := c.fact 5
  obtain ⟨q60, h5⟩ := and2 h5
  obtain ⟨q61, h5⟩ := and2 h5
  obtain ⟨q62, h5⟩ := and2 h5
  obtain ⟨q63, h5⟩ := and2 h5
  obtain ⟨q64, h5⟩ := and2 h5
  obtain ⟨q65, h5⟩ := and2 h5
  obtain ⟨q66, h5⟩ := and2 h5
  obtain ⟨q67, h5⟩ := and2 h5
  obtain ⟨q68, h5⟩ := and2 h5
  obtain ⟨q69, h5⟩ := and2 h5
  obtain ⟨q70, h5⟩ := and2 h5
  have q71 := h5
  have h6 : ckH6 K = true := c.fact 6
  obtain ⟨q72, h6⟩ := and2 h6
  obtain ⟨q73, h6⟩ := and2 h6
  obtain ⟨q74, h6⟩ := and2 h6
  obtain ⟨q75, h6⟩ := and2 h6
  obtain ⟨q76, h6⟩ := and2 h6
  obtain ⟨q77, h6⟩ := and2 h6
  obtain ⟨q78, h6⟩ := and2 h6
  obtain ⟨q79, h6⟩ := and2 h6
  obtain ⟨q80, h6⟩ := and2 h6
  obtain ⟨q81, h6⟩ := and2 h6
  obtain ⟨q82, h6⟩ := and2 h6
  have q83 := h6
  have h7 : ckH7 K = true := c.fact 7
  obtain ⟨q84, h7⟩ := and2 h7
  obtain ⟨q85, h7⟩ := and2 h7
  obtain ⟨q86, h7⟩ := and2 h7
  obtain ⟨q87, h7⟩ := and2 h7
  obtain ⟨q88, h7⟩ := and2 h7
  obtain ⟨q89, h7⟩ := and2 h7
  obtain ⟨q90, h7⟩ := and2 h7
  obtain ⟨q91, h7⟩ := and2 h7
  obtain ⟨q92, h7⟩ := and2 h7
  obtain ⟨q93, h7⟩ := and2 h7
  obtain ⟨q94, h7⟩ := and2 h7
  have q95 := h7
  have h8 : ckH8 K = true := c.fact 8
  obtain ⟨q96, h8⟩ := and2 h8
  obtain ⟨q97, h8⟩ := and2 h8
  obtain ⟨q98, h8⟩ := and2 h8
  obtain ⟨q99, h8⟩ := and2 h8
  obtain ⟨q100, h8⟩ := and2 h8
  obtain ⟨q101, h8⟩ := and2 h8
  obtain ⟨q102, h8⟩ := and2 h8
  obtain ⟨q103, h8⟩ := and2 h8
  obtain ⟨q104, h8⟩ := and2 h8
  obtain ⟨q105, h8⟩ := and2 h8
  obtain ⟨q106, h8⟩ := and2 h8
  have q107 := h8
  have h9 : ckH9 K = true := c.fact 9
  obtain ⟨q108, h9⟩ := and2 h9
  obtain ⟨q109, h9⟩ := and2 h9
  obtain ⟨q110, h9⟩ := and2 h9
  obtain ⟨q111, h9⟩ := and2 h9
  obtain ⟨q112, h9⟩ := and2 h9
  obtain ⟨q113, h9⟩ := and2 h9
  obtain ⟨q114, h9⟩ := and2 h9
  obtain ⟨q115, h9⟩ := and2 h9
  obtain ⟨q116, h9⟩ := and2 h9
  obtain ⟨q117, h9⟩ := and2 h9
  obtain ⟨q118, h9⟩ := and2 h9
  have q119 := h9
  have h10 : ckH10 K = true := c.fact 10
  obtain ⟨q120, h10⟩ := and2 h10
  obtain ⟨q121, h10⟩ := and2 h10
  obtain ⟨q122, h10⟩ := and2 h10
  obtain ⟨q123, h10⟩ := and2 h10
  obtain ⟨q124, h10⟩ := and2 h10
  obtain ⟨q125, h10⟩ := and2 h10
  obtain ⟨q126, h10⟩ := and2 h10
  obtain ⟨q127, h10⟩ := and2 h10
  obtain ⟨q128, h10⟩ := and2 h10
  obtain ⟨q129, h10⟩ := and2 h10
  obtain ⟨q130, h10⟩ := and2 h10
  have q131 := h10
  have h11 : ckH11 K = true := c.fact 11
  obtain ⟨q132, h11⟩ := and2 h11
  obtain ⟨q133, h11⟩ := and2 h11
  obtain ⟨q134, h11⟩ := and2 h11
  obtain ⟨q135, h11⟩ := and2 h11
  obtain ⟨q136, h11⟩ := and2 h11
  obtain ⟨q137, h11⟩ := and2 h11
  obtain ⟨q138, h11⟩ := and2 h11
  obtain ⟨q139, h11⟩ := and2 h11
  obtain ⟨q140, h11⟩ := and2 h11
  obtain ⟨q141, h11⟩ := and2 h11
  obtain ⟨q142, h11⟩ := and2 h11
  have q143 := h11
  have h12 : ckH12 K = true := c.fact 12
  obtain ⟨q144, h12⟩ := and2 h12
  obtain ⟨q145, h12⟩ := and2 h12
  obtain ⟨q146, h12⟩ := and2 h12
  obtain ⟨q147, h12⟩ := and2 h12
  obtain ⟨q148, h12⟩ := and2 h12
  obtain ⟨q149, h12⟩ := and2 h12
  obtain ⟨q150, h12⟩ := and2 h12
  obtain ⟨q151, h12⟩ := and2 h12
  obtain ⟨q152, h12⟩ := and2 h12
  obtain ⟨q153, h12⟩ := and2 h12
  obtain ⟨q154, h12⟩ := and2 h12
  have q155 := h12
  have h13 : ckH13 K = true := c.fact 13
  obtain ⟨q156, h13⟩ := and2 h13
  obtain ⟨q157, h13⟩ := and2 h13
  obtain ⟨q158, h13⟩ := and2 h13
  obtain ⟨q159, h13⟩ := and2 h13
  obtain ⟨q160, h13⟩ := and2 h13
  obtain ⟨q161, h13⟩ := and2 h13
  obtain ⟨q162, h13⟩ := and2 h13
  obtain ⟨q163, h13⟩ := and2 h13
  obtain ⟨q164, h13⟩ := and2 h13
  obtain ⟨q165, h13⟩ := and2 h13
  obtain ⟨q166, h13⟩ := and2 h13
  have q167 := h13
  have h14 : ckH14 K = true := c.fact 14
  obtain ⟨q168, h14⟩ := and2 h14
  obtain ⟨q169, h14⟩ := and2 h14
  obtain ⟨q170, h14⟩ := and2 h14
  obtain ⟨q171, h14⟩ := and2 h14
  obtain ⟨q172, h14⟩ := and2 h14
  obtain ⟨q173, h14⟩ := and2 h14
  obtain ⟨q174, h14⟩ := and2 h14
  obtain ⟨q175, h14⟩ := and2 h14
  obtain ⟨q176, h14⟩ := and2 h14
  obtain ⟨q177, h14⟩ := and2 h14
  obtain ⟨q178, h14⟩ := and2 h14
  have q179 := h14
  have h15 : ckH15 K = true := c.fact 15
  obtain ⟨q180, h15⟩ := and2 h15
  obtain ⟨q181, h15⟩ := and2 h15
  obtain ⟨q182, h15⟩ := and2 h15
  obtain ⟨q183, h15⟩ := and2 h15
  obtain ⟨q184, h15⟩ := and2 h15
  obtain ⟨q185, h15⟩ := and2 h15
  obtain ⟨q186, h15⟩ := and2 h15
  obtain ⟨q187, h15⟩ := and2 h15
  obtain ⟨q188, h15⟩ := and2 h15
  obtain ⟨q189, h15⟩ := and2 h15
  obtain ⟨q190, h15⟩ := and2 h15
  have q191 := h15
  have h16 : ckH16 K = true := c.fact 16
  obtain ⟨q192, h16⟩ := and2 h16
  obtain ⟨q193, h16⟩ := and2 h16
  obtain ⟨q194, h16⟩ := and2 h16
  obtain ⟨q195, h16⟩ := and2 h16
  obtain ⟨q196, h16⟩ := and2 h16
  obtain ⟨q197, h16⟩ := and2 h16
  obtain ⟨q198, h16⟩ := and2 h16
  obtain ⟨q199, h16⟩ := and2 h16
  obtain ⟨q200, h16⟩ := and2 h16
  obtain ⟨q201, h16⟩ := and2 h16
  obtain ⟨q202, h16⟩ := and2 h16
  have q203 := h16
  have h17 : ckH17 K = true := c.fact 17
  obtain ⟨q204, h17⟩ := and2 h17
  obtain ⟨q205, h17⟩ := and2 h17
  obtain ⟨q206, h17⟩ := and2 h17
  obtain ⟨q207, h17⟩ := and2 h17
  obtain ⟨q208, h17⟩ := and2 h17
  obtain ⟨q209, h17⟩ := and2 h17
  obtain ⟨q210, h17⟩ := and2 h17
  obtain ⟨q211, h17⟩ := and2 h17
  obtain ⟨q212, h17⟩ := and2 h17
  obtain ⟨q213, h17⟩ := and2 h17
  obtain ⟨q214, h17⟩ := and2 h17
  have q215 := h17
  have h18 : ckH18 K = true := c.fact 18
  obtain ⟨q216, h18⟩ := and2 h18
  obtain ⟨q217, h18⟩ := and2 h18
  obtain ⟨q218, h18⟩ := and2 h18
  obtain ⟨q219, h18⟩ := and2 h18
  obtain ⟨q220, h18⟩ := and2 h18
  obtain ⟨q221, h18⟩ := and2 h18
  obtain ⟨q222, h18⟩ := and2 h18
  obtain ⟨q223, h18⟩ := and2 h18
  obtain ⟨q224, h18⟩ := and2 h18
  obtain ⟨q225, h18⟩ := and2 h18
  obtain ⟨q226, h18⟩ := and2 h18
  have q227 := h18
  have h19 : ckH19 K = true := c.fact 19
  obtain ⟨q228, h19⟩ := and2 h19
  obtain ⟨q229, h19⟩ := and2 h19
  obtain ⟨q230, h19⟩ := and2 h19
  obtain ⟨q231, h19⟩ := and2 h19
  obtain ⟨q232, h19⟩ := and2 h19
  obtain ⟨q233, h19⟩ := and2 h19
  obtain ⟨q234, h19⟩ := and2 h19
  obtain ⟨q235, h19⟩ := and2 h19
  obtain ⟨q236, h19⟩ := and2 h19
  obtain ⟨q237, h19⟩ := and2 h19
  obtain ⟨q238, h19⟩ := and2 h19
  have q239 := h19
  have h20 : ckH20 K = true := c.fact 20
  obtain ⟨q240, h20⟩ := and2 h20
  obtain ⟨q241, h20⟩ := and2 h20
  obtain ⟨q242, h20⟩ := and2 h20
  obtain ⟨q243, h20⟩ := and2 h20
  obtain ⟨q244, h20⟩ := and2 h20
  obtain ⟨q245, h20⟩ := and2 h20
  obtain ⟨q246, h20⟩ := and2 h20
  obtain ⟨q247, h20⟩ := and2 h20
  obtain ⟨q248, h20⟩ := and2 h20
  obtain ⟨q249, h20⟩ := and2 h20
  obtain ⟨q250, h20⟩ := and2 h20
  have q251 := h20
  have h21 : ckH21 K = true := c.fact 21
  obtain ⟨q252, h21⟩ := and2 h21
  obtain ⟨q253, h21⟩ := and2 h21
  obtain ⟨q254, h21⟩ := and2 h21
  obtain ⟨q255, h21⟩ := and2 h21
  obtain ⟨q256, h21⟩ := and2 h21
  obtain ⟨q257, h21⟩ := and2 h21
  obtain ⟨q258, h21⟩ := and2 h21
  obtain ⟨q259, h21⟩ := and2 h21
  obtain ⟨q260, h21⟩ := and2 h21
  obtain ⟨q261, h21⟩ := and2 h21
  obtain ⟨q262, h21⟩ := and2 h21
  have q263 := h21
  have h22 : ckH22 K = true := c.fact 22
  obtain ⟨q264, h22⟩ := and2 h22
  obtain ⟨q265, h22⟩ := and2 h22
  obtain ⟨q266, h22⟩ := and2 h22
  obtain ⟨q267, h22⟩ := and2 h22
  obtain ⟨q268, h22⟩ := and2 h22
  obtain ⟨q269, h22⟩ := and2 h22
  obtain ⟨q270, h22⟩ := and2 h22
  obtain ⟨q271, h22⟩ := and2 h22
  obtain ⟨q272, h22⟩ := and2 h22
  obtain ⟨q273, h22⟩ := and2 h22
  obtain ⟨q274, h22⟩ := and2 h22
  have q275 := h22
  have h23 : ckH23 K = true := c.fact 23
  obtain ⟨q276, h23⟩ := and2 h23
  obtain ⟨q277, h23⟩ := and2 h23
  obtain ⟨q278, h23⟩ := and2 h23
  obtain ⟨q279, h23⟩ := and2 h23
  obtain ⟨q280, h23⟩ := and2 h23
  obtain ⟨q281, h23⟩ := and2 h23
  obtain ⟨q282, h23⟩ := and2 h23
  obtain ⟨q283, h23⟩ := and2 h23
  obtain ⟨q284, h23⟩ := and2 h23
  obtain ⟨q285, h23⟩ := and2 h23
  obtain ⟨q286, h23⟩ := and2 h23
  have q287 := h23
  have h24 : ckH24 K = true := c.fact 24
  obtain ⟨q288, h24⟩ := and2 h24
  obtain ⟨q289, h24⟩ := and2 h24
  obtain ⟨q290, h24⟩ := and2 h24
  obtain ⟨q291, h24⟩ := and2 h24
  obtain ⟨q292, h24⟩ := and2 h24
  obtain ⟨q293, h24⟩ := and2 h24
  obtain ⟨q294, h24⟩ := and2 h24
  obtain ⟨q295, h24⟩ := and2 h24
  obtain ⟨q296, h24⟩ := and2 h24
  obtain ⟨q297, h24⟩ := and2 h24
  obtain ⟨q298, h24⟩ := and2 h24
  have q299 := h24
  have h25 : ckH25 K = true := c.fact 25
  obtain ⟨q300, h25⟩ := and2 h25
  obtain ⟨q301, h25⟩ := and2 h25
  obtain ⟨q302, h25⟩ := and2 h25
  obtain ⟨q303, h25⟩ := and2 h25
  obtain ⟨q304, h25⟩ := and2 h25
  obtain ⟨q305, h25⟩ := and2 h25
  obtain ⟨q306, h25⟩ := and2 h25
  obtain ⟨q307, h25⟩ := and2 h25
  obtain ⟨q308, h25⟩ := and2 h25
  obtain ⟨q309, h25⟩ := and2 h25
  obtain ⟨q310, h25⟩ := and2 h25
  have q311 := h25
  have h26 : ckH26 K = true := c.fact 26
  obtain ⟨q312, h26⟩ := and2 h26
  obtain ⟨q313, h26⟩ := and2 h26
  obtain ⟨q314, h26⟩ := and2 h26
  obtain ⟨q315, h26⟩ := and2 h26
  obtain ⟨q316, h26⟩ := and2 h26
  obtain ⟨q317, h26⟩ := and2 h26
  obtain ⟨q318, h26⟩ := and2 h26
  obtain ⟨q319, h26⟩ := and2 h26
  obtain ⟨q320, h26⟩ := and2 h26
  obtain ⟨q321, h26⟩ := and2 h26
  obtain ⟨q322, h26⟩ := and2 h26
  have q323 := h26
  have h27 : ckH27 K = true := c.fact 27
  obtain ⟨q324, h27⟩ := and2 h27
  obtain ⟨q325, h27⟩ := and2 h27
  obtain ⟨q326, h27⟩ := and2 h27
  obtain ⟨q327, h27⟩ := and2 h27
  obtain ⟨q328, h27⟩ := and2 h27
  obtain ⟨q329, h27⟩ := and2 h27
  obtain ⟨q330, h27⟩ := and2 h27
  obtain ⟨q331, h27⟩ := and2 h27
  obtain ⟨q332, h27⟩ := and2 h27
  obtain ⟨q333, h27⟩ := and2 h27
  obtain ⟨q334, h27⟩ := and2 h27
  have q335 := h27
  have h28 : ckH28 K = true := c.fact 28
  obtain ⟨q336, h28⟩ := and2 h28
  obtain ⟨q337, h28⟩ := and2 h28
  obtain ⟨q338, h28⟩ := and2 h28
  obtain ⟨q339, h28⟩ := and2 h28
  obtain ⟨q340, h28⟩ := and2 h28
  obtain ⟨q341, h28⟩ := and2 h28
  obtain ⟨q342, h28⟩ := and2 h28
  obtain ⟨q343, h28⟩ := and2 h28
  obtain ⟨q344, h28⟩ := and2 h28
  obtain ⟨q345, h28⟩ := and2 h28
  obtain ⟨q346, h28⟩ := and2 h28
  have q347 := h28
  have h29 : ckH29 K = true := c.fact 29
  obtain ⟨q348, h29⟩ := and2 h29
  obtain ⟨q349, h29⟩ := and2 h29
  obtain ⟨q350, h29⟩ := and2 h29
  obtain ⟨q351, h29⟩ := and2 h29
  obtain ⟨q352, h29⟩ := and2 h29
  obtain ⟨q353, h29⟩ := and2 h29
  obtain ⟨q354, h29⟩ := and2 h29
  obtain ⟨q355, h29⟩ := and2 h29
  obtain ⟨q356, h29⟩ := and2 h29
  obtain ⟨q357, h29⟩ := and2 h29
  obtain ⟨q358, h29⟩ := and2 h29
  have q359 := h29
  have h30 : ckH30 K = true := c.fact 30
  obtain ⟨q360, h30⟩ := and2 h30
  obtain ⟨q361, h30⟩ := and2 h30
  obtain ⟨q362, h30⟩ := and2 h30
  obtain ⟨q363, h30⟩ := and2 h30
  obtain ⟨q364, h30⟩ := and2 h30
  obtain ⟨q365, h30⟩ := and2 h30
  obtain ⟨q366, h30⟩ := and2 h30
  obtain ⟨q367, h30⟩ := and2 h30
  obtain ⟨q368, h30⟩ := and2 h30
  obtain ⟨q369, h30⟩ := and2 h30
  obtain ⟨q370, h30⟩ := and2 h30
  have q371 := h30
  have h31 : ckH31 K = true := c.fact 31
  obtain ⟨q372, h31⟩ := and2 h31
  obtain ⟨q373, h31⟩ := and2 h31
  obtain ⟨q374, h31⟩ := and2 h31
  obtain ⟨q375, h31⟩ := and2 h31
  obtain ⟨q376, h31⟩ := and2 h31
  obtain ⟨q377, h31⟩ := and2 h31
  have q378 := h31
  obtain ⟨T_Scale___init__, oc_Scale___init__, od_Scale___init__, kV_Scale___init__, dc_Scale___init__, pm_Scale___init__, an_Scale___init__, cd_Scale___init__, ct_Scale___init__, sl_Scale___init__, cT, dT, tT, nT, slT, l_Scale___init__, c_Scale___init__, k_Scale___init__, lT⟩ := fnlI_of (st := s_Scale___init__) (c.fn 0) q0
  obtain ⟨oc_cut_down, od_cut_down, kV_cut_down, dc_cut_down, pm_cut_down, an_cut_down, cd_cut_down, ct_cut_down, sl_cut_down, l_cut_down, c_cut_down, k_cut_down⟩ := fnl_of (st := s_cut_down) (c.fn 1) q1
  obtain ⟨oc_number_name, od_number_name, kV_number_name, dc_number_name, pm_number_name, an_number_name, cd_number_name, ct_number_name, sl_number_name, l_number_name, c_number_name, k_number_name⟩ := fnl_of (st := s_number_name) (c.fn 2) q2
  obtain ⟨oc_digits_of, od_digits_of, kV_digits_of, dc_digits_of, pm_digits_of, an_digits_of, cd_digits_of, ct_digits_of, sl_digits_of, l_digits_of, c_digits_of, k_digits_of⟩ := fnl_of (st := s_digits_of) (c.fn 3) q3
  obtain ⟨oc_is_table_name, od_is_table_name, kV_is_table_name, dc_is_table_name, pm_is_table_name, an_is_table_name, cd_is_table_name, ct_is_table_name, sl_is_table_name, l_is_table_name, c_is_table_name, k_is_table_name⟩ := fnl_of (st := s_is_table_name) (c.fn 4) q4
  obtain ⟨oc_table_places, od_table_places, kV_table_places, dc_table_places, pm_table_places, an_table_places, cd_table_places, ct_table_places, sl_table_places, l_table_places, c_table_places, k_table_places⟩ := fnl_of (st := s_table_places) (c.fn 5) q5
  obtain ⟨oc_depth_above, od_depth_above, kV_depth_above, dc_depth_above, pm_depth_above, an_depth_above, cd_depth_above, ct_depth_above, sl_depth_above, l_depth_above, c_depth_above, k_depth_above⟩ := fnl_of (st := s_depth_above) (c.fn 6) q6
  obtain ⟨oc_half_places, od_half_places, kV_half_places, dc_half_places, pm_half_places, an_half_places, cd_half_places, ct_half_places, sl_half_places, l_half_places, c_half_places, k_half_places⟩ := fnl_of (st := s_half_places) (c.fn 7) q7
  obtain ⟨oc_Scale_then_at, od_Scale_then_at, kV_Scale_then_at, dc_Scale_then_at, pm_Scale_then_at, an_Scale_then_at, cd_Scale_then_at, ct_Scale_then_at, sl_Scale_then_at, l_Scale_then_at, c_Scale_then_at, k_Scale_then_at⟩ := fnl_of (st := s_Scale_then_at) (c.fn 8) q8
  obtain ⟨oc_Scale_join_at, od_Scale_join_at, kV_Scale_join_at, dc_Scale_join_at, pm_Scale_join_at, an_Scale_join_at, cd_Scale_join_at, ct_Scale_join_at, sl_Scale_join_at, l_Scale_join_at, c_Scale_join_at, k_Scale_join_at⟩ := fnl_of (st := s_Scale_join_at) (c.fn 9) q9
  obtain ⟨oc_Scale_name_at, od_Scale_name_at, kV_Scale_name_at, dc_Scale_name_at, pm_Scale_name_at, an_Scale_name_at, cd_Scale_name_at, ct_Scale_name_at, sl_Scale_name_at, l_Scale_name_at, c_Scale_name_at, k_Scale_name_at⟩ := fnl_of (st := s_Scale_name_at) (c.fn 10) q10
  obtain ⟨oc_TableScale_make_then, od_TableScale_make_then, kV_TableScale_make_then, dc_TableScale_make_then, pm_TableScale_make_then, an_TableScale_make_then, cd_TableScale_make_then, ct_TableScale_make_then, sl_TableScale_make_then, l_TableScale_make_then, c_TableScale_make_then, k_TableScale_make_then⟩ := fnl_of (st := s_TableScale_make_then) (c.fn 11) q11
  obtain ⟨oc_TableScale_make_join, od_TableScale_make_join, kV_TableScale_make_join, dc_TableScale_make_join, pm_TableScale_make_join, an_TableScale_make_join, cd_TableScale_make_join, ct_TableScale_make_join, sl_TableScale_make_join, l_TableScale_make_join, c_TableScale_make_join, k_TableScale_make_join⟩ := fnl_of (st := s_TableScale_make_join) (c.fn 12) q12
  obtain ⟨oc_PairScale_make_then, od_PairScale_make_then, kV_PairScale_make_then, dc_PairScale_make_then, pm_PairScale_make_then, an_PairScale_make_then, cd_PairScale_make_then, ct_PairScale_make_then, sl_PairScale_make_then, l_PairScale_make_then, c_PairScale_make_then, k_PairScale_make_then⟩ := fnl_of (st := s_PairScale_make_then) (c.fn 13) q13
  obtain ⟨oc_PairScale_make_join, od_PairScale_make_join, kV_PairScale_make_join, dc_PairScale_make_join, pm_PairScale_make_join, an_PairScale_make_join, cd_PairScale_make_join, ct_PairScale_make_join, sl_PairScale_make_join, l_PairScale_make_join, c_PairScale_make_join, k_PairScale_make_join⟩ := fnl_of (st := s_PairScale_make_join) (c.fn 14) q14
  obtain ⟨oc_TurnedScale_make_then, od_TurnedScale_make_then, kV_TurnedScale_make_then, dc_TurnedScale_make_then, pm_TurnedScale_make_then, an_TurnedScale_make_then, cd_TurnedScale_make_then, ct_TurnedScale_make_then, sl_TurnedScale_make_then, l_TurnedScale_make_then, c_TurnedScale_make_then, k_TurnedScale_make_then⟩ := fnl_of (st := s_TurnedScale_make_then) (c.fn 15) q15
  obtain ⟨oc_TurnedScale_make_join, od_TurnedScale_make_join, kV_TurnedScale_make_join, dc_TurnedScale_make_join, pm_TurnedScale_make_join, an_TurnedScale_make_join, cd_TurnedScale_make_join, ct_TurnedScale_make_join, sl_TurnedScale_make_join, l_TurnedScale_make_join, c_TurnedScale_make_join, k_TurnedScale_make_join⟩ := fnl_of (st := s_TurnedScale_make_join) (c.fn 16) q16
  obtain ⟨oc_CountScale_behind, od_CountScale_behind, kV_CountScale_behind, dc_CountScale_behind, pm_CountScale_behind, an_CountScale_behind, cd_CountScale_behind, ct_CountScale_behind, sl_CountScale_behind, l_CountScale_behind, c_CountScale_behind, k_CountScale_behind⟩ := fnl_of (st := s_CountScale_behind) (c.fn 17) q17
  obtain ⟨oc_CountScale_either, od_CountScale_either, kV_CountScale_either, dc_CountScale_either, pm_CountScale_either, an_CountScale_either, cd_CountScale_either, ct_CountScale_either, sl_CountScale_either, l_CountScale_either, c_CountScale_either, k_CountScale_either⟩ := fnl_of (st := s_CountScale_either) (c.fn 18) q18
  obtain ⟨oc_WithNever_make_then, od_WithNever_make_then, kV_WithNever_make_then, dc_WithNever_make_then, pm_WithNever_make_then, an_WithNever_make_then, cd_WithNever_make_then, ct_WithNever_make_then, sl_WithNever_make_then, l_WithNever_make_then, c_WithNever_make_then, k_WithNever_make_then⟩ := fnl_of (st := s_WithNever_make_then) (c.fn 19) q19
  obtain ⟨oc_WithNever_make_join, od_WithNever_make_join, kV_WithNever_make_join, dc_WithNever_make_join, pm_WithNever_make_join, an_WithNever_make_join, cd_WithNever_make_join, ct_WithNever_make_join, sl_WithNever_make_join, l_WithNever_make_join, c_WithNever_make_join, k_WithNever_make_join⟩ := fnl_of (st := s_WithNever_make_join) (c.fn 20) q20
  obtain ⟨oc_SpanScale_behind, od_SpanScale_behind, kV_SpanScale_behind, dc_SpanScale_behind, pm_SpanScale_behind, an_SpanScale_behind, cd_SpanScale_behind, ct_SpanScale_behind, sl_SpanScale_behind, l_SpanScale_behind, c_SpanScale_behind, k_SpanScale_behind⟩ := fnl_of (st := s_SpanScale_behind) (c.fn 21) q21
  obtain ⟨oc_SpanScale_either, od_SpanScale_either, kV_SpanScale_either, dc_SpanScale_either, pm_SpanScale_either, an_SpanScale_either, cd_SpanScale_either, ct_SpanScale_either, sl_SpanScale_either, l_SpanScale_either, c_SpanScale_either, k_SpanScale_either⟩ := fnl_of (st := s_SpanScale_either) (c.fn 22) q22
  obtain ⟨oc_WatchScale_arrows, od_WatchScale_arrows, kV_WatchScale_arrows, dc_WatchScale_arrows, pm_WatchScale_arrows, an_WatchScale_arrows, cd_WatchScale_arrows, ct_WatchScale_arrows, sl_WatchScale_arrows, l_WatchScale_arrows, c_WatchScale_arrows, k_WatchScale_arrows⟩ := fnl_of (st := s_WatchScale_arrows) (c.fn 23) q23
  obtain ⟨oc_WatchScale_make_then, od_WatchScale_make_then, kV_WatchScale_make_then, dc_WatchScale_make_then, pm_WatchScale_make_then, an_WatchScale_make_then, cd_WatchScale_make_then, ct_WatchScale_make_then, sl_WatchScale_make_then, l_WatchScale_make_then, c_WatchScale_make_then, k_WatchScale_make_then⟩ := fnl_of (st := s_WatchScale_make_then) (c.fn 24) q24
  obtain ⟨oc_WatchScale_make_join, od_WatchScale_make_join, kV_WatchScale_make_join, dc_WatchScale_make_join, pm_WatchScale_make_join, an_WatchScale_make_join, cd_WatchScale_make_join, ct_WatchScale_make_join, sl_WatchScale_make_join, l_WatchScale_make_join, c_WatchScale_make_join, k_WatchScale_make_join⟩ := fnl_of (st := s_WatchScale_make_join) (c.fn 25) q25
  obtain ⟨oc_SetScale_behind, od_SetScale_behind, kV_SetScale_behind, dc_SetScale_behind, pm_SetScale_behind, an_SetScale_behind, cd_SetScale_behind, ct_SetScale_behind, sl_SetScale_behind, l_SetScale_behind, c_SetScale_behind, k_SetScale_behind⟩ := fnl_of (st := s_SetScale_behind) (c.fn 26) q26
  obtain ⟨oc_SetScale_either, od_SetScale_either, kV_SetScale_either, dc_SetScale_either, pm_SetScale_either, an_SetScale_either, cd_SetScale_either, ct_SetScale_either, sl_SetScale_either, l_SetScale_either, c_SetScale_either, k_SetScale_either⟩ := fnl_of (st := s_SetScale_either) (c.fn 27) q27
  obtain ⟨oc_HeapScale_make_then, od_HeapScale_make_then, kV_HeapScale_make_then, dc_HeapScale_make_then, pm_HeapScale_make_then, an_HeapScale_make_then, cd_HeapScale_make_then, ct_HeapScale_make_then, sl_HeapScale_make_then, l_HeapScale_make_then, c_HeapScale_make_then, k_HeapScale_make_then⟩ := fnl_of (st := s_HeapScale_make_then) (c.fn 28) q28
  obtain ⟨oc_HeapScale_make_join, od_HeapScale_make_join, kV_HeapScale_make_join, dc_HeapScale_make_join, pm_HeapScale_make_join, an_HeapScale_make_join, cd_HeapScale_make_join, ct_HeapScale_make_join, sl_HeapScale_make_join, l_HeapScale_make_join, c_HeapScale_make_join, k_HeapScale_make_join⟩ := fnl_of (st := s_HeapScale_make_join) (c.fn 29) q29
  obtain ⟨oc_WithNever___init__, od_WithNever___init__, kV_WithNever___init__, dc_WithNever___init__, pm_WithNever___init__, an_WithNever___init__, cda_WithNever___init__, ct_WithNever___init__, sl_WithNever___init__, cc_WithNever___init__, q1_WithNever___init__, e1_WithNever___init__, vs_WithNever___init__, g1_WithNever___init__, fi_WithNever___init__, tf_WithNever___init__, q2_WithNever___init__, e2_WithNever___init__, g2_WithNever___init__, l_WithNever___init__, c_WithNever___init__, lc_WithNever___init__, hv_WithNever___init__, hf_WithNever___init__, lx_WithNever___init__, k_WithNever___init__, fi2_WithNever___init__, ty_WithNever___init__, kw0_WithNever___init__⟩ := sup_of (st := s_WithNever___init__) (c.fn 30) q30
  obtain ⟨oc_TableScale___init__, od_TableScale___init__, kV_TableScale___init__, dc_TableScale___init__, pm_TableScale___init__, an_TableScale___init__, cda_TableScale___init__, ct_TableScale___init__, sl_TableScale___init__, cc_TableScale___init__, q1_TableScale___init__, e1_TableScale___init__, vs_TableScale___init__, g1_TableScale___init__, fi_TableScale___init__, tf_TableScale___init__, q2_TableScale___init__, e2_TableScale___init__, g2_TableScale___init__, l_TableScale___init__, c_TableScale___init__, lc_TableScale___init__, hv_TableScale___init__, hf_TableScale___init__, lx_TableScale___init__, k_TableScale___init__, fi2_TableScale___init__, ty_TableScale___init__, kw0_TableScale___init__⟩ := sup_of (st := s_TableScale___init__) (c.fn 31) q31
  obtain ⟨oc_PairScale___init__, od_PairScale___init__, kV_PairScale___init__, dc_PairScale___init__, pm_PairScale___init__, an_PairScale___init__, cda_PairScale___init__, ct_PairScale___init__, sl_PairScale___init__, cc_PairScale___init__, q1_PairScale___init__, e1_PairScale___init__, vs_PairScale___init__, g1_PairScale___init__, fi_PairScale___init__, tf_PairScale___init__, q2_PairScale___init__, e2_PairScale___init__, g2_PairScale___init__, l_PairScale___init__, c_PairScale___init__, lc_PairScale___init__, hv_PairScale___init__, hf_PairScale___init__, lx_PairScale___init__, k_PairScale___init__, fi2_PairScale___init__, ty_PairScale___init__, kw0_PairScale___init__⟩ := sup_of (st := s_PairScale___init__) (c.fn 32) q32
  obtain ⟨oc_TurnedScale___init__, od_TurnedScale___init__, kV_TurnedScale___init__, dc_TurnedScale___init__, pm_TurnedScale___init__, an_TurnedScale___init__, cda_TurnedScale___init__, ct_TurnedScale___init__, sl_TurnedScale___init__, cc_TurnedScale___init__, q1_TurnedScale___init__, e1_TurnedScale___init__, vs_TurnedScale___init__, g1_TurnedScale___init__, fi_TurnedScale___init__, tf_TurnedScale___init__, q2_TurnedScale___init__, e2_TurnedScale___init__, g2_TurnedScale___init__, l_TurnedScale___init__, c_TurnedScale___init__, lc_TurnedScale___init__, hv_TurnedScale___init__, hf_TurnedScale___init__, lx_TurnedScale___init__, k_TurnedScale___init__, fi2_TurnedScale___init__, ty_TurnedScale___init__, kw0_TurnedScale___init__⟩ := sup_of (st := s_TurnedScale___init__) (c.fn 33) q33
  obtain ⟨oc_CountScale___init__, od_CountScale___init__, kV_CountScale___init__, dc_CountScale___init__, pm_CountScale___init__, an_CountScale___init__, cda_CountScale___init__, ct_CountScale___init__, sl_CountScale___init__, cc_CountScale___init__, q1_CountScale___init__, e1_CountScale___init__, vs_CountScale___init__, g1_CountScale___init__, fi_CountScale___init__, tf_CountScale___init__, q2_CountScale___init__, e2_CountScale___init__, g2_CountScale___init__, l_CountScale___init__, c_CountScale___init__, lc_CountScale___init__, hv_CountScale___init__, hf_CountScale___init__, lx_CountScale___init__, k_CountScale___init__, fi2_CountScale___init__, ty_CountScale___init__, kw0_CountScale___init__⟩ := sup_of (st := s_CountScale___init__) (c.fn 34) q34
  obtain ⟨kd_CountScale___init__, tk_CountScale___init__, kv1_CountScale___init__, kw_CountScale___init__⟩ := ckKw_ok q35
  obtain rfl := kw0_CountScale___init__.symm.trans kv1_CountScale___init__
  obtain ⟨oc_SpanScale___init__, od_SpanScale___init__, kV_SpanScale___init__, dc_SpanScale___init__, pm_SpanScale___init__, an_SpanScale___init__, cda_SpanScale___init__, ct_SpanScale___init__, sl_SpanScale___init__, cc_SpanScale___init__, q1_SpanScale___init__, e1_SpanScale___init__, vs_SpanScale___init__, g1_SpanScale___init__, fi_SpanScale___init__, tf_SpanScale___init__, q2_SpanScale___init__, e2_SpanScale___init__, g2_SpanScale___init__, l_SpanScale___init__, c_SpanScale___init__, lc_SpanScale___init__, hv_SpanScale___init__, hf_SpanScale___init__, lx_SpanScale___init__, k_SpanScale___init__, fi2_SpanScale___init__, ty_SpanScale___init__, kw0_SpanScale___init__⟩ := sup_of (st := s_SpanScale___init__) (c.fn 35) q36
  obtain ⟨oc_WatchScale___init__, od_WatchScale___init__, kV_WatchScale___init__, dc_WatchScale___init__, pm_WatchScale___init__, an_WatchScale___init__, cda_WatchScale___init__, ct_WatchScale___init__, sl_WatchScale___init__, cc_WatchScale___init__, q1_WatchScale___init__, e1_WatchScale___init__, vs_WatchScale___init__, g1_WatchScale___init__, fi_WatchScale___init__, tf_WatchScale___init__, q2_WatchScale___init__, e2_WatchScale___init__, g2_WatchScale___init__, l_WatchScale___init__, c_WatchScale___init__, lc_WatchScale___init__, hv_WatchScale___init__, hf_WatchScale___init__, lx_WatchScale___init__, k_WatchScale___init__, fi2_WatchScale___init__, ty_WatchScale___init__, kw0_WatchScale___init__⟩ := sup_of (st := s_WatchScale___init__) (c.fn 36) q37
  obtain ⟨oc_SetScale___init__, od_SetScale___init__, kV_SetScale___init__, dc_SetScale___init__, pm_SetScale___init__, an_SetScale___init__, cda_SetScale___init__, ct_SetScale___init__, sl_SetScale___init__, cc_SetScale___init__, q1_SetScale___init__, e1_SetScale___init__, vs_SetScale___init__, g1_SetScale___init__, fi_SetScale___init__, tf_SetScale___init__, q2_SetScale___init__, e2_SetScale___init__, g2_SetScale___init__, l_SetScale___init__, c_SetScale___init__, lc_SetScale___init__, hv_SetScale___init__, hf_SetScale___init__, lx_SetScale___init__, k_SetScale___init__, fi2_SetScale___init__, ty_SetScale___init__, kw0_SetScale___init__⟩ := sup_of (st := s_SetScale___init__) (c.fn 37) q38
  obtain ⟨kd_SetScale___init__, tk_SetScale___init__, kv1_SetScale___init__, kw_SetScale___init__⟩ := ckKw_ok q39
  obtain rfl := kw0_SetScale___init__.symm.trans kv1_SetScale___init__
  obtain ⟨oc_HeapScale___init__, od_HeapScale___init__, kV_HeapScale___init__, dc_HeapScale___init__, pm_HeapScale___init__, an_HeapScale___init__, cda_HeapScale___init__, ct_HeapScale___init__, sl_HeapScale___init__, cc_HeapScale___init__, q1_HeapScale___init__, e1_HeapScale___init__, vs_HeapScale___init__, g1_HeapScale___init__, fi_HeapScale___init__, tf_HeapScale___init__, q2_HeapScale___init__, e2_HeapScale___init__, g2_HeapScale___init__, l_HeapScale___init__, c_HeapScale___init__, lc_HeapScale___init__, hv_HeapScale___init__, hf_HeapScale___init__, lx_HeapScale___init__, k_HeapScale___init__, fi2_HeapScale___init__, ty_HeapScale___init__, kw0_HeapScale___init__⟩ := sup_of (st := s_HeapScale___init__) (c.fn 38) q40
  obtain ⟨oc__law_source, od__law_source, kV__law_source, dc__law_source, pm__law_source, an__law_source, cd__law_source, ct__law_source, sl__law_source, l__law_source, c__law_source, k__law_source⟩ := fnl_of (st := s__law_source) (c.fn 39) q41
  obtain ⟨oc__law_pick, od__law_pick, kV__law_pick, dc__law_pick, pm__law_pick, an__law_pick, cd__law_pick, ct__law_pick, sl__law_pick, l__law_pick, c__law_pick, k__law_pick⟩ := fnl_of (st := s__law_pick) (c.fn 40) q42
  obtain ⟨oc__law_like, od__law_like, kV__law_like, dc__law_like, pm__law_like, an__law_like, cd__law_like, ct__law_like, sl__law_like, l__law_like, c__law_like, k__law_like⟩ := fnl_of (st := s__law_like) (c.fn 41) q43
  obtain ⟨oc__law_number, od__law_number, kV__law_number, dc__law_number, pm__law_number, an__law_number, cd__law_number, ct__law_number, sl__law_number, l__law_number, c__law_number, k__law_number⟩ := fnl_of (st := s__law_number) (c.fn 42) q44
  obtain ⟨oc__law_family_size, od__law_family_size, kV__law_family_size, dc__law_family_size, pm__law_family_size, an__law_family_size, cd__law_family_size, ct__law_family_size, sl__law_family_size, l__law_family_size, c__law_family_size, k__law_family_size⟩ := fnl_of (st := s__law_family_size) (c.fn 43) q45
  obtain ⟨oc__law_family, od__law_family, kV__law_family, dc__law_family, pm__law_family, an__law_family, cd__law_family, ct__law_family, sl__law_family, l__law_family, c__law_family, k__law_family⟩ := fnl_of (st := s__law_family) (c.fn 44) q46
  obtain ⟨oc__law_around, od__law_around, kV__law_around, dc__law_around, pm__law_around, an__law_around, cd__law_around, ct__law_around, sl__law_around, l__law_around, c__law_around, k__law_around⟩ := fnl_of (st := s__law_around) (c.fn 45) q47
  obtain ⟨oc__law_due, od__law_due, kV__law_due, dc__law_due, pm__law_due, an__law_due, cd__law_due, ct__law_due, sl__law_due, l__law_due, c__law_due, k__law_due⟩ := fnl_of (st := s__law_due) (c.fn 46) q48
  obtain ⟨oc__law_deep_right, od__law_deep_right, kV__law_deep_right, dc__law_deep_right, pm__law_deep_right, an__law_deep_right, cd__law_deep_right, ct__law_deep_right, sl__law_deep_right, l__law_deep_right, c__law_deep_right, k__law_deep_right⟩ := fnl_of (st := s__law_deep_right) (c.fn 47) q49
  obtain ⟨oc_law, od_law, kV_law, dc_law, pm_law, an_law, cd_law, ct_law, sl_law, l_law, c_law, k_law⟩ := fnl_of (st := s_law) (c.fn 48) q50
  have z_int := of_decide_eq_true q51
  have z_abs := of_decide_eq_true q52
  have z_range := of_decide_eq_true q53
  have z_len := of_decide_eq_true q54
  have z_isinstance := of_decide_eq_true q55
  have z_bool := of_decide_eq_true q56
  have z_str := of_decide_eq_true q57
  have z_list := of_decide_eq_true q58
  have z_tuple := of_decide_eq_true q59
  have z_dict := of_decide_eq_true q60
  have z_enumerate := of_decide_eq_true q61
  have z_zip := of_decide_eq_true q62
  have z_reversed := of_decide_eq_true q63
  have z_ValueError := of_decide_eq_true q64
  have z_LookupError := of_decide_eq_true q65
  have z_KeyError := of_decide_eq_true q66
  have z_Exception := of_decide_eq_true q67
  have z_super := of_decide_eq_true q68
  have z_sum := of_decide_eq_true q69
  have z_any := of_decide_eq_true q70
  have z_all := of_decide_eq_true q71
  have z_sorted := of_decide_eq_true q72
  have z_max := of_decide_eq_true q73
  have z_min := of_decide_eq_true q74
  have z_NotImplementedError := of_decide_eq_true q75
  have z_set := of_decide_eq_true q76
  have z_repr := of_decide_eq_true q77
  have opq := of_decide_eq_true q78
  have top0 : (PySem.Challenge.pw_deedscale_k06_bad_scales.main.scope.names.lookup ("super" : Str)).isSome = false := rfl
  have a_CS := of_decide_eq_true q79
  have a_CW := of_decide_eq_true q80
  have a_CT := of_decide_eq_true q81
  have a_CP := of_decide_eq_true q82
  have a_CR := of_decide_eq_true q83
  have a_CC := of_decide_eq_true q84
  have a_CA := of_decide_eq_true q85
  have a_CV := of_decide_eq_true q86
  have a_CE := of_decide_eq_true q87
  have a_CH := of_decide_eq_true q88
  have pg_CT := q89
  have hd_CT := q90
  have po_CT := q91
  have sa_CT := of_decide_eq_true q92
  have na_CT_written_joins := of_decide_eq_true q93
  have na_CT_written_products := of_decide_eq_true q94
  have na_CT_label := of_decide_eq_true q95
  have na_CT_size := of_decide_eq_true q96
  have na_CT_never_at := of_decide_eq_true q97
  have na_CT_still_at := of_decide_eq_true q98
  have na_CT_depth := of_decide_eq_true q99
  have na_CT_worth_names := of_decide_eq_true q100
  have na_CT_worth_places := of_decide_eq_true q101
  have na_CT_product_table := of_decide_eq_true q102
  have na_CT_join_table := of_decide_eq_true q103
  have pg_CP := q104
  have hd_CP := q105
  have po_CP := q106
  have sa_CP := of_decide_eq_true q107
  have na_CP_left := of_decide_eq_true q108
  have na_CP_right := of_decide_eq_true q109
  have na_CP_label := of_decide_eq_true q110
  have na_CP_size := of_decide_eq_true q111
  have na_CP_never_at := of_decide_eq_true q112
  have na_CP_still_at := of_decide_eq_true q113
  have na_CP_depth := of_decide_eq_true q114
  have na_CP_worth_names := of_decide_eq_true q115
  have na_CP_worth_places := of_decide_eq_true q116
  have na_CP_product_table := of_decide_eq_true q117
  have na_CP_join_table := of_decide_eq_true q118
  have pg_CR := q119
  have hd_CR := q120
  have po_CR := q121
  have sa_CR := of_decide_eq_true q122
  have na_CR_inner := of_decide_eq_true q123
  have na_CR_label := of_decide_eq_true q124
  have na_CR_size := of_decide_eq_true q125
  have na_CR_never_at := of_decide_eq_true q126
  have na_CR_still_at := of_decide_eq_true q127
  have na_CR_depth := of_decide_eq_true q128
  have na_CR_worth_names := of_decide_eq_true q129
  have na_CR_worth_places := of_decide_eq_true q130
  have na_CR_product_table := of_decide_eq_true q131
  have na_CR_join_table := of_decide_eq_true q132
  have pg_CC := q133
  have hd_CC := q134
  have po_CC := q135
  have sa_CC := of_decide_eq_true q136
  have na_CC_most := of_decide_eq_true q137
  have na_CC_rising := of_decide_eq_true q138
  have na_CC_contents := of_decide_eq_true q139
  have na_CC_label := of_decide_eq_true q140
  have na_CC_size := of_decide_eq_true q141
  have na_CC_never_at := of_decide_eq_true q142
  have na_CC_still_at := of_decide_eq_true q143
  have na_CC_depth := of_decide_eq_true q144
  have na_CC_worth_names := of_decide_eq_true q145
  have na_CC_worth_places := of_decide_eq_true q146
  have na_CC_product_table := of_decide_eq_true q147
  have na_CC_join_table := of_decide_eq_true q148
  have pg_CA := q149
  have hd_CA := q150
  have po_CA := q151
  have sa_CA := of_decide_eq_true q152
  have na_CA_most := of_decide_eq_true q153
  have na_CA_contents := of_decide_eq_true q154
  have na_CA_label := of_decide_eq_true q155
  have na_CA_size := of_decide_eq_true q156
  have na_CA_never_at := of_decide_eq_true q157
  have na_CA_still_at := of_decide_eq_true q158
  have na_CA_depth := of_decide_eq_true q159
  have na_CA_worth_names := of_decide_eq_true q160
  have na_CA_worth_places := of_decide_eq_true q161
  have na_CA_product_table := of_decide_eq_true q162
  have na_CA_join_table := of_decide_eq_true q163
  have pg_CV := q164
  have hd_CV := q165
  have po_CV := q166
  have sa_CV := of_decide_eq_true q167
  have na_CV_states := of_decide_eq_true q168
  have na_CV_label := of_decide_eq_true q169
  have na_CV_size := of_decide_eq_true q170
  have na_CV_never_at := of_decide_eq_true q171
  have na_CV_still_at := of_decide_eq_true q172
  have na_CV_depth := of_decide_eq_true q173
  have na_CV_worth_names := of_decide_eq_true q174
  have na_CV_worth_places := of_decide_eq_true q175
  have na_CV_product_table := of_decide_eq_true q176
  have na_CV_join_table := of_decide_eq_true q177
  have pg_CE := q178
  have hd_CE := q179
  have po_CE := q180
  have sa_CE := of_decide_eq_true q181
  have na_CE_loose := of_decide_eq_true q182
  have na_CE_contents := of_decide_eq_true q183
  have na_CE_label := of_decide_eq_true q184
  have na_CE_size := of_decide_eq_true q185
  have na_CE_never_at := of_decide_eq_true q186
  have na_CE_still_at := of_decide_eq_true q187
  have na_CE_depth := of_decide_eq_true q188
  have na_CE_worth_names := of_decide_eq_true q189
  have na_CE_worth_places := of_decide_eq_true q190
  have na_CE_product_table := of_decide_eq_true q191
  have na_CE_join_table := of_decide_eq_true q192
  have pg_CH := q193
  have hd_CH := q194
  have po_CH := q195
  have sa_CH := of_decide_eq_true q196
  have na_CH_inner := of_decide_eq_true q197
  have na_CH_heaps := of_decide_eq_true q198
  have na_CH_label := of_decide_eq_true q199
  have na_CH_size := of_decide_eq_true q200
  have na_CH_never_at := of_decide_eq_true q201
  have na_CH_still_at := of_decide_eq_true q202
  have na_CH_depth := of_decide_eq_true q203
  have na_CH_worth_names := of_decide_eq_true q204
  have na_CH_worth_places := of_decide_eq_true q205
  have na_CH_product_table := of_decide_eq_true q206
  have na_CH_join_table := of_decide_eq_true q207
  have a_f_Scale___init__ := of_decide_eq_true q208
  have fiS := q209
  have tyS := of_decide_eq_true q210
  obtain ⟨tM, gM⟩ := nsInt_of q211
  have a_f_cut_down := of_decide_eq_true q212
  have a_f_number_name := of_decide_eq_true q213
  have a_f_digits_of := of_decide_eq_true q214
  obtain ⟨tS, gS⟩ := nsStr_of q215
  have a_f_is_table_name := of_decide_eq_true q216
  have a_f_table_places := of_decide_eq_true q217
  obtain ⟨tD, gD⟩ := nsInt_of q218
  have a_f_depth_above := of_decide_eq_true q219
  have a_f_half_places := of_decide_eq_true q220
  have a_CT_f_Scale_then_at := of_decide_eq_true q221
  have i_Scale_then_at := q222
  have a_CP_f_Scale_then_at := of_decide_eq_true q223
  have a_CR_f_Scale_then_at := of_decide_eq_true q224
  have a_CC_f_Scale_then_at := of_decide_eq_true q225
  have a_CA_f_Scale_then_at := of_decide_eq_true q226
  have a_CV_f_Scale_then_at := of_decide_eq_true q227
  have a_CE_f_Scale_then_at := of_decide_eq_true q228
  have a_CH_f_Scale_then_at := of_decide_eq_true q229
  have a_CT_f_Scale_join_at := of_decide_eq_true q230
  have i_Scale_join_at := q231
  have a_CP_f_Scale_join_at := of_decide_eq_true q232
  have a_CR_f_Scale_join_at := of_decide_eq_true q233
  have a_CC_f_Scale_join_at := of_decide_eq_true q234
  have a_CA_f_Scale_join_at := of_decide_eq_true q235
  have a_CV_f_Scale_join_at := of_decide_eq_true q236
  have a_CE_f_Scale_join_at := of_decide_eq_true q237
  have a_CH_f_Scale_join_at := of_decide_eq_true q238
  have a_CT_f_Scale_name_at := of_decide_eq_true q239
  have i_Scale_name_at := q240
  have a_CP_f_Scale_name_at := of_decide_eq_true q241
  have a_CR_f_Scale_name_at := of_decide_eq_true q242
  have a_CC_f_Scale_name_at := of_decide_eq_true q243
  have a_CA_f_Scale_name_at := of_decide_eq_true q244
  have a_CV_f_Scale_name_at := of_decide_eq_true q245
  have a_CE_f_Scale_name_at := of_decide_eq_true q246
  have a_CH_f_Scale_name_at := of_decide_eq_true q247
  have a_CT_f_TableScale_make_then := of_decide_eq_true q248
  have i_TableScale_make_then := q249
  have a_CT_f_TableScale_make_join := of_decide_eq_true q250
  have i_TableScale_make_join := q251
  have a_CP_f_PairScale_make_then := of_decide_eq_true q252
  have i_PairScale_make_then := q253
  have a_CP_f_PairScale_make_join := of_decide_eq_true q254
  have i_PairScale_make_join := q255
  have a_CR_f_TurnedScale_make_then := of_decide_eq_true q256
  have i_TurnedScale_make_then := q257
  have a_CR_f_TurnedScale_make_join := of_decide_eq_true q258
  have i_TurnedScale_make_join := q259
  have a_CC_f_CountScale_behind := of_decide_eq_true q260
  have i_CountScale_behind := q261
  have a_CC_f_CountScale_either := of_decide_eq_true q262
  have i_CountScale_either := q263
  have a_CC_f_WithNever_make_then := of_decide_eq_true q264
  have i_WithNever_make_then := q265
  have a_CC_f_WithNever_make_join := of_decide_eq_true q266
  have i_WithNever_make_join := q267
  have a_CA_f_SpanScale_behind := of_decide_eq_true q268
  have i_SpanScale_behind := q269
  have a_CA_f_SpanScale_either := of_decide_eq_true q270
  have i_SpanScale_either := q271
  have a_CA_f_WithNever_make_then := of_decide_eq_true q272
  have a_CA_f_WithNever_make_join := of_decide_eq_true q273
  have a_CV_f_WatchScale_arrows := of_decide_eq_true q274
  have i_WatchScale_arrows := q275
  have a_CV_f_WatchScale_make_then := of_decide_eq_true q276
  have i_WatchScale_make_then := q277
  have a_CV_f_WatchScale_make_join := of_decide_eq_true q278
  have i_WatchScale_make_join := q279
  have a_CE_f_SetScale_behind := of_decide_eq_true q280
  have i_SetScale_behind := q281
  have a_CE_f_SetScale_either := of_decide_eq_true q282
  have i_SetScale_either := q283
  have a_CE_f_WithNever_make_then := of_decide_eq_true q284
  have a_CE_f_WithNever_make_join := of_decide_eq_true q285
  have a_CH_f_HeapScale_make_then := of_decide_eq_true q286
  have i_HeapScale_make_then := q287
  have a_CH_f_HeapScale_make_join := of_decide_eq_true q288
  have i_HeapScale_make_join := q289
  have a_f_WithNever___init__ := of_decide_eq_true q290
  obtain ⟨q3_WithNever___init__, e3_WithNever___init__, cl_WithNever___init__, g3_WithNever___init__, lD_WithNever___init__⟩ := ckCls_ok2 q291
  have mW_CC := of_decide_eq_true q292
  have sW_CC := of_decide_eq_true q293
  have mW_CA := of_decide_eq_true q294
  have sW_CA := of_decide_eq_true q295
  have mW_CE := of_decide_eq_true q296
  have sW_CE := of_decide_eq_true q297
  have a_f_TableScale___init__ := of_decide_eq_true q298
  obtain ⟨q3_TableScale___init__, e3_TableScale___init__, cl_TableScale___init__, g3_TableScale___init__, lD_TableScale___init__⟩ := ckCls_ok2 q299
  have mCT := of_decide_eq_true q300
  have sCT := of_decide_eq_true q301
  have mk_CT := q302
  have fnCT := q303
  have kp_CT := q304
  have a_f_PairScale___init__ := of_decide_eq_true q305
  obtain ⟨q3_PairScale___init__, e3_PairScale___init__, cl_PairScale___init__, g3_PairScale___init__, lD_PairScale___init__⟩ := ckCls_ok2 q306
  have mCP := of_decide_eq_true q307
  have sCP := of_decide_eq_true q308
  have mk_CP := q309
  have fnCP := q310
  have kp_CP := q311
  have a_f_TurnedScale___init__ := of_decide_eq_true q312
  obtain ⟨q3_TurnedScale___init__, e3_TurnedScale___init__, cl_TurnedScale___init__, g3_TurnedScale___init__, lD_TurnedScale___init__⟩ := ckCls_ok2 q313
  have mCR := of_decide_eq_true q314
  have sCR := of_decide_eq_true q315
  have mk_CR := q316
  have fnCR := q317
  have kp_CR := q318
  have a_f_CountScale___init__ := of_decide_eq_true q319
  obtain ⟨q3_CountScale___init__, e3_CountScale___init__, cl_CountScale___init__, g3_CountScale___init__, lD_CountScale___init__⟩ := ckCls_ok2 q320
  have mCC := of_decide_eq_true q321
  have sCC := of_decide_eq_true q322
  have mk_CC := q323
  have fnCC := q324
  have kp_CC := q325
  have a_f_SpanScale___init__ := of_decide_eq_true q326
  obtain ⟨q3_SpanScale___init__, e3_SpanScale___init__, cl_SpanScale___init__, g3_SpanScale___init__, lD_SpanScale___init__⟩ := ckCls_ok2 q327
  have mCA := of_decide_eq_true q328
  have sCA := of_decide_eq_true q329
  have mk_CA := q330
  have fnCA := q331
  have kp_CA := q332
  have a_f_WatchScale___init__ := of_decide_eq_true q333
  obtain ⟨q3_WatchScale___init__, e3_WatchScale___init__, cl_WatchScale___init__, g3_WatchScale___init__, lD_WatchScale___init__⟩ := ckCls_ok2 q334
  have mCV := of_decide_eq_true q335
  have sCV := of_decide_eq_true q336
  have mk_CV := q337
  have fnCV := q338
  have kp_CV := q339
  have a_f_SetScale___init__ := of_decide_eq_true q340
  obtain ⟨q3_SetScale___init__, e3_SetScale___init__, cl_SetScale___init__, g3_SetScale___init__, lD_SetScale___init__⟩ := ckCls_ok2 q341
  have mCE := of_decide_eq_true q342
  have sCE := of_decide_eq_true q343
  have mk_CE := q344
  have fnCE := q345
  have kp_CE := q346
  have a_f_HeapScale___init__ := of_decide_eq_true q347
  obtain ⟨q3_HeapScale___init__, e3_HeapScale___init__, cl_HeapScale___init__, g3_HeapScale___init__, lD_HeapScale___init__⟩ := ckCls_ok2 q348
  have mCH := of_decide_eq_true q349
  have sCH := of_decide_eq_true q350
  have mk_CH := q351
  have fnCH := q352
  have kp_CH := q353
  have a_f__law_source := of_decide_eq_true q354
  have a_f__law_pick := of_decide_eq_true q355
  have a_f__law_like := of_decide_eq_true q356
  have a_f__law_number := of_decide_eq_true q357
  have a_f__law_family_size := of_decide_eq_true q358
  have a_f__law_family := of_decide_eq_true q359
  have a_f__law_around := of_decide_eq_true q360
  have a_f__law_due := of_decide_eq_true q361
  have a_f__law_deep_right := of_decide_eq_true q362
  have a_f_law := of_decide_eq_true q363
  have xsp_ := of_decide_eq_true q364
  have xtk_ := of_decide_eq_true q365
  have a_A_BadScale := of_decide_eq_true q366
  have xh_BadScale := q367
  have xe_BadScale := of_decide_eq_true q368
  have xk_BadScale := q369
  have xg_BadScale := of_decide_eq_true q370
  have xgg_BadScale := of_decide_eq_true q371
  have xcl_BadScale := of_decide_eq_true q372
  have xmo_BadScale := of_decide_eq_true q373
  have xt_BadScale := of_decide_eq_true q374
  have xte_BadScale := of_decide_eq_true q375
  have q_BadScale := q376
  have a_CDe := of_decide_eq_true q377
  have kDe := of_decide_eq_true q378
  exact all_mk (l := PySem.Challenge.rw_deedscale_k06_bad_scales) X G hfa z_int z_abs z_range z_len z_isinstance z_bool z_str z_list z_tuple z_dict z_enumerate z_zip z_reversed z_ValueError z_LookupError z_KeyError z_Exception z_super z_sum z_any z_all z_sorted z_max z_min z_NotImplementedError z_set z_repr opq top0 a_CS a_CW a_CT a_CP a_CR a_CC a_CA a_CV a_CE a_CH pg_CT hd_CT po_CT sa_CT na_CT_written_joins na_CT_written_products na_CT_label na_CT_size na_CT_never_at na_CT_still_at na_CT_depth na_CT_worth_names na_CT_worth_places na_CT_product_table na_CT_join_table pg_CP hd_CP po_CP sa_CP na_CP_left na_CP_right na_CP_label na_CP_size na_CP_never_at na_CP_still_at na_CP_depth na_CP_worth_names na_CP_worth_places na_CP_product_table na_CP_join_table pg_CR hd_CR po_CR sa_CR na_CR_inner na_CR_label na_CR_size na_CR_never_at na_CR_still_at na_CR_depth na_CR_worth_names na_CR_worth_places na_CR_product_table na_CR_join_table pg_CC hd_CC po_CC sa_CC na_CC_most na_CC_rising na_CC_contents na_CC_label na_CC_size na_CC_never_at na_CC_still_at na_CC_depth na_CC_worth_names na_CC_worth_places na_CC_product_table na_CC_join_table pg_CA hd_CA po_CA sa_CA na_CA_most na_CA_contents na_CA_label na_CA_size na_CA_never_at na_CA_still_at na_CA_depth na_CA_worth_names na_CA_worth_places na_CA_product_table na_CA_join_table pg_CV hd_CV po_CV sa_CV na_CV_states na_CV_label na_CV_size na_CV_never_at na_CV_still_at na_CV_depth na_CV_worth_names na_CV_worth_places na_CV_product_table na_CV_join_table pg_CE hd_CE po_CE sa_CE na_CE_loose na_CE_contents na_CE_label na_CE_size na_CE_never_at na_CE_still_at na_CE_depth na_CE_worth_names na_CE_worth_places na_CE_product_table na_CE_join_table pg_CH hd_CH po_CH sa_CH na_CH_inner na_CH_heaps na_CH_label na_CH_size na_CH_never_at na_CH_still_at na_CH_depth na_CH_worth_names na_CH_worth_places na_CH_product_table na_CH_join_table a_f_Scale___init__ l_Scale___init__ c_Scale___init__ k_Scale___init__ lT fiS tyS gM a_f_cut_down l_cut_down c_cut_down k_cut_down a_f_number_name l_number_name c_number_name k_number_name a_f_digits_of l_digits_of c_digits_of k_digits_of gS a_f_is_table_name l_is_table_name c_is_table_name k_is_table_name a_f_table_places l_table_places c_table_places k_table_places gD a_f_depth_above l_depth_above c_depth_above k_depth_above a_f_half_places l_half_places c_half_places k_half_places a_CT_f_Scale_then_at i_Scale_then_at l_Scale_then_at c_Scale_then_at k_Scale_then_at a_CP_f_Scale_then_at a_CR_f_Scale_then_at a_CC_f_Scale_then_at a_CA_f_Scale_then_at a_CV_f_Scale_then_at a_CE_f_Scale_then_at a_CH_f_Scale_then_at a_CT_f_Scale_join_at i_Scale_join_at l_Scale_join_at c_Scale_join_at k_Scale_join_at a_CP_f_Scale_join_at a_CR_f_Scale_join_at a_CC_f_Scale_join_at a_CA_f_Scale_join_at a_CV_f_Scale_join_at a_CE_f_Scale_join_at a_CH_f_Scale_join_at a_CT_f_Scale_name_at i_Scale_name_at l_Scale_name_at c_Scale_name_at k_Scale_name_at a_CP_f_Scale_name_at a_CR_f_Scale_name_at a_CC_f_Scale_name_at a_CA_f_Scale_name_at a_CV_f_Scale_name_at a_CE_f_Scale_name_at a_CH_f_Scale_name_at a_CT_f_TableScale_make_then i_TableScale_make_then l_TableScale_make_then c_TableScale_make_then k_TableScale_make_then a_CT_f_TableScale_make_join i_TableScale_make_join l_TableScale_make_join c_TableScale_make_join k_TableScale_make_join a_CP_f_PairScale_make_then i_PairScale_make_then l_PairScale_make_then c_PairScale_make_then k_PairScale_make_then a_CP_f_PairScale_make_join i_PairScale_make_join l_PairScale_make_join c_PairScale_make_join k_PairScale_make_join a_CR_f_TurnedScale_make_then i_TurnedScale_make_then l_TurnedScale_make_then c_TurnedScale_make_then k_TurnedScale_make_then a_CR_f_TurnedScale_make_join i_TurnedScale_make_join l_TurnedScale_make_join c_TurnedScale_make_join k_TurnedScale_make_join a_CC_f_CountScale_behind i_CountScale_behind l_CountScale_behind c_CountScale_behind k_CountScale_behind a_CC_f_CountScale_either i_CountScale_either l_CountScale_either c_CountScale_either k_CountScale_either a_CC_f_WithNever_make_then i_WithNever_make_then l_WithNever_make_then c_WithNever_make_then k_WithNever_make_then a_CC_f_WithNever_make_join i_WithNever_make_join l_WithNever_make_join c_WithNever_make_join k_WithNever_make_join a_CA_f_SpanScale_behind i_SpanScale_behind l_SpanScale_behind c_SpanScale_behind k_SpanScale_behind a_CA_f_SpanScale_either i_SpanScale_either l_SpanScale_either c_SpanScale_either k_SpanScale_either a_CA_f_WithNever_make_then a_CA_f_WithNever_make_join a_CV_f_WatchScale_arrows i_WatchScale_arrows l_WatchScale_arrows c_WatchScale_arrows k_WatchScale_arrows a_CV_f_WatchScale_make_then i_WatchScale_make_then l_WatchScale_make_then c_WatchScale_make_then k_WatchScale_make_then a_CV_f_WatchScale_make_join i_WatchScale_make_join l_WatchScale_make_join c_WatchScale_make_join k_WatchScale_make_join a_CE_f_SetScale_behind i_SetScale_behind l_SetScale_behind c_SetScale_behind k_SetScale_behind a_CE_f_SetScale_either i_SetScale_either l_SetScale_either c_SetScale_either k_SetScale_either a_CE_f_WithNever_make_then a_CE_f_WithNever_make_join a_CH_f_HeapScale_make_then i_HeapScale_make_then l_HeapScale_make_then c_HeapScale_make_then k_HeapScale_make_then a_CH_f_HeapScale_make_join i_HeapScale_make_join l_HeapScale_make_join c_HeapScale_make_join k_HeapScale_make_join a_f_WithNever___init__ ty_WithNever___init__ l_WithNever___init__ c_WithNever___init__ lc_WithNever___init__ hv_WithNever___init__ hf_WithNever___init__ lx_WithNever___init__ lD_WithNever___init__ k_WithNever___init__ fi2_WithNever___init__ mW_CC sW_CC mW_CA sW_CA mW_CE sW_CE a_f_TableScale___init__ ty_TableScale___init__ l_TableScale___init__ c_TableScale___init__ lc_TableScale___init__ hv_TableScale___init__ hf_TableScale___init__ lx_TableScale___init__ lD_TableScale___init__ k_TableScale___init__ fi2_TableScale___init__ mCT sCT mk_CT fnCT kp_CT a_f_PairScale___init__ ty_PairScale___init__ l_PairScale___init__ c_PairScale___init__ lc_PairScale___init__ hv_PairScale___init__ hf_PairScale___init__ lx_PairScale___init__ lD_PairScale___init__ k_PairScale___init__ fi2_PairScale___init__ mCP sCP mk_CP fnCP kp_CP a_f_TurnedScale___init__ ty_TurnedScale___init__ l_TurnedScale___init__ c_TurnedScale___init__ lc_TurnedScale___init__ hv_TurnedScale___init__ hf_TurnedScale___init__ lx_TurnedScale___init__ lD_TurnedScale___init__ k_TurnedScale___init__ fi2_TurnedScale___init__ mCR sCR mk_CR fnCR kp_CR a_f_CountScale___init__ ty_CountScale___init__ l_CountScale___init__ c_CountScale___init__ lc_CountScale___init__ hv_CountScale___init__ hf_CountScale___init__ lx_CountScale___init__ lD_CountScale___init__ k_CountScale___init__ fi2_CountScale___init__ kw_CountScale___init__ mCC sCC mk_CC fnCC kp_CC a_f_SpanScale___init__ ty_SpanScale___init__ l_SpanScale___init__ c_SpanScale___init__ lc_SpanScale___init__ hv_SpanScale___init__ hf_SpanScale___init__ lx_SpanScale___init__ lD_SpanScale___init__ k_SpanScale___init__ fi2_SpanScale___init__ mCA sCA mk_CA fnCA kp_CA a_f_WatchScale___init__ ty_WatchScale___init__ l_WatchScale___init__ c_WatchScale___init__ lc_WatchScale___init__ hv_WatchScale___init__ hf_WatchScale___init__ lx_WatchScale___init__ lD_WatchScale___init__ k_WatchScale___init__ fi2_WatchScale___init__ mCV sCV mk_CV fnCV kp_CV a_f_SetScale___init__ ty_SetScale___init__ l_SetScale___init__ c_SetScale___init__ lc_SetScale___init__ hv_SetScale___init__ hf_SetScale___init__ lx_SetScale___init__ lD_SetScale___init__ k_SetScale___init__ fi2_SetScale___init__ kw_SetScale___init__ mCE sCE mk_CE fnCE kp_CE a_f_HeapScale___init__ ty_HeapScale___init__ l_HeapScale___init__ c_HeapScale___init__ lc_HeapScale___init__ hv_HeapScale___init__ hf_HeapScale___init__ lx_HeapScale___init__ lD_HeapScale___init__ k_HeapScale___init__ fi2_HeapScale___init__ mCH sCH mk_CH fnCH kp_CH a_f__law_source l__law_source c__law_source k__law_source a_f__law_pick l__law_pick c__law_pick k__law_pick a_f__law_like l__law_like c__law_like k__law_like a_f__law_number l__law_number c__law_number k__law_number a_f__law_family_size l__law_family_size c__law_family_size k__law_family_size a_f__law_family l__law_family c__law_family k__law_family a_f__law_around l__law_around c__law_around k__law_around a_f__law_due l__law_due c__law_due k__law_due a_f__law_deep_right l__law_deep_right c__law_deep_right k__law_deep_right a_f_law l_law c_law k_law xsp_ xtk_ a_A_BadScale xh_BadScale xe_BadScale xk_BadScale xg_BadScale xgg_BadScale xcl_BadScale xmo_BadScale xt_BadScale xte_BadScale q_BadScale a_CDe kDe
end L2.DS
open PySem PySem.W PySem.Calls PyProof.Rows
set_option maxRecDepth 100000 in
set_option maxHeartbeats 0 in
theorem PySem.Challenge.cw_deedscale_k06_bad_scales_holds : PySem.Challenge.rw_deedscale_k06_bad_scales.Holds := by
  w_on; o_law
  refine HandSHeadRun.head_any (r := L2.DS.RH) (q := L2.DS.qH) (H := L2.DS.hookB 8000 L2.DS.fsH L2.DS.dfsH []) (ob := L2.DS.obH) (M := 12000) (loose := L2.DS.namesH) (d := HandSHeadRun.topDef L2.DS.RH.prog 37) (kwd := []) L2.DS.obH_eq
    (by kernel_rfl) (fun s => by kernel_rfl) L2.DS.runH (by kernel_rfl) (by kernel_rfl) (by kernel_rfl) (by rfl) (by first | assumption | decide +kernel) (by decide +kernel) ⟨rfl, rfl, rfl, rfl, rfl, by decide +kernel⟩ ?hw ?hc
  case hw => w_witness2
  case hc =>
    refine L2.walk_ofE (l := PySem.Challenge.rw_deedscale_k06_bad_scales) (n := 63) (k := 14) (x := "_law_script") (CX := L2.CX0) rfl (by decide) (by kernel_rfl) ⟨rfl, by decide, by decide⟩ ?F (fun _ _ _ _ z => z)
    intro w mg fa h Y G hmg0
    obtain ⟨K, KX, c⟩ := Y
    have hmg : mg ("law" : PySem.Str) = some (.ref fa) := by
      have e : (HandSHeadRun.topDef L2.DS.RH.prog 37).name = ("law" : PySem.Str) := by kernel_rfl
      rw [← e]
      exact hmg0
    obtain ⟨fd, hb, hF⟩ := L2.DS.facts_mk KX G hmg c
    exact ⟨K, fd, L2.DS.sp_law K, KX, hb, fun H a ns hl _ hS => ⟨a, ns, rfl, hS, hl, fun _ => rfl⟩, hF⟩
#print axioms PySem.Challenge.cw_deedscale_k06_bad_scales_holds
