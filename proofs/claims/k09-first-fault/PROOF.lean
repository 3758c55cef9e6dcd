import PyProof.Rows.All
import Wide.All
import OpenK.AllK
import Wide.FinOn
import KE.KStateDown
import HandS.Words
import KE.KExcInit
import HandS.Defaults
import HandS.Head0
import HandS.Head1
import HandS.Head2
import HandS.HeadHook1
import HandS.HeadHook2
import HandS.HeadHook3
import PySem.Challenge.RW_deedscale_k09_first_fault
import KE.KExcSuper
import HandS.ForMost
import HandS.ForExc
import HandS.ExcInit
import HandS.ClsMeth
import HandS.More
import HandS.Wide
import HandS.Flow
import HandS.IsInst
import HandS.Dict
import HandS.Star
import HandS.DictComp
import HandS.FStr
import HandS.Walk
import HandS.MakeKwOnly
import HandS.WordsExc
import HandS.Conv
import KE.KIndexOf
import PyProof.SeqIndex
import HandS.ExcIs
import HandS.ExcOwn
import HandS.Text
import HandS.ExcValue
import PyProof.StrOps2
import HandS.Deep
import PyProof.StrBlock2
import PyProof.StrBlockL
import HandS.Iter
import PyProof.Rows.StrMul
import HandS.CallLocal
import HandS.TupAny
import HandS.SlotsOwn
import HandS.Property
import HandS.Codes
import KE.KFmtOwn
import KE.KOpsOwn
import PyProof.InstEq
import HandS.ReplaceLit
import HandS.ReplaceDef
import HandS.ReplaceList
import PyProof.Rows.StrSplitJoin
import HandS.TryOnly
import KE.KCallOwn
import HandS.TupLe
import HandS.RaiseMore
import HandS.HeadEnd
set_option Elab.async false
set_option linter.all false
set_option maxRecDepth 100000
set_option maxHeartbeats 4000000
/-! The head by one run of the kernel, with a look of one's own: facts as Bools of what the top has left, functions and tables by their texts. -/
namespace L2.DS
open PySem PySem.Spec PyProof.Rows
abbrev Fg := PySem.W.Frag
/-- a function as its text has it -/
abbrev FnU : Type := Option (Str × Str × Arguments × FuncBody × Scope × Addr × Addr)
def fnU (K : Fg) (f : Addr) : FnU := match K.lookup f with
  | some ⟨_, _, .func fd, _⟩ => some (fd.name, fd.qualname, fd.params, fd.body, fd.scope, fd.globals, fd.builtins)
  | _ => none
def fdA (K : Fg) (f : Addr) : FuncData := match K.lookup f with
  | some ⟨_, _, .func fd, _⟩ => fd
  | _ => default
structure Df where
  at_ : Fg → Addr
  name : Str
  qual : Str
  st : Stmt
def Df.val (d : Df) : FnU := some (d.name, d.qual, defArgs d.st, .stmts (defBody d.st), defScope d.st, mainGlobals, builtinsNs)
/-- all that is reached of some addresses: each once, told by a mask -/
def reachG (g : Addr → Option Obj) : Nat → List Addr → Nat → Fg
  | 0, _, _ => []
  | n + 1, as, M => match as with
    | [] => []
    | a :: q => match Nat.beq (Nat.mod (Nat.shiftRight M a) 2) 1 with
      | true => reachG g n q M
      | false => match g a with
        | none => reachG g n q M
        | some o => HandSHeadRun.frNat (Nat.lor M (Nat.shiftLeft 1 a)) fun M' => (a, o) :: reachG g n (He.refsD o ++ q) M'
theorem reachG_in {g : Addr → Option Obj} : ∀ {n : Nat} {as : List Addr} {M : Nat} {a : Addr} {o : Obj}, (a, o) ∈ reachG g n as M → g a = some o
  | 0, _, _, _, _, h => by cases h
  | n + 1, [], _, _, _, h => by cases h
  | n + 1, b :: q, M, a, o, h => by
    unfold reachG at h
    dsimp only at h
    split at h
    · exact reachG_in h
    · cases hb : g b with
      | none =>
        rw [hb] at h
        exact reachG_in h
      | some ob =>
        rw [hb] at h
        dsimp only at h
        rw [HandSHeadRun.frNat_eq] at h
        rcases List.mem_cons.mp h with e | e
        · cases e
          exact hb
        · exact reachG_in e
theorem look_mem {K : Fg} {a : Addr} {o : Obj} : K.lookup a = some o → (a, o) ∈ K := fun h => by
  induction K with
  | nil => cases h
  | cons p r ih =>
    obtain ⟨b, u⟩ := p
    rw [List.lookup_cons] at h
    split at h
    · rename_i e
      cases h
      rw [beq_iff_eq.mp e]
      exact List.mem_cons_self
    · exact List.mem_cons_of_mem _ (ih h)
def fragB (n : Nat) (g : Addr → Option Obj) : Fg := reachG g n [mainGlobals, cStatics] 0
theorem fragB_in {n : Nat} {h : Heap} : (fragB n h.get?).In h := fun _ _ e => reachG_in (look_mem e)
/-! ### the look -/
abbrev AlB : Type := (Bool × List FnU) × List (Option (List (Option (Str × Int))))
def obsB (fs : List (Fg → Bool)) (dfs : List Df) (ts : List He.Tab) (K : Fg) : AlB := ((fs.all fun f => f K, dfs.map fun d => fnU K (d.at_ K)), ts.map fun t => He.dicW K (t.1 K))
def valB (dfs : List Df) (ts : List He.Tab) (w : World) : AlB := ((true, dfs.map Df.val), ts.map fun t => some (He.keysIn w.params t.2))
def SaysB (fs : List (Fg → Bool)) (dfs : List Df) (ts : List He.Tab) (w : World) (K : Fg) : Prop := obsB fs dfs ts K = valB dfs ts w
def obsBG (n : Nat) (fs : List (Fg → Bool)) (dfs : List Df) (ts : List He.Tab) (g : Addr → Option Obj) : AlB := obsB fs dfs ts (fragB n g)
def hookB (n : Nat) (fs : List (Fg → Bool)) (dfs : List Df) (ts : List He.Tab) : PySem.W.Hook where
  α := AlB
  obs := fun s => obsBG n fs dfs ts s.heap.get?
  val := fun w => valB dfs ts w
  says := fun w h => ∃ K : Fg, K.In h ∧ SaysB fs dfs ts w K
  of := fun _ _ e => ⟨_, fragB_in, e⟩
  keeps := fun _ _ _ ⟨K, hK, c⟩ k => ⟨K, PySem.W.Frag.In.keeps hK k, c⟩
theorem obsBG_eq {n : Nat} {fs : List (Fg → Bool)} {dfs : List Df} {ts : List He.Tab} {g : Addr → Option Obj} {s : Shared} (h : ∀ a, g a = s.heap.get? a) : obsBG n fs dfs ts g = (hookB n fs dfs ts).obs s := by
  have e : g = s.heap.get? := funext h
  rw [e] <;> rfl
section
variable {fs : List (Fg → Bool)} {dfs : List Df} {ts : List He.Tab} {w : World} {K : Fg}
theorem SaysB.all (c : SaysB fs dfs ts w K) : (fs.all fun f => f K) = true := congrArg (fun z : AlB => z.1.1) c
theorem SaysB.fact (c : SaysB fs dfs ts w K) (i : Nat) {f : Fg → Bool} (h : fs[i]? = some f := by rfl) : f K = true := List.all_eq_true.mp c.all f (List.mem_of_getElem? h)
theorem SaysB.fn (c : SaysB fs dfs ts w K) (i : Nat) {d : Df} (h : dfs[i]? = some d := by rfl) : fnU K (d.at_ K) = d.val := by
  have e : dfs.map (fun d => fnU K (d.at_ K)) = dfs.map Df.val := congrArg (fun z : AlB => z.1.2) c
  have e2 : (dfs.map fun d => fnU K (d.at_ K))[i]? = (dfs.map Df.val)[i]? := by rw [e]
  rw [List.getElem?_map, List.getElem?_map, h] at e2
  exact Option.some.inj e2
theorem SaysB.tab (c : SaysB fs dfs ts w K) (i : Nat) {t : He.Tab} (h : ts[i]? = some t := by rfl) : ∃ es n, KDict K w (t.1 K) es n := by
  have e : ts.map (fun t => He.dicW K (t.1 K)) = ts.map fun t => some (He.keysIn w.params t.2) := congrArg (fun z : AlB => z.2) c
  have e2 : (ts.map fun t => He.dicW K (t.1 K))[i]? = (ts.map fun t => some (He.keysIn w.params t.2))[i]? := by rw [e]
  rw [List.getElem?_map, List.getElem?_map, h] at e2
  exact He.dicW_ok (Option.some.inj e2)
end
/-! ### checks -/
def isNon : Value → Bool
  | .none => true
  | _ => false
theorem isNon_ok {v : Value} (h : isNon v = true) : v = .none := by
  cases v <;> first | rfl | cases h
/-- a plain def: no closure, no defaults -/
def ckFn (K : Fg) (f : Addr) (qual : Str) : Bool := PySem.W.keepIn K (.ref f) && (match K.lookup f with
  | some ⟨_, _, .func fd, _⟩ => fd.closure.isEmpty && (isNon fd.defaults && PySem.W.codeIn K fd.code qual)
  | _ => false)
/-- a def with whole numbers as defaults -/
def intV (i : Int) : Value → Bool
  | .int j _ => decide (i = j)
  | _ => false
def ckDflL (i : Int) : List Value → Bool
  | [u] => intV i u
  | _ => false
def ckDflT (i : Int) : Option Obj → Bool
  | some ⟨_, _, .seq its _, _⟩ => ckDflL i its.toList
  | _ => false
def ckDfl (K : Fg) (i : Int) : Value → Bool
  | .ref T => ckDflT i (K.lookup T)
  | _ => false
def ckFnI (K : Fg) (f : Addr) (qual : Str) (i : Int) : Bool := PySem.W.keepIn K (.ref f) && (match K.lookup f with
  | some ⟨_, _, .func fd, _⟩ => fd.closure.isEmpty && (PySem.W.codeIn K fd.code qual && ckDfl K i fd.defaults)
  | _ => false)
/-- a def with a closure over its class -/
def ckFile (file : Str) (vs : Array Value) : Bool := match (vs[2]? : Option Value) with
  | some (.str fi _) => file == fi
  | _ => false
def ckCell (D : Addr) : Option Obj → Bool
  | some ⟨_, _, .cell (some (.ref D')), _⟩ => decide (D' = D)
  | _ => false
def ckClo (K : Fg) (D : Addr) : List (Str × Addr) → Bool
  | [(x, cc)] => decide (x = ("__class__" : Str)) && ckCell D (K.lookup cc)
  | _ => false
def ckFlds (file : Str) : Option Obj → Bool
  | some ⟨_, _, .fields vs, _⟩ => ckFile file vs
  | _ => false
def ckCode (file : Str) (K : Fg) (qual : Str) : Value → Bool
  | .ref cda => PySem.W.codeIn K (.ref cda) qual && ckFlds file (K.lookup cda)
  | _ => false
def ckSup (file : Str) (K : Fg) (f D : Addr) (qual : Str) : Bool := PySem.W.keepIn K (.ref f) && (PySem.W.fnIn K f && (decide (PySem.W.typeIn K (.ref f) = some (.type "function")) && (match K.lookup f with
  | some ⟨_, _, .func fd, _⟩ => isNon fd.defaults && (ckClo K D fd.closure && ckCode file K qual fd.code)
  | _ => false)))
def ckCls (K : Fg) (D : Addr) : Bool := match K.lookup D with
  | some ⟨_, _, .cls _, _⟩ => true
  | _ => false
/-- a module's number, text -/
def ckInt (K : Fg) (x : Str) (i : Int) : Bool := match PySem.W.nsIn K mainGlobals x with
  | some (some (.int j _)) => decide (j = i)
  | _ => false
def ckStr (K : Fg) (x z : Str) : Bool := match PySem.W.nsIn K mainGlobals x with
  | some (some (.str y _)) => decide (y = z)
  | _ => false
/-- a tuple of known things -/
inductive PV where
  | ref (a : Addr)
  | str (z : Str)
  | int (i : Int)
def pvOk : PV → Value → Bool
  | .ref a, .ref b => decide (b = a)
  | .str z, .str y _ => decide (y = z)
  | .int i, .int j _ => decide (j = i)
  | _, _ => false
def pvsOk : List PV → List Value → Bool
  | [], [] => true
  | p :: ps, v :: vs => pvOk p v && pvsOk ps vs
  | _, _ => false
def ckTupO (ps : List PV) : Option Obj → Bool
  | some ⟨c, _, .seq vs _, _⟩ => decide (c = .type "tuple") && pvsOk ps vs.toList
  | _ => false
def ckTup (K : Fg) (a : Addr) (ps : List PV) : Bool := ckTupO ps (K.lookup a)
def tupA (K : Fg) (a : Addr) (i : Nat) : Addr := match K.lookup a with
  | some ⟨_, _, .seq vs _, _⟩ => (match vs.toList.getD i .none with
    | .ref r => r
    | _ => 0)
  | _ => 0
def PvIs : PV → Value → Prop
  | .ref a, v => v = .ref a
  | .str z, v => ∃ t, v = .str z t
  | .int i, v => ∃ t, v = .int i t
def PvsIs : List PV → List Value → Prop
  | [], vs => vs = []
  | p :: ps, vs => ∃ v r, vs = v :: r ∧ PvIs p v ∧ PvsIs ps r
/-! ### what they say -/
section
variable {K : Fg} {f D : Addr} {x qual file z : Str} {st : Stmt} {i : Int}
theorem fnU_ok (e : fnU K f = some (x, qual, defArgs st, .stmts (defBody st), defScope st, mainGlobals, builtinsNs)) : ∃ oc od osl cl dV kV doc pm an cdv ct, K.lookup f = some ⟨oc, od, .func ⟨x, qual, defArgs st, .stmts (defBody st), defScope st, mainGlobals, cl, dV, kV, doc, pm, an, cdv, ct, builtinsNs⟩, osl⟩ := by
  unfold fnU at e
  split at e
  · rename_i oc od fd osl h
    obtain ⟨n1, n2, n3, n4, n5, n6, n7, n8, n9, n10, n11, n12, n13, n14, n15⟩ := fd
    have eu : (some (n1, n2, n3, n4, n5, n6, n15) : FnU) = some (x, qual, defArgs st, .stmts (defBody st), defScope st, mainGlobals, builtinsNs) := e
    simp only [Prod.mk.injEq, Option.some.injEq] at eu
    obtain ⟨u1, u2, u3, u4, u5, u6, u7⟩ := eu
    subst u1 u2 u3 u4 u5 u6 u7
    exact ⟨oc, od, osl, n7, n8, n9, n10, n11, n12, n13, n14, h⟩
  · cases e
theorem and2 {a b : Bool} (h : (a && b) = true) : a = true ∧ b = true := Bool.and_eq_true_iff.mp h
theorem fun_of (e : fnU K f = some (x, qual, defArgs st, .stmts (defBody st), defScope st, mainGlobals, builtinsNs)) (c : ckFn K f qual = true) : ∃ fd, Fun K x qual st f fd := by
  obtain ⟨oc, od, osl, cl, dV, kV, doc, pm, an, cdv, ct, l⟩ := fnU_ok e
  obtain ⟨k, c⟩ := and2 c
  rw [l] at c
  obtain ⟨c1, c⟩ := and2 (show (cl.isEmpty && (isNon dV && PySem.W.codeIn K cdv qual)) = true from c)
  obtain ⟨c2, c3⟩ := and2 c
  obtain rfl := List.isEmpty_iff.mp c1
  obtain rfl := isNon_ok c2
  exact ⟨_, ⟨oc, od, kV, doc, pm, an, cdv, ct, osl, rfl, l, c3⟩, k⟩
theorem funI_of (e : fnU K f = some (x, qual, defArgs st, .stmts (defBody st), defScope st, mainGlobals, builtinsNs)) (c : ckFnI K f qual i = true) : ∃ fd, FunD K x qual (defArgs st) (defBody st) (defScope st) [.int i] [] f fd := by
  obtain ⟨oc, od, osl, cl, dV, kV, doc, pm, an, cdv, ct, l⟩ := fnU_ok e
  obtain ⟨k, c⟩ := and2 c
  rw [l] at c
  obtain ⟨c1, c⟩ := and2 c
  obtain ⟨c2, c3⟩ := and2 c
  obtain rfl := List.isEmpty_iff.mp c1
  refine ⟨_, ⟨oc, od, dV, kV, doc, pm, an, cdv, ct, osl, rfl, l, c2, ?_, .inl rfl⟩, k⟩
  cases dV with
  | ref T =>
    have c4 : ckDflT i (K.lookup T) = true := c3
    cases lT : K.lookup T with
    | none =>
      rw [lT] at c4
      cases c4
    | some o =>
      obtain ⟨o1, o2, o3, o4⟩ := o
      rw [lT] at c4
      cases o3 with
      | seq its n =>
        have c5 : ckDflL i its.toList = true := c4
        refine .inr ⟨by simp, T, _, its.toList, n, rfl, lT, by simp, ?_⟩
        match hl : its.toList, c5 with
        | [u], c6 =>
          refine .cons ?_ .nil
          have c7 : intV i u = true := c6
          cases u with
          | int j t => exact ⟨t, by rw [of_decide_eq_true c7]⟩
          | _ => cases c7
      | _ => cases c4
  | _ => cases c3
end
theorem pvOk_ok : ∀ {p : PV} {v : Value}, pvOk p v = true → PvIs p v
  | .ref a, .ref b, h => by rw [show b = a from of_decide_eq_true h]; rfl
  | .str z, .str y t, h => by rw [show y = z from of_decide_eq_true h]; exact ⟨t, rfl⟩
  | .int i, .int j t, h => by rw [show j = i from of_decide_eq_true h]; exact ⟨t, rfl⟩
theorem pvsOk_ok : ∀ {ps : List PV} {vs : List Value}, pvsOk ps vs = true → PvsIs ps vs
  | [], [], _ => rfl
  | p :: ps, v :: vs, h => by
    have h : (pvOk p v && pvsOk ps vs) = true := h
    rw [Bool.and_eq_true] at h
    exact ⟨v, vs, rfl, pvOk_ok h.1, pvsOk_ok h.2⟩
  | [], _ :: _, h => by cases h
  | _ :: _, [], h => by cases h
theorem tup_of {K : Fg} {a : Addr} {ps : List PV} (h : ckTup K a ps = true) : ∃ d n sl vs, PvsIs ps vs ∧ K.lookup a = some ⟨.type "tuple", d, .seq vs.toArray n, sl⟩ := by
  unfold ckTup ckTupO at h
  split at h
  · rename_i c d vs n sl e
    rw [Bool.and_eq_true] at h
    refine ⟨d, n, sl, vs.toList, pvsOk_ok h.2, ?_⟩
    rw [e, show c = .type "tuple" from of_decide_eq_true h.1]
  · cases h
end L2.DS
namespace L2.DS
open PySem PySem.Spec PyProof.Rows
def topH (i : Nat) : Stmt := PySem.Challenge.pw_deedscale_k09_first_fault.main.body.getD i (.Pass ⟨0, 0, 0, 0⟩)
def dfsH : List Df := ([⟨fun K => He.ma K (He.ga K "Scale") "__init__", "__init__", "Scale.__init__", inClass (topH 20) 0⟩, ⟨fun K => He.ga K "is_table_name", "is_table_name", "is_table_name", topH 21⟩, ⟨fun K => He.ga K "table_places", "table_places", "table_places", topH 22⟩, ⟨fun K => He.ga K "depth_above", "depth_above", "depth_above", topH 26⟩, ⟨fun K => He.ga K "half_places", "half_places", "half_places", topH 28⟩, ⟨fun K => He.ma K (He.ga K "TableScale") "then_at", "then_at", "Scale.then_at", inClass (topH 20) 3⟩, ⟨fun K => He.ma K (He.ga K "TableScale") "join_at", "join_at", "Scale.join_at", inClass (topH 20) 4⟩, ⟨fun K => He.ma K (He.ga K "TableScale") "name_at", "name_at", "Scale.name_at", inClass (topH 20) 6⟩, ⟨fun K => He.ma K (He.ga K "TableScale") "make_then", "make_then", "TableScale.make_then", inClass (topH 23) 1⟩, ⟨fun K => He.ma K (He.ga K "TableScale") "make_join", "make_join", "TableScale.make_join", inClass (topH 23) 2⟩, ⟨fun K => He.ma K (He.ga K "PairScale") "make_then", "make_then", "PairScale.make_then", inClass (topH 27) 1⟩, ⟨fun K => He.ma K (He.ga K "PairScale") "make_join", "make_join", "PairScale.make_join", inClass (topH 27) 2⟩, ⟨fun K => He.ma K (He.ga K "TurnedScale") "make_then", "make_then", "TurnedScale.make_then", inClass (topH 29) 1⟩, ⟨fun K => He.ma K (He.ga K "TurnedScale") "make_join", "make_join", "TurnedScale.make_join", inClass (topH 29) 2⟩, ⟨fun K => He.ma K (He.ga K "HeapScale") "make_then", "make_then", "HeapScale.make_then", inClass (topH 30) 1⟩, ⟨fun K => He.ma K (He.ga K "HeapScale") "make_join", "make_join", "HeapScale.make_join", inClass (topH 30) 2⟩, ⟨fun K => He.ma K (He.ga K "TableScale") "__init__", "__init__", "TableScale.__init__", inClass (topH 23) 0⟩, ⟨fun K => He.ma K (He.ga K "PairScale") "__init__", "__init__", "PairScale.__init__", inClass (topH 27) 0⟩, ⟨fun K => He.ma K (He.ga K "TurnedScale") "__init__", "__init__", "TurnedScale.__init__", inClass (topH 29) 0⟩, ⟨fun K => He.ma K (He.ga K "HeapScale") "__init__", "__init__", "HeapScale.__init__", inClass (topH 30) 0⟩, ⟨fun K => He.ga K "_law_source", "_law_source", "_law_source", topH 32⟩, ⟨fun K => He.ga K "_law_pick", "_law_pick", "_law_pick", topH 33⟩, ⟨fun K => He.ga K "_law_like", "_law_like", "_law_like", topH 38⟩, ⟨fun K => He.ga K "_law_join", "_law_join", "_law_join", topH 34⟩, ⟨fun K => He.ga K "_law_then", "_law_then", "_law_then", topH 35⟩, ⟨fun K => He.ga K "_law_tables", "_law_tables", "_law_tables", topH 36⟩, ⟨fun K => He.ga K "_law_table_scale", "_law_table_scale", "_law_table_scale", topH 37⟩, ⟨fun K => He.ga K "_law_fails", "_law_fails", "_law_fails", topH 39⟩, ⟨fun K => He.ga K "_law_fault", "_law_fault", "_law_fault", topH 40⟩, ⟨fun K => He.ga K "_law_scale_of", "_law_scale_of", "_law_scale_of", topH 43⟩] : List Df) ++ ([⟨fun K => He.ga K "_law_free", "_law_free", "_law_free", topH 41⟩, ⟨fun K => He.ga K "_law_change", "_law_change", "_law_change", topH 42⟩, ⟨fun K => He.ga K "_law_pair_right", "_law_pair_right", "_law_pair_right", topH 44⟩, ⟨fun K => He.ga K "_law_heap_right", "_law_heap_right", "_law_heap_right", topH 45⟩, ⟨fun K => He.ga K "law", "law", "law", topH 46⟩, ⟨fun K => He.ga K "join_same", "join_same", "join_same", topH 2⟩, ⟨fun K => He.ga K "join_swap", "join_swap", "join_swap", topH 3⟩, ⟨fun K => He.ga K "join_group", "join_group", "join_group", topH 4⟩, ⟨fun K => He.ga K "join_never", "join_never", "join_never", topH 5⟩, ⟨fun K => He.ga K "then_group", "then_group", "then_group", topH 6⟩, ⟨fun K => He.ga K "then_still", "then_still", "then_still", topH 7⟩, ⟨fun K => He.ga K "then_never", "then_never", "then_never", topH 8⟩, ⟨fun K => He.ga K "spread_left", "spread_left", "spread_left", topH 9⟩, ⟨fun K => He.ga K "spread_right", "spread_right", "spread_right", topH 10⟩, ⟨fun K => He.ga K "broken_at", "broken_at", "broken_at", topH 12⟩, ⟨fun K => He.ga K "first_fault", "first_fault", "first_fault", topH 13⟩] : List Df)
def ckH0 (K : Fg) : Bool := ckFnI K (He.ma K (He.ga K "Scale") "__init__") "Scale.__init__" 1 && (ckFn K (He.ga K "is_table_name") "is_table_name" && (ckFn K (He.ga K "table_places") "table_places" && (ckFn K (He.ga K "depth_above") "depth_above" && (ckFn K (He.ga K "half_places") "half_places" && (ckFn K (He.ma K (He.ga K "TableScale") "then_at") "Scale.then_at" && (ckFn K (He.ma K (He.ga K "TableScale") "join_at") "Scale.join_at" && (ckFn K (He.ma K (He.ga K "TableScale") "name_at") "Scale.name_at" && (ckFn K (He.ma K (He.ga K "TableScale") "make_then") "TableScale.make_then" && (ckFn K (He.ma K (He.ga K "TableScale") "make_join") "TableScale.make_join" && (ckFn K (He.ma K (He.ga K "PairScale") "make_then") "PairScale.make_then" && (ckFn K (He.ma K (He.ga K "PairScale") "make_join") "PairScale.make_join")))))))))))
def ckH1 (K : Fg) : Bool := ckFn K (He.ma K (He.ga K "TurnedScale") "make_then") "TurnedScale.make_then" && (ckFn K (He.ma K (He.ga K "TurnedScale") "make_join") "TurnedScale.make_join" && (ckFn K (He.ma K (He.ga K "HeapScale") "make_then") "HeapScale.make_then" && (ckFn K (He.ma K (He.ga K "HeapScale") "make_join") "HeapScale.make_join" && (ckSup PySem.Challenge.pw_deedscale_k09_first_fault.main.file K (He.ma K (He.ga K "TableScale") "__init__") (He.ga K "TableScale") "TableScale.__init__" && (ckSup PySem.Challenge.pw_deedscale_k09_first_fault.main.file K (He.ma K (He.ga K "PairScale") "__init__") (He.ga K "PairScale") "PairScale.__init__" && (ckSup PySem.Challenge.pw_deedscale_k09_first_fault.main.file K (He.ma K (He.ga K "TurnedScale") "__init__") (He.ga K "TurnedScale") "TurnedScale.__init__" && (ckSup PySem.Challenge.pw_deedscale_k09_first_fault.main.file K (He.ma K (He.ga K "HeapScale") "__init__") (He.ga K "HeapScale") "HeapScale.__init__" && (ckFn K (He.ga K "_law_source") "_law_source" && (ckFn K (He.ga K "_law_pick") "_law_pick" && (ckFn K (He.ga K "_law_like") "_law_like" && (ckFn K (He.ga K "_law_join") "_law_join")))))))))))
def ckH2 (K : Fg) : Bool := ckFn K (He.ga K "_law_then") "_law_then" && (ckFn K (He.ga K "_law_tables") "_law_tables" && (ckFn K (He.ga K "_law_table_scale") "_law_table_scale" && (ckFn K (He.ga K "_law_fails") "_law_fails" && (ckFn K (He.ga K "_law_fault") "_law_fault" && (ckFn K (He.ga K "_law_scale_of") "_law_scale_of" && (ckFn K (He.ga K "_law_free") "_law_free" && (ckFn K (He.ga K "_law_change") "_law_change" && (ckFn K (He.ga K "_law_pair_right") "_law_pair_right" && (ckFn K (He.ga K "_law_heap_right") "_law_heap_right" && (ckFn K (He.ga K "law") "law" && (ckFn K (He.ga K "join_same") "join_same")))))))))))
def ckH3 (K : Fg) : Bool := ckFn K (He.ga K "join_swap") "join_swap" && (ckFn K (He.ga K "join_group") "join_group" && (ckFn K (He.ga K "join_never") "join_never" && (ckFn K (He.ga K "then_group") "then_group" && (ckFn K (He.ga K "then_still") "then_still" && (ckFn K (He.ga K "then_never") "then_never" && (ckFn K (He.ga K "spread_left") "spread_left" && (ckFn K (He.ga K "spread_right") "spread_right" && (ckFn K (He.ga K "broken_at") "broken_at" && (ckFn K (He.ga K "first_fault") "first_fault" && (decide (PySem.W.nsIn K mainGlobals "int" = some none) && (decide (PySem.W.nsIn K mainGlobals "abs" = some none))))))))))))
def ckH4 (K : Fg) : Bool := decide (PySem.W.nsIn K mainGlobals "range" = some none) && (decide (PySem.W.nsIn K mainGlobals "len" = some none) && (decide (PySem.W.nsIn K mainGlobals "isinstance" = some none) && (decide (PySem.W.nsIn K mainGlobals "bool" = some none) && (decide (PySem.W.nsIn K mainGlobals "str" = some none) && (decide (PySem.W.nsIn K mainGlobals "list" = some none) && (decide (PySem.W.nsIn K mainGlobals "tuple" = some none) && (decide (PySem.W.nsIn K mainGlobals "dict" = some none) && (decide (PySem.W.nsIn K mainGlobals "enumerate" = some none) && (decide (PySem.W.nsIn K mainGlobals "zip" = some none) && (decide (PySem.W.nsIn K mainGlobals "reversed" = some none) && (decide (PySem.W.nsIn K mainGlobals "ValueError" = some none))))))))))))
def ckH5 (K : Fg) : Bool := decide (PySem.W.nsIn K mainGlobals "LookupError" = some none) && (decide (PySem.W.nsIn K mainGlobals "KeyError" = some none) && (decide (PySem.W.nsIn K mainGlobals "Exception" = some none) && (decide (PySem.W.nsIn K mainGlobals "super" = some none) && (decide (PySem.W.nsIn K mainGlobals "sum" = some none) && (decide (PySem.W.nsIn K mainGlobals "any" = some none) && (decide (PySem.W.nsIn K mainGlobals "all" = some none) && (decide (PySem.W.nsIn K mainGlobals "sorted" = some none) && (decide (PySem.W.nsIn K mainGlobals "max" = some none) && (decide (PySem.W.nsIn K mainGlobals "min" = some none) && (decide (PySem.W.nsIn K mainGlobals "NotImplementedError" = some none) && (decide (PySem.W.nsIn K mainGlobals "set" = some none))))))))))))
def ckH6 (K : Fg) : Bool := decide (PySem.W.nsIn K mainGlobals "repr" = some none) && (decide (PySem.W.nsIn K cStatics "thirdparty.any" = some none) && (decide (PySem.W.nsIn K mainGlobals "Scale" = some (some (.ref (He.ga K "Scale")))) && (decide (PySem.W.nsIn K mainGlobals "TableScale" = some (some (.ref (He.ga K "TableScale")))) && (decide (PySem.W.nsIn K mainGlobals "PairScale" = some (some (.ref (He.ga K "PairScale")))) && (decide (PySem.W.nsIn K mainGlobals "TurnedScale" = some (some (.ref (He.ga K "TurnedScale")))) && (decide (PySem.W.nsIn K mainGlobals "HeapScale" = some (some (.ref (He.ga K "HeapScale")))) && ((PySem.W.plainGet K (He.ga K "TableScale") Str.empty) && ((PySem.W.hasDictIn K (He.ga K "TableScale")) && ((PySem.W.plainOver K (He.ga K "TableScale")) && (decide (PySem.W.findIn K (.ref (He.ga K "TableScale")) "__setattr__" = some (some (.builtin "object.__setattr__"))) && (decide (PySem.W.findIn K (.ref (He.ga K "TableScale")) "written_joins" = some none))))))))))))
def ckH7 (K : Fg) : Bool := decide (PySem.W.findIn K (.ref (He.ga K "TableScale")) "written_products" = some none) && (decide (PySem.W.findIn K (.ref (He.ga K "TableScale")) "label" = some none) && (decide (PySem.W.findIn K (.ref (He.ga K "TableScale")) "size" = some none) && (decide (PySem.W.findIn K (.ref (He.ga K "TableScale")) "never_at" = some none) && (decide (PySem.W.findIn K (.ref (He.ga K "TableScale")) "still_at" = some none) && (decide (PySem.W.findIn K (.ref (He.ga K "TableScale")) "depth" = some none) && (decide (PySem.W.findIn K (.ref (He.ga K "TableScale")) "worth_names" = some none) && (decide (PySem.W.findIn K (.ref (He.ga K "TableScale")) "worth_places" = some none) && (decide (PySem.W.findIn K (.ref (He.ga K "TableScale")) "product_table" = some none) && (decide (PySem.W.findIn K (.ref (He.ga K "TableScale")) "join_table" = some none) && ((PySem.W.plainGet K (He.ga K "PairScale") Str.empty) && ((PySem.W.hasDictIn K (He.ga K "PairScale")))))))))))))
def ckH8 (K : Fg) : Bool := (PySem.W.plainOver K (He.ga K "PairScale")) && (decide (PySem.W.findIn K (.ref (He.ga K "PairScale")) "__setattr__" = some (some (.builtin "object.__setattr__"))) && (decide (PySem.W.findIn K (.ref (He.ga K "PairScale")) "left" = some none) && (decide (PySem.W.findIn K (.ref (He.ga K "PairScale")) "right" = some none) && (decide (PySem.W.findIn K (.ref (He.ga K "PairScale")) "label" = some none) && (decide (PySem.W.findIn K (.ref (He.ga K "PairScale")) "size" = some none) && (decide (PySem.W.findIn K (.ref (He.ga K "PairScale")) "never_at" = some none) && (decide (PySem.W.findIn K (.ref (He.ga K "PairScale")) "still_at" = some none) && (decide (PySem.W.findIn K (.ref (He.ga K "PairScale")) "depth" = some none) && (decide (PySem.W.findIn K (.ref (He.ga K "PairScale")) "worth_names" = some none) && (decide (PySem.W.findIn K (.ref (He.ga K "PairScale")) "worth_places" = some none) && (decide (PySem.W.findIn K (.ref (He.ga K "PairScale")) "product_table" = some none))))))))))))
def ckH9 (K : Fg) : Bool := decide (PySem.W.findIn K (.ref (He.ga K "PairScale")) "join_table" = some none) && ((PySem.W.plainGet K (He.ga K "TurnedScale") Str.empty) && ((PySem.W.hasDictIn K (He.ga K "TurnedScale")) && ((PySem.W.plainOver K (He.ga K "TurnedScale")) && (decide (PySem.W.findIn K (.ref (He.ga K "TurnedScale")) "__setattr__" = some (some (.builtin "object.__setattr__"))) && (decide (PySem.W.findIn K (.ref (He.ga K "TurnedScale")) "inner" = some none) && (decide (PySem.W.findIn K (.ref (He.ga K "TurnedScale")) "label" = some none) && (decide (PySem.W.findIn K (.ref (He.ga K "TurnedScale")) "size" = some none) && (decide (PySem.W.findIn K (.ref (He.ga K "TurnedScale")) "never_at" = some none) && (decide (PySem.W.findIn K (.ref (He.ga K "TurnedScale")) "still_at" = some none) && (decide (PySem.W.findIn K (.ref (He.ga K "TurnedScale")) "depth" = some none) && (decide (PySem.W.findIn K (.ref (He.ga K "TurnedScale")) "worth_names" = some none))))))))))))
def ckH10 (K : Fg) : Bool := decide (PySem.W.findIn K (.ref (He.ga K "TurnedScale")) "worth_places" = some none) && (decide (PySem.W.findIn K (.ref (He.ga K "TurnedScale")) "product_table" = some none) && (decide (PySem.W.findIn K (.ref (He.ga K "TurnedScale")) "join_table" = some none) && ((PySem.W.plainGet K (He.ga K "HeapScale") Str.empty) && ((PySem.W.hasDictIn K (He.ga K "HeapScale")) && ((PySem.W.plainOver K (He.ga K "HeapScale")) && (decide (PySem.W.findIn K (.ref (He.ga K "HeapScale")) "__setattr__" = some (some (.builtin "object.__setattr__"))) && (decide (PySem.W.findIn K (.ref (He.ga K "HeapScale")) "inner" = some none) && (decide (PySem.W.findIn K (.ref (He.ga K "HeapScale")) "heaps" = some none) && (decide (PySem.W.findIn K (.ref (He.ga K "HeapScale")) "label" = some none) && (decide (PySem.W.findIn K (.ref (He.ga K "HeapScale")) "size" = some none) && (decide (PySem.W.findIn K (.ref (He.ga K "HeapScale")) "never_at" = some none))))))))))))
def ckH11 (K : Fg) : Bool := decide (PySem.W.findIn K (.ref (He.ga K "HeapScale")) "still_at" = some none) && (decide (PySem.W.findIn K (.ref (He.ga K "HeapScale")) "depth" = some none) && (decide (PySem.W.findIn K (.ref (He.ga K "HeapScale")) "worth_names" = some none) && (decide (PySem.W.findIn K (.ref (He.ga K "HeapScale")) "worth_places" = some none) && (decide (PySem.W.findIn K (.ref (He.ga K "HeapScale")) "product_table" = some none) && (decide (PySem.W.findIn K (.ref (He.ga K "HeapScale")) "join_table" = some none) && (decide (PySem.W.findIn K (.ref (He.ga K "Scale")) "__init__" = some (some (.ref (He.ma K (He.ga K "Scale") "__init__")))) && ((PySem.W.fnIn K (He.ma K (He.ga K "Scale") "__init__")) && (decide (PySem.W.typeIn K (.ref (He.ma K (He.ga K "Scale") "__init__")) = some (.type "function")) && (ckInt K "MOST_WORTHS" 64 && (ckStr K "SIGNS" "abcdefghijklmnopqrstuvwxyz0123456789" && (decide (PySem.W.nsIn K mainGlobals "is_table_name" = some (some (.ref (He.ga K "is_table_name")))))))))))))))
def ckH12 (K : Fg) : Bool := decide (PySem.W.nsIn K mainGlobals "table_places" = some (some (.ref (He.ga K "table_places")))) && (ckInt K "DEEPEST" 10 && (decide (PySem.W.nsIn K mainGlobals "depth_above" = some (some (.ref (He.ga K "depth_above")))) && (decide (PySem.W.nsIn K mainGlobals "half_places" = some (some (.ref (He.ga K "half_places")))) && (decide (PySem.W.findIn K (.ref (He.ga K "TableScale")) "then_at" = some (some (.ref (He.ma K (He.ga K "TableScale") "then_at")))) && ((PySem.W.isFn K (.ref (He.ma K (He.ga K "TableScale") "then_at"))) && (decide (PySem.W.findIn K (.ref (He.ga K "PairScale")) "then_at" = some (some (.ref (He.ma K (He.ga K "TableScale") "then_at")))) && (decide (PySem.W.findIn K (.ref (He.ga K "TurnedScale")) "then_at" = some (some (.ref (He.ma K (He.ga K "TableScale") "then_at")))) && (decide (PySem.W.findIn K (.ref (He.ga K "HeapScale")) "then_at" = some (some (.ref (He.ma K (He.ga K "TableScale") "then_at")))) && (decide (PySem.W.findIn K (.ref (He.ga K "TableScale")) "join_at" = some (some (.ref (He.ma K (He.ga K "TableScale") "join_at")))) && ((PySem.W.isFn K (.ref (He.ma K (He.ga K "TableScale") "join_at"))) && (decide (PySem.W.findIn K (.ref (He.ga K "PairScale")) "join_at" = some (some (.ref (He.ma K (He.ga K "TableScale") "join_at")))))))))))))))
def ckH13 (K : Fg) : Bool := decide (PySem.W.findIn K (.ref (He.ga K "TurnedScale")) "join_at" = some (some (.ref (He.ma K (He.ga K "TableScale") "join_at")))) && (decide (PySem.W.findIn K (.ref (He.ga K "HeapScale")) "join_at" = some (some (.ref (He.ma K (He.ga K "TableScale") "join_at")))) && (decide (PySem.W.findIn K (.ref (He.ga K "TableScale")) "name_at" = some (some (.ref (He.ma K (He.ga K "TableScale") "name_at")))) && ((PySem.W.isFn K (.ref (He.ma K (He.ga K "TableScale") "name_at"))) && (decide (PySem.W.findIn K (.ref (He.ga K "PairScale")) "name_at" = some (some (.ref (He.ma K (He.ga K "TableScale") "name_at")))) && (decide (PySem.W.findIn K (.ref (He.ga K "TurnedScale")) "name_at" = some (some (.ref (He.ma K (He.ga K "TableScale") "name_at")))) && (decide (PySem.W.findIn K (.ref (He.ga K "HeapScale")) "name_at" = some (some (.ref (He.ma K (He.ga K "TableScale") "name_at")))) && (decide (PySem.W.findIn K (.ref (He.ga K "TableScale")) "make_then" = some (some (.ref (He.ma K (He.ga K "TableScale") "make_then")))) && ((PySem.W.isFn K (.ref (He.ma K (He.ga K "TableScale") "make_then"))) && (decide (PySem.W.findIn K (.ref (He.ga K "TableScale")) "make_join" = some (some (.ref (He.ma K (He.ga K "TableScale") "make_join")))) && ((PySem.W.isFn K (.ref (He.ma K (He.ga K "TableScale") "make_join"))) && (decide (PySem.W.findIn K (.ref (He.ga K "PairScale")) "make_then" = some (some (.ref (He.ma K (He.ga K "PairScale") "make_then")))))))))))))))
def ckH14 (K : Fg) : Bool := (PySem.W.isFn K (.ref (He.ma K (He.ga K "PairScale") "make_then"))) && (decide (PySem.W.findIn K (.ref (He.ga K "PairScale")) "make_join" = some (some (.ref (He.ma K (He.ga K "PairScale") "make_join")))) && ((PySem.W.isFn K (.ref (He.ma K (He.ga K "PairScale") "make_join"))) && (decide (PySem.W.findIn K (.ref (He.ga K "TurnedScale")) "make_then" = some (some (.ref (He.ma K (He.ga K "TurnedScale") "make_then")))) && ((PySem.W.isFn K (.ref (He.ma K (He.ga K "TurnedScale") "make_then"))) && (decide (PySem.W.findIn K (.ref (He.ga K "TurnedScale")) "make_join" = some (some (.ref (He.ma K (He.ga K "TurnedScale") "make_join")))) && ((PySem.W.isFn K (.ref (He.ma K (He.ga K "TurnedScale") "make_join"))) && (decide (PySem.W.findIn K (.ref (He.ga K "HeapScale")) "make_then" = some (some (.ref (He.ma K (He.ga K "HeapScale") "make_then")))) && ((PySem.W.isFn K (.ref (He.ma K (He.ga K "HeapScale") "make_then"))) && (decide (PySem.W.findIn K (.ref (He.ga K "HeapScale")) "make_join" = some (some (.ref (He.ma K (He.ga K "HeapScale") "make_join")))) && ((PySem.W.isFn K (.ref (He.ma K (He.ga K "HeapScale") "make_join"))) && (decide (PySem.W.findIn K (.ref (He.ga K "TableScale")) "__init__" = some (some (.ref (He.ma K (He.ga K "TableScale") "__init__")))))))))))))))
def ckH15 (K : Fg) : Bool := ckCls K (He.ga K "TableScale") && (decide (PySem.W.mroIn K (He.ga K "TableScale") (.ref (He.ga K "TableScale")) = some true) && (decide (PySem.W.ks_superIn K (He.ga K "TableScale") (He.ga K "TableScale") "__init__" = some (some (.ref (He.ma K (He.ga K "Scale") "__init__")))) && ((PySem.W.makesIn K (He.ga K "TableScale")) && ((PySem.W.isFn K (.ref (He.ma K (He.ga K "TableScale") "__init__"))) && ((PySem.W.keepIn K (.ref (He.ga K "TableScale"))) && (decide (PySem.W.findIn K (.ref (He.ga K "PairScale")) "__init__" = some (some (.ref (He.ma K (He.ga K "PairScale") "__init__")))) && (ckCls K (He.ga K "PairScale") && (decide (PySem.W.mroIn K (He.ga K "PairScale") (.ref (He.ga K "PairScale")) = some true) && (decide (PySem.W.ks_superIn K (He.ga K "PairScale") (He.ga K "PairScale") "__init__" = some (some (.ref (He.ma K (He.ga K "Scale") "__init__")))) && ((PySem.W.makesIn K (He.ga K "PairScale")) && ((PySem.W.isFn K (.ref (He.ma K (He.ga K "PairScale") "__init__"))))))))))))))
def ckH16 (K : Fg) : Bool := (PySem.W.keepIn K (.ref (He.ga K "PairScale"))) && (decide (PySem.W.findIn K (.ref (He.ga K "TurnedScale")) "__init__" = some (some (.ref (He.ma K (He.ga K "TurnedScale") "__init__")))) && (ckCls K (He.ga K "TurnedScale") && (decide (PySem.W.mroIn K (He.ga K "TurnedScale") (.ref (He.ga K "TurnedScale")) = some true) && (decide (PySem.W.ks_superIn K (He.ga K "TurnedScale") (He.ga K "TurnedScale") "__init__" = some (some (.ref (He.ma K (He.ga K "Scale") "__init__")))) && ((PySem.W.makesIn K (He.ga K "TurnedScale")) && ((PySem.W.isFn K (.ref (He.ma K (He.ga K "TurnedScale") "__init__"))) && ((PySem.W.keepIn K (.ref (He.ga K "TurnedScale"))) && (decide (PySem.W.findIn K (.ref (He.ga K "HeapScale")) "__init__" = some (some (.ref (He.ma K (He.ga K "HeapScale") "__init__")))) && (ckCls K (He.ga K "HeapScale") && (decide (PySem.W.mroIn K (He.ga K "HeapScale") (.ref (He.ga K "HeapScale")) = some true) && (decide (PySem.W.ks_superIn K (He.ga K "HeapScale") (He.ga K "HeapScale") "__init__" = some (some (.ref (He.ma K (He.ga K "Scale") "__init__")))))))))))))))
def ckH17 (K : Fg) : Bool := (PySem.W.makesIn K (He.ga K "HeapScale")) && ((PySem.W.isFn K (.ref (He.ma K (He.ga K "HeapScale") "__init__"))) && ((PySem.W.keepIn K (.ref (He.ga K "HeapScale"))) && (decide (PySem.W.nsIn K mainGlobals "_law_source" = some (some (.ref (He.ga K "_law_source")))) && (decide (PySem.W.nsIn K mainGlobals "_law_pick" = some (some (.ref (He.ga K "_law_pick")))) && (decide (PySem.W.nsIn K mainGlobals "_law_like" = some (some (.ref (He.ga K "_law_like")))) && (decide (PySem.W.nsIn K mainGlobals "_law_join" = some (some (.ref (He.ga K "_law_join")))) && (decide (PySem.W.nsIn K mainGlobals "_law_then" = some (some (.ref (He.ga K "_law_then")))) && (decide (PySem.W.nsIn K mainGlobals "_law_tables" = some (some (.ref (He.ga K "_law_tables")))) && (decide (PySem.W.nsIn K mainGlobals "_law_table_scale" = some (some (.ref (He.ga K "_law_table_scale")))) && (decide (PySem.W.nsIn K mainGlobals "_law_fails" = some (some (.ref (He.ga K "_law_fails")))) && (decide (PySem.W.nsIn K mainGlobals "_law_fault" = some (some (.ref (He.ga K "_law_fault")))))))))))))))
def ckH18 (K : Fg) : Bool := decide (PySem.W.nsIn K mainGlobals "_law_scale_of" = some (some (.ref (He.ga K "_law_scale_of")))) && (decide (PySem.W.nsIn K mainGlobals "_law_free" = some (some (.ref (He.ga K "_law_free")))) && (decide (PySem.W.nsIn K mainGlobals "_law_change" = some (some (.ref (He.ga K "_law_change")))) && (decide (PySem.W.nsIn K mainGlobals "_law_pair_right" = some (some (.ref (He.ga K "_law_pair_right")))) && (decide (PySem.W.nsIn K mainGlobals "_law_heap_right" = some (some (.ref (He.ga K "_law_heap_right")))) && (decide (PySem.W.nsIn K mainGlobals "law" = some (some (.ref (He.ga K "law")))) && (decide (PySem.W.nsIn K mainGlobals "join_same" = some (some (.ref (He.ga K "join_same")))) && (decide (PySem.W.nsIn K mainGlobals "join_swap" = some (some (.ref (He.ga K "join_swap")))) && (decide (PySem.W.nsIn K mainGlobals "join_group" = some (some (.ref (He.ga K "join_group")))) && (decide (PySem.W.nsIn K mainGlobals "join_never" = some (some (.ref (He.ga K "join_never")))) && (decide (PySem.W.nsIn K mainGlobals "then_group" = some (some (.ref (He.ga K "then_group")))) && (decide (PySem.W.nsIn K mainGlobals "then_still" = some (some (.ref (He.ga K "then_still")))))))))))))))
def ckH19 (K : Fg) : Bool := decide (PySem.W.nsIn K mainGlobals "then_never" = some (some (.ref (He.ga K "then_never")))) && (decide (PySem.W.nsIn K mainGlobals "spread_left" = some (some (.ref (He.ga K "spread_left")))) && (decide (PySem.W.nsIn K mainGlobals "spread_right" = some (some (.ref (He.ga K "spread_right")))) && (decide (PySem.W.nsIn K mainGlobals "broken_at" = some (some (.ref (He.ga K "broken_at")))) && (decide (PySem.W.nsIn K mainGlobals "first_fault" = some (some (.ref (He.ga K "first_fault")))) && (decide (PySem.W.nsIn K mainGlobals "RULES" = some (some (.ref (He.ga K "RULES")))) && (ckTup K (He.ga K "RULES") [.ref (tupA K (He.ga K "RULES") 0), .ref (tupA K (He.ga K "RULES") 1), .ref (tupA K (He.ga K "RULES") 2), .ref (tupA K (He.ga K "RULES") 3), .ref (tupA K (He.ga K "RULES") 4), .ref (tupA K (He.ga K "RULES") 5), .ref (tupA K (He.ga K "RULES") 6), .ref (tupA K (He.ga K "RULES") 7), .ref (tupA K (He.ga K "RULES") 8)] && (ckTup K (tupA K (He.ga K "RULES") 0) [.str "join-same", .int 1, .ref (He.ga K "join_same")] && (ckTup K (tupA K (He.ga K "RULES") 1) [.str "join-swap", .int 2, .ref (He.ga K "join_swap")] && (ckTup K (tupA K (He.ga K "RULES") 2) [.str "join-group", .int 3, .ref (He.ga K "join_group")] && (ckTup K (tupA K (He.ga K "RULES") 3) [.str "join-never", .int 1, .ref (He.ga K "join_never")] && (ckTup K (tupA K (He.ga K "RULES") 4) [.str "then-group", .int 3, .ref (He.ga K "then_group")])))))))))))
def ckH20 (K : Fg) : Bool := ckTup K (tupA K (He.ga K "RULES") 5) [.str "then-still", .int 1, .ref (He.ga K "then_still")] && (ckTup K (tupA K (He.ga K "RULES") 6) [.str "then-never", .int 1, .ref (He.ga K "then_never")] && (ckTup K (tupA K (He.ga K "RULES") 7) [.str "spread-left", .int 3, .ref (He.ga K "spread_left")] && (ckTup K (tupA K (He.ga K "RULES") 8) [.str "spread-right", .int 3, .ref (He.ga K "spread_right")] && (decide (([(He.ga K "join_same"), (He.ga K "join_swap"), (He.ga K "join_group"), (He.ga K "join_never"), (He.ga K "then_group"), (He.ga K "then_still"), (He.ga K "then_never"), (He.ga K "spread_left"), (He.ga K "spread_right")] : List Addr).Nodup)))))
def fsH : List (Fg → Bool) := ([ckH0, ckH1, ckH2, ckH3, ckH4, ckH5, ckH6, ckH7, ckH8, ckH9, ckH10, ckH11, ckH12, ckH13, ckH14, ckH15, ckH16, ckH17, ckH18, ckH19, ckH20] : List (Fg → Bool))
abbrev RH : PySem.W.OpenRow := PySem.W.OpenLaw.row PySem.Challenge.rw_deedscale_k09_first_fault
abbrev qH : Program := PySem.W.view RH.prog [46]
def namesH : List Str := (["_wall", "__name__", "join_same", "join_swap", "join_group", "join_never", "then_group", "then_still", "then_never", "spread_left", "spread_right", "RULES", "broken_at", "first_fault", "DeedscaleError", "BadScale", "MOST_WORTHS", "SIGNS", "Scale", "is_table_name", "table_places", "TableScale", "DEEPEST", "depth_above", "PairScale", "half_places", "TurnedScale", "HeapScale", "_law_source", "_law_pick"] : List Str) ++ (["_law_join", "_law_then", "_law_tables", "_law_table_scale", "_law_like", "_law_fails", "_law_fault", "_law_free", "_law_change", "_law_scale_of", "_law_pair_right", "_law_heap_right"] : List Str)
def obH (s : PySem.W.SharedT) : AlB := obsBG 8000 fsH dfsH [] (HandSHeadRun.getT s)
theorem obH_eq (s : PySem.W.SharedT) : obH s = (hookB 8000 fsH dfsH []).obs s.abs := obsBG_eq (HandSHeadRun.getT_eq s)
theorem runH (w : World) : HandSHeadRun.RunEq RH qH (hookB 8000 fsH dfsH []) obH 9000 namesH w := by
  intro os
  kernel_rfl
end L2.DS
/-! Defs whose body says super().__init__(..): their frame bears a cell of the class. -/
namespace L2.DS
open PySem PySem.Spec PyProof.Rows
/-! ### the frame -/
abbrev envS (qual : Str) (scope : Scope) (L f : Addr) (cd : Value) (cc : Addr) : Env :=
  PySem.W.envX qual scope L f cd (cellsFrom (L + 1) scope.names [("__class__", cc)])
theorem cells_acc : ∀ (names : List (Str × NameKind)) (n : Nat) (acc : List (Str × Addr)), cellsFrom n names acc = cellsFrom n names [] ++ acc
  | [], _, _ => rfl
  | (x, kd) :: r, n, acc => by
    unfold cellsFrom
    split
    · rw [cells_acc r (n + 1) ((x, n) :: acc), cells_acc r (n + 1) [(x, n)], List.append_assoc]
      rfl
    · exact cells_acc r n acc
/-- the scope of such a def: N its names, the parameters ps first -/
structure ScS (N ps : List Str) (sc : Scope) : Prop where
  kind : sc.kind = .function
  co : sc.isCoroutine = false
  gen : sc.isGenerator = false
  nd : N.Nodup
  pre : N.take ps.length = ps
  par : ∀ x ∈ ps, sc.names.lookup x = some .local ∨ sc.names.lookup x = some .cell
  fre : ∀ y ∈ sc.names, y.2 = .free → y.1 = ("__class__" : Str)
  cls : sc.names.lookup ("__class__" : Str) = some .free
  ncl : ∀ y ∈ sc.names, y.2 = .cell → y.1 ≠ ("__class__" : Str)
  sup : sc.names.lookup ("super" : Str) = some .globalImplicit
/-- which names a list of cells made at the entry has -/
theorem own_name : ∀ (names : List (Str × NameKind)) (n : Nat) (acc : List (Str × Addr)) (x : Str) (c : Addr), (x, c) ∈ cellsFrom n names acc → (x, c) ∈ acc ∨ (x, NameKind.cell) ∈ names
  | [], _, _, _, _, h => .inl h
  | (y, kd) :: r, n, acc, x, c, h => by
    unfold cellsFrom at h
    split at h
    · rename_i hk
      rcases own_name r (n + 1) _ x c h with q | q
      · rcases List.mem_cons.mp q with e | q
        · cases e
          refine .inr (List.mem_cons.mpr (.inl ?_))
          rw [show kd = NameKind.cell from beq_iff_eq.mp hk]
        · exact .inl q
      · exact .inr (List.mem_cons_of_mem _ q)
    · rcases own_name r n acc x c h with q | q
      · exact .inl q
      · exact .inr (List.mem_cons_of_mem _ q)
section
variable {M : Model} {A : Around} {E : Value → Shared → Prop} {s₀ s : Shared} {m cm : Str → Option Value} {env : Env} {own : List (Str × Addr)}
theorem put_local {n : Str} {v : Value} {Q : Unit → Shared → Prop} (x : InCallC s₀ env.locals m own cm s) (hk : env.scope.kind = .function) (hl : env.kindOf n = some .local)
    (h : ∀ s', InCallC s₀ env.locals (fun y => if y = n then some v else m y) own cm s' → Q () s') : wpAny M A (storeName env n v) Q E s := by
  refine wpAny_storeName_local hl x.toInCall.ns (fun g ng sg => h _ ⟨⟨?c1, ng, fun b o e => ?c2, x.toInCall.fresh⟩, fun k c hc => ?c3, x.apart, x.above⟩) (by rw [hk]; rfl)
  case c1 =>
    obtain ⟨h1, tk, rfl⟩ := x.toInCall.same
    exact ⟨g, _, rfl⟩
  case c2 =>
    have lt := Nat.lt_of_lt_of_le (Heap.lt_size e) x.toInCall.fresh
    exact sg.extBut b o (Nat.ne_of_lt lt) (x.toInCall.keep b o e)
  case c3 =>
    have gt := x.above k c (PySem.mem_of_lookup hc)
    exact (x.cell k c hc).sameBut sg (Nat.ne_of_gt gt)
theorem put_cell {n : Str} {c : Addr} {v : Value} {Q : Unit → Shared → Prop} (x : InCallC s₀ env.locals m own cm s) (hk : env.scope.kind = .function) (hl : env.kindOf n = some .cell)
    (hc : env.cells.lookup n = some c) (ho : own.lookup n = some c) (h : ∀ s', InCallC s₀ env.locals m own (fun y => if y = n then some v else cm y) s' → Q () s') :
    wpAny M A (storeName env n v) Q E s := by
  have gt := x.above n c (PySem.mem_of_lookup ho)
  refine wpAny_storeName_cell hk hl hc (x.cell n c ho) fun g cg sg => h _ ⟨⟨?c1, x.toInCall.ns.sameBut sg (Nat.ne_of_lt gt), fun b o e => ?c2, x.toInCall.fresh⟩, fun k c' hk' => ?c3, x.apart, x.above⟩
  case c1 =>
    obtain ⟨h1, tk, rfl⟩ := x.toInCall.same
    exact ⟨g, _, rfl⟩
  case c2 =>
    have lt := Nat.lt_of_lt_of_le (Heap.lt_size e) x.toInCall.fresh
    exact sg.extBut b o (Nat.ne_of_lt (Nat.lt_trans lt gt)) (x.toInCall.keep b o e)
  case c3 =>
    by_cases hkn : k = n
    · subst hkn
      rw [ho] at hk'
      cases hk'
      simpa using cg
    · rw [if_neg hkn]
      refine (x.cell k c' hk').sameBut sg fun e => hkn ?_
      have h1 := PySem.mem_of_lookup ho
      rw [← e] at h1
      exact name_of_addr x.apart (PySem.mem_of_lookup hk') h1
theorem put_all (f : Str × Value → PUnit → Sem (ForInStep PUnit)) (hf : ∀ n v u, f (n, v) u = (do storeName env n v; pure (.yield ⟨⟩))) (hk : env.scope.kind = .function)
    (sub : ∀ n c, own.lookup n = some c → env.cells.lookup n = some c) :
    ∀ (bs : List (Str × Value)) (m cm : Str → Option Value) (s : Shared) (Q : PUnit → Shared → Prop), InCallC s₀ env.locals m own cm s →
      (∀ x ∈ bs, env.kindOf x.1 = some .local ∨ (env.kindOf x.1 = some .cell ∧ (own.lookup x.1).isSome = true)) →
      (∀ s', InCallC s₀ env.locals (bindL env.kindOf bs m) own (bindC env.kindOf bs cm) s' → Q ⟨⟩ s') → wpAny M A (forIn bs ⟨⟩ f) Q E s
  | [], m, cm, s, Q, x, _, h => by
    rw [List.forIn_nil]
    exact wpAny_pure (h s x)
  | (n, v) :: r, m, cm, s, Q, x, kd, h => by
    rw [List.forIn_cons, hf]
    have kr := fun y (hy : y ∈ r) => kd y (List.mem_cons_of_mem _ hy)
    unfold bindL bindC at h
    rcases kd (n, v) List.mem_cons_self with hl | ⟨hl, hc⟩
    · rw [if_pos hl, if_pos hl] at h
      exact wpAny_bind (wpAny_bind (put_local x hk hl fun s' x' => wpAny_pure (put_all f hf hk sub r _ _ s' Q x' kr h)))
    · obtain ⟨c, hc⟩ := Option.isSome_iff_exists.mp hc
      have hnl : ¬ env.kindOf n = some .local := fun z => by
        rw [hl] at z
        cases z
      rw [if_neg hnl, if_neg hnl] at h
      exact wpAny_bind (wpAny_bind (put_cell x hk hl (sub n c hc) hc fun s' x' => wpAny_pure (put_all f hf hk sub r _ _ s' Q x' kr h)))
end
section
variable {M : Model} {A : Around} {E : Value → Shared → Prop} {s : Shared}
theorem new_envS {scope : Scope} {binds : List (Str × Value)} {qual : Str} {f cc : Addr} {cd : Value} {Q : Env → Shared → Prop} (hk : scope.kind = .function)
    (kd : ∀ x ∈ binds, scope.names.lookup x.1 = some .local ∨ (scope.names.lookup x.1 = some .cell ∧ ((cellsFrom (s.heap.objs.size + 1) scope.names []).lookup x.1).isSome = true))
    (hQ : ∀ s', InCallC s s.heap.objs.size (bindL (envS qual scope s.heap.objs.size f cd cc).kindOf binds fun _ => none) (cellsFrom (s.heap.objs.size + 1) scope.names [])
      (bindC (envS qual scope s.heap.objs.size f cd cc).kindOf binds fun _ => none) s' → Q (envS qual scope s.heap.objs.size f cd cc) s') :
    wpAny M A (newFunctionEnv scope mainGlobals [("__class__", cc)] binds (qual ++ ".<locals>.") (some f) cd none builtinsNs) Q E s := by
  simp only [newFunctionEnv, Option.isSome_none, Bool.false_eq_true, if_false]
  refine wpAny_bind (wpAny_alloc ?_)
  refine wpAny_bind (wpAny_layCells _ (fun nm kd cells => by cases e : kd == NameKind.cell <;> simp [e]) _ _ _ _ ?_)
  have ok := cellsFrom_ok scope.names (s.heap.push { cls := .type "frame", data := .dict #[] }) (s.heap.objs.size + 1) [] ⟨fun _ _ z => (nomatch z), List.Pairwise.nil⟩ (by rw [Heap.size_push]; exact Nat.le_refl _)
  rw [Heap.size_push] at ok
  rw [show (Shared.heap { s with heap := s.heap.push { cls := .type "frame", data := .dict #[] } }).objs.size = s.heap.objs.size + 1 from Heap.size_push ..]
  refine wpAny_bind (put_all (s₀ := s) (env := envS qual scope s.heap.objs.size f cd cc) (own := cellsFrom (s.heap.objs.size + 1) scope.names []) _ (fun _ _ _ => rfl) hk (fun n c e => ?_) binds (fun _ => none) (fun _ => none) _ _
    ⟨⟨⟨_, _, rfl⟩, (Heap.Ns.new s.heap (.type "frame")).keeps (pushCells_keeps _ _), fun b o e => pushCells_keeps _ _ b o (Heap.get?_push_of_some _ e), Nat.le_refl _⟩, fun n c z => (ok.empty n c (PySem.mem_of_lookup z)).1, ok.apart, fun n c z => (ok.empty n c z).2⟩ kd fun s' x => wpAny_pure (hQ s' x))
  show (cellsFrom (s.heap.objs.size + 1) scope.names [("__class__", cc)]).lookup n = some c
  rw [cells_acc, List.lookup_append, e]
  rfl
end
/-! ### the context -/
def cxS (CX : CXT) (P : Program) (w : World) (K : PySem.W.Frag) (mg : Str → Option Value) (base : Heap) (N : List Str) (qual : Str) (scope : Scope) (f : Addr) (cd : Value) (cc : Addr) (A : Around) (outer : List Env) (s : Shared) (H : Hp) (E : XK) : Cx where
  prog := P
  w := w
  K := K
  mg := mg
  base := base
  A := A.deeper (envS qual scope s.heap.objs.size f cd cc)
  N := N
  s_0 := s
  H_0 := H
  env := envS qual scope s.heap.objs.size f cd cc
  outer := outer
  stack := envS qual scope s.heap.objs.size f cd cc :: outer
  ex := []
  calm := true
  fn := fun x => !(x == ("__class__" : Str))
  pn := []
  xe := fun e s' => wpAny (model P w) (A.deeper (envS qual scope s.heap.objs.size f cd cc)) (leaving (envS qual scope s.heap.objs.size f cd cc) e) (fun _ s2 => CX outer H s E e s2) (fun e' s2 => CX outer H s E e' s2) s'
theorem cell_in {sc : Scope} {n : Nat} {x : Str} (h : sc.names.lookup x = some .cell) : ∃ c, (cellsFrom n sc.names []).lookup x = some c :=
  Option.isSome_iff_exists.mp (PySem.W.cellsFrom_some sc.names n [] (.inl h))
section
variable {CX : CXT} {P : Program} {w : World} {K : PySem.W.Frag} {mg : Str → Option Value} {base : Heap} {N ps : List Str} {qual : Str} {scope : Scope} {f cc D : Addr} {cd : Value} {A : Around} {outer : List Env} {s s1 : Shared} {H : Hp} {E : XK} {us : List Value} {vs : List V}
theorem look_ownS {L : Nat} {x : Str} {c : Addr} (h : (cellsFrom (L + 1) scope.names [("__class__", cc)]).lookup x = some c) (S : ScS N ps scope) :
    ((cellsFrom (L + 1) scope.names []).lookup x = some c ∧ x ≠ ("__class__" : Str)) ∨ (x = ("__class__" : Str) ∧ c = cc) := by
  rw [cells_acc, List.lookup_append] at h
  cases e : (cellsFrom (L + 1) scope.names []).lookup x with
  | some c1 =>
    rw [e] at h
    have h : c1 = c := Option.some.inj h
    subst h
    refine .inl ⟨rfl, ?_⟩
    rcases own_name _ _ _ _ _ (PySem.mem_of_lookup e) with q | q
    · cases q
    · exact S.ncl _ q rfl
  | none =>
    rw [e] at h
    have h : List.lookup x [(("__class__" : Str), cc)] = some c := h
    by_cases hx : x = ("__class__" : Str)
    · subst hx
      refine .inr ⟨rfl, ?_⟩
      have q : List.lookup ("__class__" : Str) [(("__class__" : Str), cc)] = some cc := by simp [List.lookup]
      rw [q] at h
      exact (Option.some.inj h).symm
    · have hb : (x == ("__class__" : Str)) = false := by simpa using hx
      have q : List.lookup x [(("__class__" : Str), cc)] = none := by simp [List.lookup, hb]
      rw [q] at h
      cases h
theorem look_clsS {L : Nat} (S : ScS N ps scope) : (cellsFrom (L + 1) scope.names [("__class__", cc)]).lookup ("__class__" : Str) = some cc := by
  rw [cells_acc, List.lookup_append]
  cases e : (cellsFrom (L + 1) scope.names []).lookup ("__class__" : Str) with
  | none => simp [List.lookup]
  | some c1 =>
    rcases own_name _ _ _ _ _ (PySem.mem_of_lookup e) with q | q
    · cases q
    · exact absurd rfl (S.ncl _ q rfl)
theorem inv_startS (S : ScS N ps scope) (hd : A.handled = none) (e0 : Env0 P w K mg base A outer s H) (hl : vs.length = ps.length) (r : Vals vs us)
    {ccl : Value} {ccd : Option Addr} {csl : Array (Option Value)} (hcc : K.lookup cc = some ⟨ccl, ccd, .cell (some (.ref D)), csl⟩)
    (x : InCallC s s.heap.objs.size (bindL (envS qual scope s.heap.objs.size f cd cc).kindOf (ps.zip us) fun _ => none) (cellsFrom (s.heap.objs.size + 1) scope.names []) (bindC (envS qual scope s.heap.objs.size f cd cc).kindOf (ps.zip us) fun _ => none) s1) :
    Inv (cxS CX P w K mg base N qual scope f cd cc A outer s H E) [] (start N vs) H s1 := by
  have hpl : ps.length ≤ N.length := by
    have z := congrArg List.length S.pre
    rw [List.length_take] at z
    omega
  obtain ⟨h1, tk, rfl, hk⟩ := x.done
  have bcc : base.get? cc = some ⟨ccl, ccd, .cell (some (.ref D)), csl⟩ := e0.mod.kin _ _ hcc
  have scc := (e0.bs _ _ bcc).1
  have Hcc : H cc = none := (e0.bs _ _ bcc).2
  have ltc : cc < s.heap.objs.size := Heap.lt_size scc
  have noA : ∀ b : Addr, b ∉ (cxS CX P w K mg base N qual scope f cd cc A outer s H E).ex := fun b z => absurd (show b ∈ ([] : List Addr) from z) (by simp)
  have abv : ∀ y c, (cellsFrom (s.heap.objs.size + 1) scope.names []).lookup y = some c → s.heap.objs.size < c := fun y c e => x.above y c (PySem.mem_of_lookup e)
  have own2 : ∀ y c, (cxS CX P w K mg base N qual scope f cd cc A outer s H E).env.cells.lookup y = some c → ((cellsFrom (s.heap.objs.size + 1) scope.names []).lookup y = some c ∧ y ≠ ("__class__" : Str)) ∨ (y = ("__class__" : Str) ∧ c = cc) := fun y c e => look_ownS e S
  refine ⟨⟨e0.mod, S.kind, rfl, rfl, Nat.le_refl _, fun y z c a b => ?_, fun y hy => ?_, fun y c hf h => ?_, fun _ => hd, Around.frames_deeper e0.frames, .inr ⟨rfl, rfl⟩, fun b z => absurd z (noA b), e0.bs, e0.bsz, fun b _ _ => noA b, fun b z => absurd z (noA b), e0.funs, e0.frf⟩,
    rfl, e0.bare, Un.kept hk, ⟨_, x.toInCall.ns, fun i y v a b c => ?_⟩, fun y c e => ?_, e0.hok.fresh (Nat.le_refl _), fun y c e => ?_, fun p hp => absurd (show p ∈ ([] : List (Addr × Obj)) from hp) (by simp), e0.hok.kept hk, ?_⟩
  · rcases own2 y c a with ⟨a, _⟩ | ⟨a, a2⟩ <;> rcases own2 z c b with ⟨b, _⟩ | ⟨b, b2⟩
    · exact name_of_addr x.apart (PySem.mem_of_lookup a) (PySem.mem_of_lookup b)
    · have ab := abv y c a
      rw [b2] at ab
      exact absurd (Nat.lt_trans ltc ab) (Nat.lt_irrefl _)
    · have ab := abv z c b
      rw [a2] at ab
      exact absurd (Nat.lt_trans ltc ab) (Nat.lt_irrefl _)
    · rw [a, b]
  · have hy : scope.names.lookup y = some .cell ∨ scope.names.lookup y = some .free := hy
    show ∃ c, (cellsFrom (s.heap.objs.size + 1) scope.names [("__class__", cc)]).lookup y = some c
    rcases hy with hy | hy
    · obtain ⟨c, e⟩ := cell_in (n := s.heap.objs.size + 1) hy
      refine ⟨c, ?_⟩
      rw [cells_acc, List.lookup_append, e]
      rfl
    · have ey := S.fre _ (PySem.mem_of_lookup hy) rfl
      exact ⟨cc, by rw [show y = ("__class__" : Str) from ey]; exact look_clsS S⟩
  · rcases own2 y c h with ⟨a, _⟩ | ⟨a, _⟩
    · exact Nat.le_of_lt (abv y c a)
    · have hf : (!(y == ("__class__" : Str))) = true := hf
      rw [a] at hf
      simp at hf
  · have a : N[i]? = some y := a
    by_cases hi : i < ps.length
    · have hp : ps[i]? = some y := by
        rw [← S.pre, List.getElem?_take_of_lt hi]
        exact a
      have hv : vs[i]? = some v := by
        unfold start at b
        rw [List.getElem?_append_left (by rw [List.length_map]; omega), List.getElem?_map] at b
        cases e : vs[i]? with
        | none =>
          rw [e] at b
          cases b
        | some q =>
          rw [e] at b
          cases b
          rfl
      obtain ⟨u, hu, rv⟩ := r.get hv
      have ndP : ps.Nodup := by
        have q := S.nd.sublist (List.take_sublist ps.length N)
        rw [S.pre] at q
        exact q
      refine ⟨u, rv, ?_⟩
      rcases S.par y (List.mem_of_getElem? hp) with q | q
      · exact .inl ⟨q, bindL_get ndP hp hu q⟩
      · obtain ⟨c, hc⟩ := cell_in (n := s.heap.objs.size + 1) q
        refine .inr ⟨.inl q, c, ?_, ?_⟩
        · show (cellsFrom (s.heap.objs.size + 1) scope.names [("__class__", cc)]).lookup y = some c
          rw [cells_acc, List.lookup_append, hc]
          rfl
        · have z := x.cell y c hc
          rw [bindC_get ndP hp hu (show (envS qual scope s.heap.objs.size f cd cc).kindOf y ≠ some .local from fun k => by
            have k : scope.names.lookup y = some .local := k
            rw [q] at k
            cases k)] at z
          exact z
    · unfold start at b
      rw [List.getElem?_append_right (by rw [List.length_map]; omega), List.getElem?_replicate] at b
      split at b <;> cases b
  · rcases own2 y c e with ⟨a, _⟩ | ⟨_, a⟩
    · exact ⟨_, x.cell y c a⟩
    · rw [a]
      exact ⟨_, _, hk _ _ scc, rfl⟩
  · rcases own2 y c e with ⟨a, _⟩ | ⟨_, a⟩
    · exact e0.hok.fresh (Nat.le_of_lt (abv y c a))
    · rw [a]
      exact Hcc
  · unfold start
    show _ = N.length
    rw [List.length_append, List.length_map, List.length_replicate]
    omega
end
/-! ### a body in its own activation -/
structure PSA (X : Cx) (body sts : List Stmt) (t : TS) : Prop where
  run : ∀ (pins : List (Addr × Obj)) (s : Shared) (σ : L2.St) (H : Hp) (D : Ends), Inv X pins σ H s → t D σ H → PySem.wpAt (model X.prog X.w) X.A (.func body X.env) (execs sts X.env) (SP X pins D) X.xe s
/-- what super() asks of the running def, of a class D: its cell, its code, its first parameter ar -/
structure SupAt (X : Cx) (D : Addr) (ar : Str) : Prop where
  kc : X.env.kindOf ("__class__" : Str) = some .free
  ks : X.env.kindOf ("super" : Str) = some .globalImplicit
  fn : ∃ f of fd a, X.env.func = some f ∧ X.K.lookup f = some of ∧ of.data = .func fd ∧ (fd.params.posonlyargs ++ fd.params.args).head? = some a ∧ a.arg = ar
  code : ∃ cda oc vs file tf, X.env.code = .ref cda ∧ X.K.lookup cda = some oc ∧ oc.data = .fields vs ∧ vs[2]? = some (.str file tf) ∧ ((X.prog.main.file : Str) == file) = true
  top : (X.prog.main.scope.names.lookup ("super" : Str)).isSome = false
  cell : ∃ cc oc, X.env.cells.lookup ("__class__" : Str) = some cc ∧ X.K.lookup cc = some oc ∧ oc.data = .cell (some (.ref D))
  cls : ∃ oD cd, X.K.lookup D = some oD ∧ oD.data = .cls cd
  mg : X.mg "super" = none
  opq : PySem.W.nsIn X.K cStatics "thirdparty.any" = some none
section
variable {X : Cx} {body sts : List Stmt} {st : Stmt} {t u : TS} {D : Addr} {ar : Str}
theorem psa_end (h : PSs X sts t) : PSA X body sts t := ⟨fun pins s σ H D I q => wpAt_of_wpAny (h.run pins s σ H D I q)⟩
theorem psa_cons (h : PS X st t) (hr : PSA X body sts u) : PSA X body (st :: sts) (tSeq t u) := by
  refine ⟨fun pins s σ H D I q => ks_wpAt_execs_cons (wpAt_of_wpAny (thn (h.run pins s σ H _ I q) fun f s' hs => ?_))⟩
  cases f with
  | next =>
    obtain ⟨σ', H', I', q'⟩ := hs
    exact hr.run pins s' σ' H' D I' q'
  | ret v => exact hs
  | brk => exact hs
  | cont => exact hs
/-! ### super() itself: a new object of class super -/
/-- the name of the first parameter: a local or a cell -/
def Own1 (sc : Scope) (x : Str) : Prop := sc.names.lookup x = some .local ∨ sc.names.lookup x = some .cell
theorem super_new {pins : List (Addr × Obj)} {s : Shared} {σ : L2.St} {H : Hp} {Q : Value → Shared → Prop} {p0 p1 : Pos} {attr : Str} {whole : Sem Value} {x C : Addr} {ox : Obj} {odx : Option Obj} (S : SupAt X D ar) (I : Inv X pins σ H s)
    (hat : (attr == ("__class__" : Str)) = false) (hN : X.N[0]? = some ar) (hv : Own1 X.env.scope ar) (hσ : σ[0]? = some (some (.ref x))) (J : PySem.W.InstAt s.heap x ox C odx) (hsub : PySem.W.mroIn X.K C (.ref D) = some true)
    (h : ∀ so h', s.heap.objs.size = so → h'.get? so = some (PySem.W.ks_superObj D x C) → (∀ y o, s.heap.get? y = some o → h'.get? y = some o) → Q (.ref so) { s with heap := h' }) :
    PySem.wpAt (model X.prog X.w) X.A (.func body X.env) (attributeBase (.Call (.Name "super" p0) [] [] p1) attr X.env whole) Q X.xe s := by
  obtain ⟨f, of, fd, a, f1, f2, f3, f4, f5⟩ := S.fn
  obtain ⟨cda, oc, vs, file, tf, c1, c2, c3, c4, c5⟩ := S.code
  obtain ⟨cc, occ, e1, e2, e3⟩ := S.cell
  obtain ⟨oD, cdD, d1, d2⟩ := S.cls
  obtain ⟨mb, b1, b2⟩ := I.mod.blt
  have KX := I.kIn
  refine ks_wpAt_super_base S.ks S.kc hat f1 (KX _ _ f2) f3 f4 c1 (KX _ _ c2) c3 c4 c5 S.top ?_
  refine PySem.W.ks_loadName_global I.ok.kind S.ks (Calls.loadGlobal_builtin (mg := X.mg) (mb := mb) (by rw [I.ok.glob]; exact I.mod.glob.keeps I.bk) S.mg (by rw [I.ok.blt]; exact b1.keeps I.bk) ((b2 _ (by decide)).trans (by decide +kernel)) ⟨rfl, ?_⟩)
  refine wpAny_loadName_free I.ok.kind S.kc e1 ⟨occ, KX _ _ e2, e3⟩ ?_
  obtain ⟨m, hn, hl⟩ := I.loc
  have hvis : Vis X.env.scope ar := hv.elim .inl fun z => .inr (.inl z)
  obtain ⟨u, ru, l⟩ := hl 0 ar (.ref x) hN hσ hvis
  obtain rfl : u = Value.ref x := ru
  have fin : wpAny (model X.prog X.w) X.A (isType (.ref D)) (fun b s₄ => b = true ∧ wpAny (model X.prog X.w) X.A (call (.type "super") [.ref D, .ref x]) Q X.xe s₄) X.xe s := by
    refine ks_wpAny_isType_cls (KX _ _ d1) d2 ⟨rfl, ?_⟩
    obtain ⟨hh, g, d, t, os⟩ := s
    refine ks_wpAny_call_super (KX _ _ d1) d2 J.at_ J.cls (fun c e => ?_) (PySem.W.looks_mroIn KX hsub) (fun h' e k => h _ h' rfl e k)
    have z := J.no
    unfold PySem.W.notCls at z
    rw [e] at z
    exact Bool.noConfusion z
  rw [f5]
  rcases l with ⟨hk, hm⟩ | ⟨hk, c, hc, hcell⟩
  · exact wpAny_loadName_local I.ok.kind hk hn hm fin
  · have hk : X.env.kindOf ar = some .cell := by
      rcases hv with z | z
      · rcases hk with k | k
        · exact k
        · exact absurd ((show X.env.scope.names.lookup ar = some .free from k).symm.trans z) (by simp)
      · exact z
    exact wpAny_loadName_cell I.ok.kind hk hc hcell fin
/-! ### super().__init__(e, ..), the def found being one of the text -/
def tSup (K : PySem.W.Frag) (D f2 : Addr) (sp : Sp) (dvs : List V) (E : XK) (ta : TA) : TS := fun Dn σ H => ∃ x C dx fs, σ[0]? = some (some (.ref x)) ∧ H x = some (.ins C dx fs) ∧
  PySem.W.mroIn K C (.ref D) = some true ∧ PySem.W.ks_superIn K C D "__init__" = some (some (.ref f2)) ∧ ta σ H fun vs H1 => sp (.ref x :: (vs ++ dvs)) H1 (fun _ H2 => Dn.nx σ H2) E
theorem psa_sup {CX : CXT} {k : Nat} {f2 : Addr} {fd : FuncData} {ps : List Str} {sp : Sp} {dvs : List V} {ds : List Value} {E : XK} {e : Expr} {es : List Expr} {ta : TA} {p0 p1 ap pos pos' : Pos} {pl : Sem Bool} (S : SupAt X D ar)
    (hN : X.N[0]? = some ar) (hv : Own1 X.env.scope ar) (F : FnOk X.prog X.w X.K X.mg X.base CX k f2 fd ps sp) (hr : Room k X.A) (hb : Binds X.K fd ps ds) (hd : Vals dvs ds) (hx : Passes CX X E)
    (hf : PySem.W.fnIn X.K f2 = true) (ht : PySem.W.typeIn X.K (.ref f2) = some (.type "function")) (ha : PA X (e :: es) ta) (hr2 : PSA X body sts u)
    (he : eval (.Call (.Attribute (.Call (.Name "super" p0) [] [] p1) "__init__" ap) (e :: es) [] pos) X.env = (do
      let ov ← attributeBase (.Call (.Name "super" p0) [] [] p1) "__init__" X.env (eval (.Call (.Name "super" p0) [] [] p1) X.env)
      standAt ap.atName
      let (f, first) ← holding [ov] (getMethod ov "__init__" pl)
      callWith pos f first (backTo pos (starEach (e :: es) X.env)) []) := by rfl)
    (hst : starEach (e :: es) X.env = (false, eval e X.env) :: starEach es X.env := by rfl) (hpl : (backTo pos (starEach es X.env)).any (·.1) = false := by rfl)
    (hs : swapsWith (.Call (.Attribute (.Call (.Name "super" p0) [] [] p1) "__init__" ap) (e :: es) [] pos) none pos'.line X.env = pure false := by rfl) :
    PSA X body (.Expr (.Call (.Attribute (.Call (.Name "super" p0) [] [] p1) "__init__" ap) (e :: es) [] pos) pos' :: sts) (tSeq (tSup X.K D f2 sp dvs E ta) u) := by
  refine ⟨fun pins s σ H Dn I q => ks_wpAt_execs_cons (ks_wpAt_Expr_any (ks_wpAt_MethodCall ?_ he) I.quiet hs)⟩
  obtain ⟨x, C, dx, fs, hσ, hx1, hm, hsi, q⟩ := q
  obtain ⟨mA, O, _⟩ := ins_get I.hok hx1
  obtain ⟨odx, J, _⟩ := O.look
  refine super_new S I (by decide) hN hv hσ J hm fun so h' eso k1 k2 => ?_
  have I1 : Inv X pins σ H { s with heap := h' } := I.kept (t' := s.toks) k2
  obtain ⟨mA1, O1, _⟩ := ins_get I1.hok hx1
  obtain ⟨ody, J1, _⟩ := O1.look
  have KX := I1.kIn
  cases hc : PySem.W.clsIn X.K C with
  | none =>
    unfold PySem.W.ks_superIn at hsi
    rw [hc] at hsi
    cases hsi
  | some cd =>
    unfold PySem.W.ks_superIn at hsi
    rw [hc] at hsi
    obtain ⟨of, hof, hofc⟩ : ∃ of, h'.get? f2 = some of ∧ of.cls = .type "function" := by
      have z : (X.K.lookup f2).map (·.cls) = some (.type "function") := ht
      cases y : X.K.lookup f2 with
      | none =>
        rw [y] at z
        cases z
      | some of =>
        rw [y] at z
        exact ⟨of, KX _ _ y, Option.some.inj z⟩
    refine ks_wpAny_getMethod_super k1 (PySem.W.looks_opaque KX S.opq) (l₀ := cd.mro) (fun A' Q' E' s' kk qq => wpAny_bind ((PySem.W.looks_clsIn KX hc) A' _ E' s' kk (wpAny_pure qq))) rfl KX hsi hof hofc (PySem.W.ks_ne KX J1 hc) (by decide) ?_
    have I2 := ClX.met_new (g := f2) (C := x) I1
    refine ClX.callwith_cm I2 (ClX.base_none I1 (Nat.le_refl _)) hf (thn (ha.run pos _ _ σ H _ I2 q) fun us s3 ⟨vs, H2, I3, rv, q2⟩ => ⟨⟨ClX.pin_at I3, I3.kIn⟩, ?_⟩) hst hpl
    have r2 : Vals (V.ref x :: (vs ++ dvs)) (Value.ref x :: (us ++ ds)) := .cons rfl (rv.append hd)
    have hl : (Value.ref x :: us ++ ds).length = ps.length := by
      have z := r2.length
      rw [F.len _ _ _ _ q2] at z
      exact z.symm
    refine wpAny_call (PySem.W.method_call (ClX.pin_at I3) (codeAny_mono (F.run X.A X.stack _ _ ⟨Value.ref x :: us, []⟩ (Value.ref x :: (us ++ ds)) _ _ E hr I3.env0 (hb _ (Value.ref x :: us) I3.kIn hl) r2 q2) fun r s' hq => ?_))
    cases r with
    | error er => exact hx _ σ _ _ er s' (ClX.unpin I3) hq
    | ok fl =>
      cases fl with
      | ret v =>
        obtain ⟨v', H', I4, _, q3⟩ := (ClX.unpin I3).after hq
        exact hr2.run _ s' σ H' Dn I4 q3
      | next => exact False.elim hq
      | brk => exact False.elim hq
      | cont => exact False.elim hq
end
end L2.DS
/-! Own exceptions whose __init__ says super().__init__('text'); self.f = f. -/
/-! The rule for a def that says super().__init__. -/
namespace L2.DS
open PySem PySem.Spec PyProof.Rows
structure FunS (prog : Program) (K : PySem.W.Frag) (x qual : Str) (st : Stmt) (f : Addr) (fd : FuncData) (D : Addr) : Prop where
  ex : ∃ (oc : Value) (od : Option Addr) (dV kV doc pm : Value) (an : Option Addr) (cda : Addr) (ct : Value) (osl : Array (Option Value)) (cc : Addr) (ol : Obj) (vs : Array Value) (file : Str) (tf : Tok) (ccl : Value) (ccd : Option Addr) (csl : Array (Option Value)),
    fd = PySem.W.fnX x qual (defArgs st) (defBody st) (defScope st) [("__class__", cc)] dV kV doc pm an (.ref cda) ct ∧ K.lookup f = some ⟨oc, od, .func fd, osl⟩ ∧ PySem.W.codeIn K (.ref cda) qual = true ∧
    K.lookup cda = some ol ∧ ol.data = .fields vs ∧ vs[2]? = some (.str file tf) ∧ ((prog.main.file : Str) == file) = true ∧ K.lookup cc = some ⟨ccl, ccd, .cell (some (.ref D)), csl⟩
  cls : ∃ oD cd, K.lookup D = some oD ∧ oD.data = .cls cd
  kp : PySem.W.keepIn K (.ref f) = true
  fi : PySem.W.fnIn K f = true
  ty : PySem.W.typeIn K (.ref f) = some (.type "function")
section
variable {P : Program} {w : World} {K : PySem.W.Frag} {mg : Str → Option Value} {base : Heap}
theorem FunS.okX {x qual : Str} {st : Stmt} {f D : Addr} {fd : FuncData} {N ps : List Str} {k : Nat} {sp : Sp} {ar : Str} {a : Arg} (F : FunS P K x qual st f fd D) (S : ScS N ps (defScope st)) (hmg : mg "super" = none)
    (opq : PySem.W.nsIn K cStatics "thirdparty.any" = some none) (top : (P.main.scope.names.lookup ("super" : Str)).isSome = false) (har : ((defArgs st).posonlyargs ++ (defArgs st).args).head? = some a) (har2 : a.arg = ar)
    (len : ∀ vs H Q E, sp vs H Q E → vs.length = ps.length)
    (hbody : ∀ (cdv : Value) (cc : Addr) (A : Around) (outer : List Env) (s : Shared) (H : Hp) (vs : List V) (Q : VK) (E : XK), Room k (A.deeper (envS qual (defScope st) s.heap.objs.size f cdv cc)) → sp vs H Q E →
      SupAt (cxS (L2.CX P w) P w K mg base N qual (defScope st) f cdv cc A outer s H E) D ar →
      ∃ t, PSA (cxS (L2.CX P w) P w K mg base N qual (defScope st) f cdv cc A outer s H E) (defBody st) (defBody st) t ∧ t { nx := fun _ H' => Q .non H', rt := Q } (start N vs) H) : FnOk P w K mg base (L2.CX P w) (k + 1) f fd ps sp := by
  obtain ⟨oc, od, dV, kV, doc, pm, an, cda, ct, osl, cc, ol, vs, file, tf, ccl, ccd, csl, rfl, l1, l2, l3, l4, l5, l6, l7⟩ := F.ex
  refine ⟨len, fun A outer s H args us ws Q E hr e0 hb r hsp => ?_⟩
  have hl := len _ _ _ _ hsp
  have kb : ∀ b o, base.get? b = some o → s.heap.get? b = some o := fun b o e => (e0.bs b o e).1
  have KX : K.In s.heap := e0.mod.kin.keeps kb
  have lim : s.heap.NoLimit := e0.mod.nolimit.keeps kb
  refine codeAny_call_function hr.depth (KX _ _ l1) rfl S.co S.gen rfl (PySem.W.codeRec_of KX l2) (hb _ _ _ _ ?_)
  refine new_envS S.kind (fun y hy => ?_) fun s1 x1 => ⟨lim.keeps x1.toInCall.keep, ks_codeAny_funcAt ?_⟩
  · obtain ⟨n, v⟩ := y
    rcases S.par n (List.of_mem_zip hy).1 with q | q
    · exact .inl q
    · exact .inr ⟨q, PySem.W.cellsFrom_some _ _ _ (.inl q)⟩
  · have I := inv_startS (CX := L2.CX P w) (E := E) (N := N) (qual := qual) (f := f) (cd := .ref cda) S hr.hd e0 hl r l7 x1
    have SA : SupAt (cxS (L2.CX P w) P w K mg base N qual (defScope st) f (.ref cda) cc A outer s H E) D ar :=
      ⟨S.cls, S.sup, ⟨f, _, _, a, rfl, l1, rfl, har, har2⟩, ⟨cda, ol, vs, file, tf, rfl, l3, l4, l5, l6⟩, top, ⟨cc, _, look_clsS S, l7, rfl⟩, F.cls, hmg, opq⟩
    obtain ⟨t, ht, hq⟩ := hbody (.ref cda) cc A outer s H ws Q E (hr.deeper _) hsp SA
    refine ks_wpAt_mono (ht.run [] s1 (start N ws) H _ I hq) (fun fl s' hs => ?_) fun _ _ z => z
    have fin : ∀ {σ' : L2.St} {H' : Hp} {v : V} {u : Value}, Inv (cxS (L2.CX P w) P w K mg base N qual (defScope st) f (.ref cda) cc A outer s H E) [] σ' H' s' → RelV v u → Q v H' → CE outer P w H s Q u s' :=
      fun {σ' H' v u} J rv q => ⟨v, H', J.os, J.bare, J.base, J.hok, rv, q⟩
    cases fl with
    | ret u =>
      obtain ⟨v, σ', H', J, rv, q⟩ := hs
      exact fin J rv q
    | next =>
      obtain ⟨σ', H', J, q⟩ := hs
      exact fin (v := V.non) (u := Value.none) J rfl q
    | brk =>
      obtain ⟨_, _, _, q⟩ := hs
      exact q.elim
    | cont =>
      obtain ⟨_, _, _, q⟩ := hs
      exact q.elim
end
end L2.DS
/-! What a reading evaluates to: G what stands still, H the heap, S n what is known of both (n: how often numbers were drawn). -/
namespace L2.DS
open PySem PySem.Spec PyProof.Rows
/-- what is known of what stands still and of the heap; what may change under it -/
structure SR where
  s : Nat → Hp → Hp → Prop
  m : Addr → Prop
instance : CoeFun SR (fun _ => Nat → Hp → Hp → Prop) := ⟨SR.s⟩
/-- all stays but what may change -/
structure Kp (S : SR) (H H' : Hp) : Prop where
  k : ∀ b o, ¬ S.m b → H b = some o → H' b = some o
  v : ∀ b, H' b = none → H b = none
theorem Kp.refl {S : SR} (H : Hp) : Kp S H H := ⟨fun _ _ _ h => h, fun _ h => h⟩
theorem Kp.trans {S : SR} {H H1 H2 : Hp} (a : Kp S H H1) (b : Kp S H1 H2) : Kp S H H2 := ⟨fun c o h e => b.k c o h (a.k c o h e), fun c h => a.v c (b.v c h)⟩
theorem Kp.of {S : SR} {H H' : Hp} (s : Same H H') : Kp S H H' := ⟨fun b o _ e => s b o e, fun b h => s.free h⟩
structure Stp (S : SR) (n : Nat) (G H G' H' : Hp) : Prop where
  g : Same G G'
  k : Kp S H H'
  s : S n G' H'
  n : ∀ b o, G' b = some o → G b = some o ∨ H b = none
theorem Stp.refl {S : SR} {n : Nat} {G H : Hp} (s : S n G H) : Stp S n G H G H := ⟨Same.refl _, Kp.refl _, s, fun _ _ h => .inl h⟩
theorem Stp.trans {S : SR} {n m : Nat} {G H G1 H1 G2 H2 : Hp} (a : Stp S n G H G1 H1) (b : Stp S m G1 H1 G2 H2) : Stp S m G H G2 H2 := ⟨a.g.trans b.g, a.k.trans b.k, b.s, fun c o e => by
  rcases b.n c o e with q | q
  · exact a.n c o q
  · exact .inr (a.k.v c q)⟩
theorem Stp.up {S : SR} {n a b : Nat} {G H G1 H1 : Hp} (h : Stp S (n + a + b) G H G1 H1) : Stp S (n + (a + b)) G H G1 H1 := by
  rw [← Nat.add_assoc]
  exact h
abbrev HR := V → Hp → Prop
/-- H' grows out of H, G' out of G: what is new in G' is new in H' -/
structure Grow (G H G' H' : Hp) : Prop where
  g : Same G G'
  h : Same H H'
  s : Same G' H'
  n : ∀ b o, G' b = some o → G b = some o ∨ H b = none
theorem Grow.refl {G H : Hp} (s : Same G H) : Grow G H G H := ⟨Same.refl _, Same.refl _, s, fun _ _ h => .inl h⟩
theorem Grow.trans {G H G1 H1 G2 H2 : Hp} (a : Grow G H G1 H1) (b : Grow G1 H1 G2 H2) : Grow G H G2 H2 :=
  ⟨a.g.trans b.g, a.h.trans b.h, b.s, fun c o e => by
    rcases b.n c o e with q | q
    · exact a.n c o q
    · exact .inr (a.h.free q)⟩
theorem Grow.new {G H : Hp} {p : Addr} (s : Same G H) (hp : H p = none) (o : HO) : Grow G H (upd G p o) (upd H p o) :=
  ⟨fun b u e => by rw [upd_ne (ne_of_none e (s.free hp))]; exact e, fun b u e => by rw [upd_ne (ne_of_none e hp)]; exact e, fun b u e => by
    by_cases hb : b = p
    · subst hb
      rw [upd_same] at e ⊢
      exact e
    · rw [upd_ne hb] at e ⊢
      exact s b u e, fun b u e => by
    by_cases hb : b = p
    · rw [hb]
      exact .inr hp
    · rw [upd_ne hb] at e
      exact .inl e⟩
/-- a new thing that nobody tells of -/
theorem Grow.hid {G H : Hp} {p : Addr} (s : Same G H) (hp : H p = none) (o : HO) : Grow G H G (upd H p o) :=
  ⟨Same.refl _, fun b u e => by rw [upd_ne (ne_of_none e hp)]; exact e, fun b u e => by rw [upd_ne (ne_of_none e (s.free hp))]; exact s b u e, fun b u e => .inl e⟩
structure Stab (S : SR) : Prop where
  sub : ∀ {n G H}, S n G H → Same G H
  wk : ∀ {n m G H}, S n G H → n ≤ m → S m G H
  grow : ∀ {n G H G' H'}, S n G H → Grow G H G' H' → S n G' H'
  anti : ∀ {n m G H G' H'}, S n G H → S m G' H' → Same G G' → S m G H'
  /-- what is new may change while nobody tells of it -/
  chg : ∀ {n m G H G' H' D o}, S n G H → H D = none → S m G' H' → G' D = none → S m G' (upd H' D o)
  pub : ∀ {n m G H G' H' D o}, S n G H → H D = none → S m G' H' → G' D = none → H' D = some o → S m (upd G' D o) H'
  fre : ∀ {n G H D}, S n G H → H D = none → ¬ S.m D
/-- nothing but growth -/
def SP0 (G0 H0 : Hp) : SR := ⟨fun _ G H => Grow G0 H0 G H, fun _ => False⟩
theorem Stp.same {G0 H0 : Hp} {n : Nat} {G H G' H' : Hp} (s : Stp (SP0 G0 H0) n G H G' H') : Same H H' := fun b o e => s.k.k b o (fun z => z) e
theorem Stab.new {S : SR} (st : Stab S) {n : Nat} {G H : Hp} {p : Addr} {o : HO} (s : S n G H) (hp : H p = none) : Stp S n G H (upd G p o) (upd H p o) :=
  have g := Grow.new (st.sub s) hp o
  ⟨g.g, Kp.of g.h, st.grow s g, g.n⟩
theorem Stab.gro {S : SR} (st : Stab S) {n : Nat} {G H G' H' : Hp} (s : S n G H) (g : Grow G H G' H') : Stp S n G H G' H' := ⟨g.g, Kp.of g.h, st.grow s g, g.n⟩
theorem stab0 (G0 H0 : Hp) : Stab (SP0 G0 H0) where
  sub := fun h => h.s
  wk := fun h _ => h
  grow := fun h g => Grow.trans h g
  anti := fun {n m G H G' H'} h h' s => ⟨h.g, h'.h, s.trans h'.s, fun b o e => h'.n b o (s b o e)⟩
  chg := fun {n m G H G' H' D o} h d h' g => ⟨h'.g, fun b u e => by
      rw [upd_ne (ne_of_none e (h.h.free d))]
      exact h'.h b u e, fun b u e => by
      rw [upd_ne (ne_of_none e g)]
      exact h'.s b u e, h'.n⟩
  pub := fun {n m G H G' H' D o} h d h' g e => ⟨fun b u z => by
      rw [upd_ne (ne_of_none z (h'.g.free g))]
      exact h'.g b u z, h'.h, fun b u z => by
      by_cases hb : b = D
      · rw [hb, upd_same] at z
        rw [hb, ← z]
        exact e
      · rw [upd_ne hb] at z
        exact h'.s b u z, fun b u z => by
      by_cases hb : b = D
      · rw [hb]
        exact .inr (h.h.free d)
      · rw [upd_ne hb] at z
        exact h'.n b u z⟩
  fre := fun _ _ z => z
/-! ### results -/
class Mon (R : HR) : Prop where
  mon : ∀ {v : V} {G G' : Hp}, Same G G' → R v G → R v G'
def IsV (x : V) : HR := fun v _ => v = x
def IsI (P : Int → Prop) : HR := fun v _ => ∃ i, P i ∧ v = .int i
def IsB (P : Bool → Prop) : HR := fun v _ => ∃ b, P b ∧ v = .bl b
def IsS (P : Str → Prop) : HR := fun v _ => ∃ b, P b ∧ v = .str b
def IsL (K : PySem.W.Frag) (xs : List V) : HR := fun v G => ∃ p, v = .ref p ∧ SqL K G p xs
def IsT (K : PySem.W.Frag) (xs : List V) : HR := fun v G => ∃ p, v = .ref p ∧ SqT K G p xs
def IsD (K : PySem.W.Frag) (d : PyData) : HR := fun v G => Dp K G v d
abbrev HRs := List V → Hp → Prop
class Mons (R : HRs) : Prop where
  mon : ∀ {v : List V} {G G' : Hp}, Same G G' → R v G → R v G'
def RNil : HRs := fun vs _ => vs = []
def RCons (R : HR) (RA : HRs) : HRs := fun vs G => ∃ v r, vs = v :: r ∧ R v G ∧ RA r G
def IsVs (ws : List V) : HRs := fun vs _ => vs = ws
/-- a list, a tuple of things of which RA tells -/
def IsLA (K : PySem.W.Frag) (RA : HRs) : HR := fun v G => ∃ p xs, v = .ref p ∧ SqL K G p xs ∧ RA xs G
def IsTA (K : PySem.W.Frag) (RA : HRs) : HR := fun v G => ∃ p xs, v = .ref p ∧ SqT K G p xs ∧ RA xs G
theorem same_t {K : PySem.W.Frag} {H H' : Hp} {a : Addr} {xs : List V} (e : Same H H') (h : SqT K H a xs) : SqT K H' a xs := by
  rcases h with (h | ⟨o, h⟩) | h
  · exact .inl (.inl (e _ _ h))
  · exact .inl (.inr ⟨o, e _ _ h⟩)
  · exact .inr h
mutual
theorem dp_mon {K : PySem.W.Frag} {G G' : Hp} (s : Same G G') : ∀ {v : V} {d : PyData}, Dp K G v d → Dp K G' v d
  | _, _, .non => .non
  | _, _, .bl b => .bl b
  | _, _, .int i => .int i
  | _, _, .str x => .str x
  | _, _, .lst h hs => .lst (s.seq h) (dps_mon s hs)
  | _, _, .tup h hs => .tup (same_t s h) (dps_mon s hs)
theorem dps_mon {K : PySem.W.Frag} {G G' : Hp} (s : Same G G') : ∀ {vs : List V} {ds : List PyData}, DpAll K G vs ds → DpAll K G' vs ds
  | _, _, .nil => .nil
  | _, _, .cons h hs => .cons (dp_mon s h) (dps_mon s hs)
end
instance (x : V) : Mon (IsV x) := ⟨fun _ h => h⟩
instance (P : Int → Prop) : Mon (IsI P) := ⟨fun _ h => h⟩
instance (P : Bool → Prop) : Mon (IsB P) := ⟨fun _ h => h⟩
instance (P : Str → Prop) : Mon (IsS P) := ⟨fun _ h => h⟩
instance (K xs) : Mon (IsL K xs) := ⟨fun s ⟨p, e, h⟩ => ⟨p, e, s.seq h⟩⟩
instance (K xs) : Mon (IsT K xs) := ⟨fun s ⟨p, e, h⟩ => ⟨p, e, same_t s h⟩⟩
instance (K d) : Mon (IsD K d) := ⟨fun s h => dp_mon s h⟩
instance : Mons RNil := ⟨fun _ h => h⟩
instance (ws) : Mons (IsVs ws) := ⟨fun _ h => h⟩
instance (R RA) [Mon R] [Mons RA] : Mons (RCons R RA) := ⟨fun s ⟨v, r, e, h, h'⟩ => ⟨v, r, e, Mon.mon s h, Mons.mon s h'⟩⟩
instance (K RA) [Mons RA] : Mon (IsLA K RA) := ⟨fun s ⟨p, xs, e, h, h'⟩ => ⟨p, xs, e, s.seq h, Mons.mon s h'⟩⟩
instance (K RA) [Mons RA] : Mon (IsTA K RA) := ⟨fun s ⟨p, xs, e, h, h'⟩ => ⟨p, xs, e, same_t s h, Mons.mon s h'⟩⟩
/-! ### what evaluates to what -/
variable (S : SR)
def Ev (n k : Nat) (te : TE) (σ : L2.St) (G : Hp) (R : HR) : Prop := ∀ G1 H1, Same G G1 → S n G1 H1 → ∀ Q : VK, (∀ v G2 H2, Stp S (n + k) G1 H1 G2 H2 → R v G2 → Q v H2) → te σ H1 Q
def EvT (n k : Nat) (tt : TT) (σ : L2.St) (G : Hp) (P : Bool → Prop) : Prop := ∀ G1 H1, Same G G1 → S n G1 H1 → ∀ Q : Bool → Hp → Prop, (∀ b G2 H2, Stp S (n + k) G1 H1 G2 H2 → P b → Q b H2) → tt σ H1 Q
def EvA (n k : Nat) (ta : TA) (σ : L2.St) (G : Hp) (RA : HRs) : Prop := ∀ G1 H1, Same G G1 → S n G1 H1 → ∀ Q : List V → Hp → Prop, (∀ v G2 H2, Stp S (n + k) G1 H1 G2 H2 → RA v G2 → Q v H2) → ta σ H1 Q
/-- operations by values -/
def RV (r : R2) (x y : V) (G : Hp) (R : HR) : Prop := ∀ n G1 H1, Same G G1 → S n G1 H1 → ∀ Q : VK, (∀ v G2 H2, Stp S n G1 H1 G2 H2 → R v G2 → Q v H2) → r x y H1 Q
def RU (r : V → Hp → VK → Prop) (x : V) (G : Hp) (R : HR) : Prop := ∀ n G1 H1, Same G G1 → S n G1 H1 → ∀ Q : VK, (∀ v G2 H2, Stp S n G1 H1 G2 H2 → R v G2 → Q v H2) → r x H1 Q
def RC (r : List V → Hp → VK → Prop) (xs : List V) (G : Hp) (R : HR) : Prop := ∀ n G1 H1, Same G G1 → S n G1 H1 → ∀ Q : VK, (∀ v G2 H2, Stp S n G1 H1 G2 H2 → R v G2 → Q v H2) → r xs H1 Q
variable {S}
section
variable {n k ka kb kc : Nat} {te ta tb : TE} {tt tu : TT} {t tr : TA} {σ : L2.St} {G G' : Hp} {R Ra Rb : HR} {RA : HRs} {P P' : Bool → Prop} {x y : V} {r : R2}
theorem Ev.mono (h : Ev S n k te σ G R) (s : Same G G') : Ev S n k te σ G' R := fun G1 H1 a b Q q => h G1 H1 (s.trans a) b Q q
theorem EvT.mono (h : EvT S n k tt σ G P) (s : Same G G') : EvT S n k tt σ G' P := fun G1 H1 a b Q q => h G1 H1 (s.trans a) b Q q
theorem EvA.mono (h : EvA S n k t σ G RA) (s : Same G G') : EvA S n k t σ G' RA := fun G1 H1 a b Q q => h G1 H1 (s.trans a) b Q q
theorem Ev.imp (h : Ev S n k te σ G R) (i : ∀ v G', Same G G' → R v G' → Rb v G') : Ev S n k te σ G Rb := fun G1 H1 a b Q q => h G1 H1 a b Q fun v G2 H2 s e => q v G2 H2 s (i v G2 (a.trans s.g) e)
theorem EvT.imp (h : EvT S n k tt σ G P) (i : ∀ b, P b → P' b) : EvT S n k tt σ G P' := fun G1 H1 a b Q q => h G1 H1 a b Q fun v G2 H2 s e => q v G2 H2 s (i v e)
theorem Stp.wk (st : Stab S) {m : Nat} {H G1 H1 : Hp} (s : Stp S n G H G1 H1) (h : n ≤ m) : Stp S m G H G1 H1 := ⟨s.g, s.k, st.wk s.s h, s.n⟩
theorem Ev.wk (st : Stab S) (h : Ev S n ka te σ G R) (hk : ka ≤ kb) : Ev S n kb te σ G R := fun G1 H1 a b Q q => h G1 H1 a b Q fun v G2 H2 s e => q v G2 H2 (s.wk st (by omega)) e
theorem ev_var {i : Nat} (h : σ[i]? = some (some x)) : Ev S n 0 (tVar i) σ G (IsV x) := fun G1 H1 _ s Q q => ⟨x, h, q x G1 H1 (Stp.refl s) rfl⟩
theorem ev_c : Ev S n 0 (tC x) σ G (IsV x) := fun G1 H1 _ s Q q => q x G1 H1 (Stp.refl s) rfl
theorem ev_op [Mon Ra] (ha : Ev S n ka ta σ G Ra) (hb : Ev S (n + ka) kb tb σ G Rb) (hr : ∀ x y G', Same G G' → Ra x G' → Rb y G' → RV S r x y G' R) : Ev S n (ka + kb) (tOp r ta tb) σ G R := fun G1 H1 a s Q q =>
  ha G1 H1 a s _ fun x G2 H2 s2 rx => hb G2 H2 (a.trans s2.g) s2.s _ fun y G3 H3 s3 ry =>
    hr x y G3 ((a.trans s2.g).trans s3.g) (Mon.mon s3.g rx) ry _ G3 H3 (Same.refl _) s3.s Q fun v G4 H4 s4 e => q v G4 H4 ((s2.trans s3).trans s4).up e
/-- both operands known -/
theorem ev_opV (ha : Ev S n ka ta σ G (IsV x)) (hb : Ev S (n + ka) kb tb σ G (IsV y)) (hr : RV S r x y G R) : Ev S n (ka + kb) (tOp r ta tb) σ G R :=
  ev_op ha hb fun u v G' s e1 e2 => by
    rw [show u = x from e1, show v = y from e2]
    exact fun n G1 H1 a s' Q q => hr n G1 H1 (s.trans a) s' Q q
theorem ev_un [Mon Ra] {r : V → Hp → VK → Prop} (ha : Ev S n ka ta σ G Ra) (hr : ∀ x G', Same G G' → Ra x G' → RU S r x G' R) : Ev S n ka (tUn r ta) σ G R := fun G1 H1 a s Q q =>
  ha G1 H1 a s _ fun x G2 H2 s2 rx => hr x G2 (a.trans s2.g) rx _ G2 H2 (Same.refl _) s2.s Q fun v G4 H4 s4 e => q v G4 H4 (s2.trans s4) e
theorem ev_unV {r : V → Hp → VK → Prop} (ha : Ev S n ka ta σ G (IsV x)) (hr : RU S r x G R) : Ev S n ka (tUn r ta) σ G R :=
  ev_un ha fun u G' s e => by
    rw [show u = x from e]
    exact fun n G1 H1 a s' Q q => hr n G1 H1 (s.trans a) s' Q q
/-! tests -/
theorem et_test (h : Ev S n k te σ G (IsB P)) : EvT S n k (tTest te) σ G P := fun G1 H1 a s Q q => h G1 H1 a s _ fun v G2 H2 s2 ⟨b, p, e⟩ => ⟨b, e, q b G2 H2 s2 p⟩
theorem et_testV {b : Bool} (h : Ev S n k te σ G (IsV (.bl b))) : EvT S n k (tTest te) σ G (fun c => c = b) := fun G1 H1 a s Q q => h G1 H1 a s _ fun v G2 H2 s2 e => ⟨b, e, q b G2 H2 s2 rfl⟩
theorem et_B {b : Bool} (h : Ev S n k te σ G (IsV (.bl b))) : EvT S n k (tB te) σ G (fun c => c = b) := fun G1 H1 a s Q q => h G1 H1 a s _ fun v G2 H2 s2 e => ⟨b, e, q b G2 H2 s2 rfl⟩
theorem et_and (st : Stab S) {a b : Bool} (h1 : EvT S n ka tt σ G (fun c => c = a)) (h2 : a = true → EvT S (n + ka) kb tu σ G (fun c => c = b)) : EvT S n (ka + kb) (tAnd tt tu) σ G (fun c => c = (a && b)) := fun G1 H1 s0 s Q q =>
  h1 G1 H1 s0 s _ fun c G2 H2 s2 e => by
    subst e
    cases c with
    | true => exact iteT (h2 rfl G2 H2 (s0.trans s2.g) s2.s Q fun d G3 H3 s3 e => q d G3 H3 (s2.trans s3).up e)
    | false => exact iteF (q false G2 H2 (s2.wk st (by omega)) rfl)
theorem et_or (st : Stab S) {a b : Bool} (h1 : EvT S n ka tt σ G (fun c => c = a)) (h2 : a = false → EvT S (n + ka) kb tu σ G (fun c => c = b)) : EvT S n (ka + kb) (tOr tt tu) σ G (fun c => c = (a || b)) := fun G1 H1 s0 s Q q =>
  h1 G1 H1 s0 s _ fun c G2 H2 s2 e => by
    subst e
    cases c with
    | false => exact iteF (h2 rfl G2 H2 (s0.trans s2.g) s2.s Q fun d G3 H3 s3 e => q d G3 H3 (s2.trans s3).up e)
    | true => exact iteT (q true G2 H2 (s2.wk st (by omega)) rfl)
theorem et_not {a : Bool} (h : EvT S n ka tt σ G (fun c => c = a)) : EvT S n ka (tNot tt) σ G (fun c => c = !a) := fun G1 H1 s0 s Q q => h G1 H1 s0 s _ fun c G2 H2 s2 e => q (!c) G2 H2 s2 (by rw [show c = a from e])
theorem ev_andV (st : Stab S) {a b : Bool} (h1 : Ev S n ka ta σ G (IsV (.bl a))) (h2 : a = true → Ev S (n + ka) kb tb σ G (IsV (.bl b))) : Ev S n (ka + kb) (tAndV ta tb) σ G (IsV (.bl (a && b))) := fun G1 H1 s0 s Q q =>
  h1 G1 H1 s0 s _ fun c G2 H2 s2 e => ⟨a, e, by
    cases a with
    | true => exact iteT (h2 rfl G2 H2 (s0.trans s2.g) s2.s Q fun d G3 H3 s3 e => q d G3 H3 (s2.trans s3).up e)
    | false => exact iteF (q _ G2 H2 (s2.wk st (by omega)) rfl)⟩
theorem ev_orV (st : Stab S) {a b : Bool} (h1 : Ev S n ka ta σ G (IsV (.bl a))) (h2 : a = false → Ev S (n + ka) kb tb σ G (IsV (.bl b))) : Ev S n (ka + kb) (tOrV ta tb) σ G (IsV (.bl (a || b))) := fun G1 H1 s0 s Q q =>
  h1 G1 H1 s0 s _ fun c G2 H2 s2 e => ⟨a, e, by
    cases a with
    | false => exact iteF (h2 rfl G2 H2 (s0.trans s2.g) s2.s Q fun d G3 H3 s3 e => q d G3 H3 (s2.trans s3).up e)
    | true => exact iteT (q _ G2 H2 (s2.wk st (by omega)) rfl)⟩
theorem ev_notV {a : Bool} (h : Ev S n ka ta σ G (IsV (.bl a))) : Ev S n ka (tNotV ta) σ G (IsV (.bl (!a))) := fun G1 H1 s0 s Q q => h G1 H1 s0 s _ fun c G2 H2 s2 e => ⟨a, e, q _ G2 H2 s2 rfl⟩
theorem ev_if (st : Stab S) {c : Bool} (h : EvT S n kc tt σ G (fun b => b = c)) (h1 : c = true → Ev S (n + kc) ka ta σ G R) (h2 : c = false → Ev S (n + kc) kb tb σ G R) : Ev S n (kc + (ka + kb)) (tIf tt ta tb) σ G R := fun G1 H1 s0 s Q q =>
  h G1 H1 s0 s _ fun b G2 H2 s2 e => by
    subst e
    cases b with
    | true => exact iteT (h1 rfl G2 H2 (s0.trans s2.g) s2.s Q fun v G3 H3 s3 e => q v G3 H3 ((s2.trans s3).wk st (by omega)) e)
    | false => exact iteF (h2 rfl G2 H2 (s0.trans s2.g) s2.s Q fun v G3 H3 s3 e => q v G3 H3 ((s2.trans s3).wk st (by omega)) e)
/-! arguments, displays -/
theorem ea_nil : EvA S n 0 tNil σ G RNil := fun G1 H1 _ s Q q => q [] G1 H1 (Stp.refl s) rfl
theorem ea_cons [Mon R] (h : Ev S n ka te σ G R) (hr : EvA S (n + ka) kb tr σ G RA) : EvA S n (ka + kb) (tCons te tr) σ G (RCons R RA) := fun G1 H1 s0 s Q q =>
  h G1 H1 s0 s _ fun v G2 H2 s2 e => hr G2 H2 (s0.trans s2.g) s2.s _ fun vs G3 H3 s3 e' => q (v :: vs) G3 H3 (s2.trans s3).up ⟨v, vs, rfl, Mon.mon s3.g e, e'⟩
theorem ea_nilV : EvA S n 0 tNil σ G (IsVs []) := ea_nil
theorem ea_consV {vs : List V} (h : Ev S n ka te σ G (IsV x)) (hr : EvA S (n + ka) kb tr σ G (IsVs vs)) : EvA S n (ka + kb) (tCons te tr) σ G (IsVs (x :: vs)) := fun G1 H1 s0 s Q q =>
  h G1 H1 s0 s _ fun v G2 H2 s2 e => hr G2 H2 (s0.trans s2.g) s2.s _ fun ws G3 H3 s3 e' => q (v :: ws) G3 H3 (s2.trans s3).up (by rw [show v = x from e, show ws = vs from e']; rfl)
theorem ev_tup (st : Stab S) {K : PySem.W.Frag} (h : EvA S n k t σ G RA) [Mons RA] (hl : ∀ vs G', RA vs G' → vs.length ≤ 100000) : Ev S n k (tTup t) σ G (IsTA K RA) := fun G1 H1 s0 s Q q =>
  h G1 H1 s0 s _ fun vs G2 H2 s2 e => ⟨Nat.le_trans (hl vs G2 e) (by decide), fun p hp => by
    have g := st.new (o := .tup vs) s2.s hp
    exact q (.ref p) _ _ (s2.trans g) ⟨p, vs, rfl, SqT.of upd_same, Mons.mon g.g e⟩⟩
theorem ev_cb {r : List V → Hp → VK → Prop} (h : EvA S n k t σ G RA) (hr : ∀ vs G', Same G G' → RA vs G' → RC S r vs G' R) : Ev S n k (tCB r t) σ G R := fun G1 H1 s0 s Q q =>
  h G1 H1 s0 s _ fun vs G2 H2 s2 e => hr vs G2 (s0.trans s2.g) e _ G2 H2 (Same.refl _) s2.s Q fun v G3 H3 s3 e' => q v G3 H3 (s2.trans s3) e'
theorem ev_cbV {r : List V → Hp → VK → Prop} {ws : List V} (h : EvA S n k t σ G (IsVs ws)) (hr : RC S r ws G R) : Ev S n k (tCB r t) σ G R :=
  ev_cb h fun vs G' s e => by
    rw [show vs = ws from e]
    exact fun n G1 H1 a s' Q q => hr n G1 H1 (s.trans a) s' Q q
/-! fields -/
theorem ev_fld (st : Stab S) {K : PySem.W.Frag} {a C dx : Addr} {fs : List (Str × V)} {f : Str} (h : Ev S n k te σ G (IsV (.ref a))) (ho : G a = some (.ins C dx fs)) (hc : Cls K C) (hn : NoAttr K C f) (hl : fs.lookup f = some x) : Ev S n k (tFld K te f) σ G (IsV x) := fun G1 H1 s0 s Q q =>
  h G1 H1 s0 s _ fun v G2 H2 s2 e => ⟨a, C, dx, fs, x, e, st.sub s2.s _ _ (s2.g _ _ (s0 _ _ ho)), hc, hn, hl, q x G2 H2 s2 rfl⟩
/-! promises -/
/-- a def that changes nothing that stood: P arguments, what stands still, the result -/
def spP (P : List V → Hp → HR → Prop) : Sp := fun vs H Q _ => ∃ G R, Same G H ∧ P vs G R ∧ ∀ v G' H', Grow G H G' H' → R v G' → Q v H'
theorem ev_call (st : Stab S) {P : List V → Hp → HR → Prop} {dvs : List V} {E : XK} (h : EvA S n k t σ G RA) (hp : ∀ vs G', Same G G' → RA vs G' → P (vs ++ dvs) G' R) : Ev S n k (tCall (spP P) dvs E t) σ G R := fun G1 H1 s0 s Q q =>
  h G1 H1 s0 s _ fun vs G2 H2 s2 e => ⟨G2, R, st.sub s2.s, hp vs G2 (s0.trans s2.g) e, fun v G' H' g r => q v G' H' (s2.trans (st.gro s2.s g)) r⟩
theorem ev_callV (st : Stab S) {P : List V → Hp → HR → Prop} {dvs ws : List V} {E : XK} (h : EvA S n k t σ G (IsVs ws)) (hp : ∀ G', Same G G' → P (ws ++ dvs) G' R) : Ev S n k (tCall (spP P) dvs E t) σ G R :=
  ev_call st h fun vs G' s e => by
    rw [show vs = ws from e]
    exact hp G' s
theorem ev_meth (st : Stab S) {P : List V → Hp → HR → Prop} {dvs : List V} {E : XK} {C a dx : Addr} {m : Str} {fs : List (Str × V)} (ho : Ev S n ka te σ G (IsV (.ref a))) (hi : G a = some (.ins C dx fs)) (hl : fs.lookup m = none) (h : EvA S (n + ka) kb t σ G RA)
    (hp : ∀ vs G', Same G G' → RA vs G' → P (.ref a :: (vs ++ dvs)) G' R) : Ev S n (ka + kb) (tMeth C m (spP P) dvs E te t) σ G R := fun G1 H1 s0 s Q q =>
  ho G1 H1 s0 s _ fun v G2 H2 s2 e => ⟨a, dx, fs, e, st.sub s2.s _ _ (s2.g _ _ (s0 _ _ hi)), hl, h G2 H2 (s0.trans s2.g) s2.s _ fun vs G3 H3 s3 e' =>
    ⟨G3, R, st.sub s3.s, by rw [show v = .ref a from e]; exact hp vs G3 ((s0.trans s2.g).trans s3.g) e', fun v G' H' g r => q v G' H' ((s2.trans s3).trans (st.gro s3.s g)).up r⟩⟩
end
/-! ### operations -/
section
variable {K : PySem.W.Frag} {G : Hp} {R : HR} {x y : V} {r r' : R2} {i j : Int} {s z : Str}
theorem rv_val {v : V} (h : ∀ H, Same G H → ∀ Q : VK, Q v H → r x y H Q) (st : Stab S) : RV S r x y G (IsV v) := fun n G1 H1 s0 s Q q => h H1 (s0.trans (st.sub s)) Q (q v G1 H1 (Stp.refl s) rfl)
theorem rv_l (h : RV S r x y G R) : RV S (fun x y H Q => r x y H Q ∨ r' x y H Q) x y G R := fun n G1 H1 s0 s Q q => .inl (h n G1 H1 s0 s Q q)
theorem rv_r (h : RV S r' x y G R) : RV S (fun x y H Q => r x y H Q ∨ r' x y H Q) x y G R := fun n G1 H1 s0 s Q q => .inr (h n G1 H1 s0 s Q q)
theorem rv_I0 (st : Stab S) {g : Int → Int → V} : RV S (rI0 g) (.int i) (.int j) G (IsV (g i j)) := rv_val (fun H _ Q q => ⟨i, j, rfl, rfl, q⟩) st
theorem rv_I (st : Stab S) {C : Int → Int → Prop} {g : Int → Int → V} (hc : C i j) : RV S (rI C g) (.int i) (.int j) G (IsV (g i j)) := rv_val (fun H _ Q q => ⟨i, j, rfl, rfl, hc, q⟩) st
theorem rv_eq (st : Stab S) (h : scal x y = true) : RV S rEq x y G (IsV (.bl (decide (x = y)))) := rv_val (fun H _ Q q => ⟨h, q⟩) st
theorem rv_ne (st : Stab S) (h : scal x y = true) : RV S rNe x y G (IsV (.bl (!decide (x = y)))) := rv_val (fun H _ Q q => ⟨h, q⟩) st
theorem ru_I (st : Stab S) {g : Int → V} : RU S (rU g) (.int i) G (IsV (g i)) := fun n G1 H1 s0 s Q q => ⟨i, rfl, q _ G1 H1 (Stp.refl s) rfl⟩
theorem rv_ixL (st : Stab S) {p : Addr} {xs : List V} {v : V} (h : SqL K G p xs) (ha : atI xs i = some v) : RV S (rIxL K) (.ref p) (.int i) G (IsV v) := rv_val (fun H s Q q => ⟨p, xs, i, v, rfl, rfl, s.seq h, ha, q⟩) st
theorem rv_ixT (st : Stab S) {p : Addr} {xs : List V} {v : V} (h : SqT K G p xs) (ha : atI xs i = some v) : RV S (rIxT K) (.ref p) (.int i) G (IsV v) := rv_val (fun H s Q q => ⟨p, xs, i, v, rfl, rfl, same_t s h, ha, q⟩) st
end
/-! ### statements -/
section
variable {k n : Nat} {te : TE} {tt : TT} {ts t1 t2 u : TS} {σ : L2.St} {G H : Hp} {R : HR} {P : Bool → Prop} {x : V} {nx bk ct : L2.St → Hp → Prop} {rt : VK} {i : Nat}
theorem q_end (h : nx σ H) : tNext (Ends.mk nx rt bk ct) σ H := h
theorem q_ret (s : S n G H) (e : Ev S n k te σ G R) (h : ∀ v G' H', Stp S (n + k) G H G' H' → R v G' → rt v H') : tSeq (tRet te) u (Ends.mk nx rt bk ct) σ H := e G H (Same.refl _) s _ h
theorem q_retV (st : Stab S) (s : S n G H) (e : Ev S n k te σ G (IsV x)) (h : ∀ H', Kp S H H' → S (n + k) G H' → rt x H') : tSeq (tRet te) u (Ends.mk nx rt bk ct) σ H := q_ret s e fun v G' H' s1 e => by
  rw [show v = x from e]
  exact h H' s1.k (st.anti s s1.s s1.g)
theorem q_set (s : S n G H) (e : Ev S n k te σ G R) (h : ∀ v G' H', Stp S (n + k) G H G' H' → R v G' → u (Ends.mk nx rt bk ct) (σ.set i (some v)) H') : tSeq (tAsg te (gName i)) u (Ends.mk nx rt bk ct) σ H := e G H (Same.refl _) s _ h
theorem q_setV (st : Stab S) (s : S n G H) (e : Ev S n k te σ G (IsV x)) (h : ∀ H', Kp S H H' → S (n + k) G H' → u (Ends.mk nx rt bk ct) (σ.set i (some x)) H') : tSeq (tAsg te (gName i)) u (Ends.mk nx rt bk ct) σ H := q_set s e fun v G' H' s1 e => by
  rw [show v = x from e]
  exact h H' s1.k (st.anti s s1.s s1.g)
theorem q_setI (st : Stab S) (s : S n G H) {P : Int → Prop} (e : Ev S n k te σ G (IsI P)) (h : ∀ j H', P j → Kp S H H' → S (n + k) G H' → u (Ends.mk nx rt bk ct) (σ.set i (some (.int j))) H') : tSeq (tAsg te (gName i)) u (Ends.mk nx rt bk ct) σ H := q_set s e fun v G' H' s1 ⟨j, p, e⟩ => by
  rw [e]
  exact h j H' p s1.k (st.anti s s1.s s1.g)
theorem q_if (st : Stab S) (s : S n G H) (e : EvT S n k tt σ G P) (h1 : ∀ H', P true → Kp S H H' → S (n + k) G H' → t1 (Ends.mk (u (Ends.mk nx rt bk ct)) rt bk ct) σ H') (h2 : ∀ H', P false → Kp S H H' → S (n + k) G H' → t2 (Ends.mk (u (Ends.mk nx rt bk ct)) rt bk ct) σ H') :
    tSeq (tIfS tt t1 t2) u (Ends.mk nx rt bk ct) σ H := e G H (Same.refl _) s _ fun b G' H' s1 p => by
  cases b with
  | true => exact iteT (h1 H' p s1.k (st.anti s s1.s s1.g))
  | false => exact iteF (h2 H' p s1.k (st.anti s s1.s s1.g))
end
end L2.DS
/-! Callees by one fact each; operators of several kinds by one rule each. -/
namespace L2.DS
open PySem PySem.Spec PyProof.Rows
/-- a def of the top, by its name -/
def Callee (P : Program) (w : World) (K : PySem.W.Frag) (mg : Str → Option Value) (base : Heap) (x : Str) (CX : CXT) (k : Nat) (ps : List Str) (dvs : List V) (sp : Sp) : Prop :=
  ∃ (f : Addr) (fd : FuncData) (ds : List Value), mg x = some (.ref f) ∧ PySem.W.keepIn K (.ref f) = true ∧ FnOk P w K mg base CX k f fd ps sp ∧ Binds K fd ps ds ∧ Vals dvs ds
/-- a method m of the class at C -/
def Method (P : Program) (w : World) (K : PySem.W.Frag) (mg : Str → Option Value) (base : Heap) (C : Addr) (m : Str) (CX : CXT) (k : Nat) (ps : List Str) (dvs : List V) (sp : Sp) : Prop :=
  ∃ (f : Addr) (fd : FuncData) (ds : List Value), Cls K C ∧ Meth K C m f ∧ FnOk P w K mg base CX k f fd ps sp ∧ Binds K fd ps ds ∧ Vals dvs ds
/-- a class of the top with an own __init__, made by its name -/
def Maker (P : Program) (w : World) (K : PySem.W.Frag) (mg : Str → Option Value) (base : Heap) (x : Str) (C : Addr) (CX : CXT) (k : Nat) (ps : List Str) (dvs : List V) (sp : Sp) : Prop :=
  ∃ (f : Addr) (fd : FuncData) (ds : List Value), mg x = some (.ref C) ∧ Mk K C f ∧ FnOk P w K mg base CX k f fd ps sp ∧ Binds K fd ps ds ∧ Vals dvs ds
section
variable {X : Cx} {CX : CXT} {k : Nat} {ps : List Str} {dvs : List V} {sp : Sp} {E : XK} {x m : Str} {C : Addr} {e o : Expr} {es : List Expr} {t : TA} {ta : TE} {p pos apos : Pos}
theorem pe_callC (c : Callee X.prog X.w X.K X.mg X.base x CX k ps dvs sp) (hr : Room k X.A) (hx : Passes CX X E) (ha : PA X (e :: es) t) (hg : Gl X x := by rfl) (hdb : (x == ("__debug__" : Str)) = false := by decide)
    (he : starEach (e :: es) X.env = (false, eval e X.env) :: starEach es X.env := by rfl) (hpl : (backTo pos (starEach es X.env)).any (·.1) = false := by rfl) : PE X (.Call (.Name x p) (e :: es) [] pos) (tCall sp dvs E t) := by
  obtain ⟨f, fd, ds, h1, h2, h3, h4, h5⟩ := c
  exact pe_call h3 hr hg h1 h2 h4 h5 hx ha hdb he hpl
theorem pe_methC {pl : Sem Bool} (c : Method X.prog X.w X.K X.mg X.base C m CX k ps dvs sp) (hr : Room k X.A) (hx : Passes CX X E) (ho : PE X o ta) (ha : PA X (e :: es) t)
    (hst : starEach (e :: es) X.env = (false, eval e X.env) :: starEach es X.env := by rfl) (hpl : (backTo pos (starEach es X.env)).any (·.1) = false := by rfl)
    (ht : eval (.Call (.Attribute o m apos) (e :: es) [] pos) X.env = (do
      let ov ← eval o X.env
      standAt apos.atName
      let (f, first) ← holding [ov] (getMethod ov m pl)
      callWith pos f first (backTo pos (starEach (e :: es) X.env)) (backToKw pos (keywordEach [] X.env))) := by rfl) :
    PE X (.Call (.Attribute o m apos) (e :: es) [] pos) (tMeth C m sp dvs E ta t) := by
  obtain ⟨f, fd, ds, h1, h2, h3, h4, h5⟩ := c
  exact pe_meth ho h1 h2 h3 hr h4 h5 hx ha hst hpl ht
theorem pe_makeC (c : Maker X.prog X.w X.K X.mg X.base x C CX k ps dvs sp) (hr : Room (k + 1) X.A) (hx : Passes CX X E) (ha : PA X (e :: es) t) (hg : Gl X x := by rfl) (hdb : (x == ("__debug__" : Str)) = false := by decide)
    (he : starEach (e :: es) X.env = (false, eval e X.env) :: starEach es X.env := by rfl) (hpl : (backTo pos (starEach es X.env)).any (·.1) = false := by rfl) : PE X (.Call (.Name x p) (e :: es) [] pos) (tMake C sp dvs E t) := by
  obtain ⟨f, fd, ds, h1, h2, h3, h4, h5⟩ := c
  exact pe_make h2 h3 hr hg h1 h4 h5 hx ha hdb he hpl
end
/-! ### operators of several kinds -/
def rAddS : R2 := fun x y H Q => ∃ i j, x = .str i ∧ y = .str j ∧ i.length + j.length ≤ sizeLine ∧ Q (.str (i ++ j)) H
def rMul : R2 := fun x y H Q => rI CMul (fun i j => .int (i * j)) x y H Q ∨ rI CMulW (fun i j => .int (i * j)) x y H Q
def rDiv : R2 := fun x y H Q => rI CDiv (fun i j => .int (i / j)) x y H Q ∨ rI CDivW (fun i j => .int (i / j)) x y H Q
def rMod : R2 := rI (fun _ j => 0 < j) fun i j => .int (i % j)
def rAdd2 : R2 := fun x y H Q => rI0 (fun i j => .int (i + j)) x y H Q ∨ rAddS x y H Q
def rAddA : R2 := fun x y H Q => rAdd2 x y H Q ∨ rCat x y H Q
def rSubI : R2 := rI0 fun i j => .int (i - j)
def rLtI : R2 := rI0 fun i j => .bl (decide (i < j))
def rLeI : R2 := rI0 fun i j => .bl (decide (i ≤ j))
def rGtI : R2 := rI0 fun i j => .bl (decide (j < i))
def rGeI : R2 := rI0 fun i j => .bl (decide (j ≤ i))
def rEqA (K : PySem.W.Frag) : R2 := fun x y H Q => rEq x y H Q ∨ rEqD K x y H Q
def rNeA (K : PySem.W.Frag) : R2 := fun x y H Q => rNe x y H Q ∨ rNeD K x y H Q
def rDGet : R2 := fun x y H Q => ∃ a v, x = .ref a ∧ DGet H a y (some v) ∧ Q v H
def rDIn (neg : Bool) : R2 := fun y x H Q => ∃ a o, x = .ref a ∧ DGet H a y o ∧ Q (.bl (if neg then !o.isSome else o.isSome)) H
def rInA (K : PySem.W.Frag) (neg : Bool) : R2 := fun x y H Q => rIn K neg x y H Q ∨ rDIn neg x y H Q
def rIxA (K : PySem.W.Frag) : R2 := fun x y H Q => rIx K x y H Q ∨ rDGet x y H Q
def rSetD : TSet := fun o i v H Q => ∃ a H', o = .ref a ∧ DPut H a i v H' ∧ Q H'
def rSetA : TSet := fun o i v H Q => rSetL o i v H Q ∨ rSetD o i v H Q
section
variable {X : Cx}
theorem op_addA : OpR X (binaryOp .Add) rAddA := OpR.or (OpR.or op_add op_add_str) op_cat
theorem op_mulA : OpR X (binaryOp .Mult) rMul := OpR.or op_mul op_mulW
theorem op_divA : OpR X (binaryOp .FloorDiv) rDiv := OpR.or op_fdiv op_fdivW
theorem op_modA : OpR X (binaryOp .Mod) rMod := op_mod
theorem op_subA : OpR X (binaryOp .Sub) rSubI := op_sub
theorem op_ltA : OpR X (compareOp .Lt) rLtI := op_lt
theorem op_leA : OpR X (compareOp .LtE) rLeI := op_le
theorem op_gtA : OpR X (compareOp .Gt) rGtI := op_gt
theorem op_geA : OpR X (compareOp .GtE) rGeI := op_ge
theorem op_eqA (K : PySem.W.Frag) (hu : X.A.units + 64 < cLine) (hK : X.K = K := by rfl) : OpR X (compareOp .Eq) (rEqA K) := by
  subst hK
  exact OpR.or op_eq (op_eqD hu)
theorem op_neA (K : PySem.W.Frag) (hu : X.A.units + 64 < cLine) (hK : X.K = K := by rfl) : OpR X (compareOp .NotEq) (rNeA K) := by
  subst hK
  exact OpR.or op_ne (op_neD hu)
theorem op_inDict (hu : X.A.units + 1 < cLine) : OpR X (compareOp .In) (rDIn false) := fun pins s σ H x y v u Q I rx ry q => by
  obtain ⟨a, o, rfl, g, q⟩ := q
  obtain rfl : u = Value.ref a := ry
  exact d_in hu I g rx fun s3 I3 => ⟨.bl o.isSome, H, I3, rfl, q⟩
theorem op_ninDict (hu : X.A.units + 1 < cLine) : OpR X (compareOp .NotIn) (rDIn true) := fun pins s σ H x y v u Q I rx ry q => by
  obtain ⟨a, o, rfl, g, q⟩ := q
  obtain rfl : u = Value.ref a := ry
  exact d_notIn hu I g rx fun s3 I3 => ⟨.bl (!o.isSome), H, I3, rfl, q⟩
theorem op_inA (K : PySem.W.Frag) (hu : X.A.units + 1 < cLine) (hK : X.K = K := by rfl) : OpR X (compareOp .In) (rInA K false) := by
  subst hK
  exact OpR.or op_in_seq (op_inDict hu)
theorem op_ninA (K : PySem.W.Frag) (hu : X.A.units + 1 < cLine) (hK : X.K = K := by rfl) : OpR X (compareOp .NotIn) (rInA K true) := by
  subst hK
  exact OpR.or op_notIn_seq (op_ninDict hu)
theorem set_dict (hu : X.A.units + 1 < cLine) : PSet X rSetD := fun pins s σ H o i v ov iv u Q I ro ri rv q => by
  obtain ⟨a, H', rfl, g, q⟩ := q
  obtain rfl : ov = Value.ref a := ro
  exact d_setItem hu I g ri rv fun s4 I4 => ⟨H', I4, q⟩
theorem set_any (hu : X.A.units + 1 < cLine) : PSet X rSetA := fun pins s σ H o i v ov iv u Q I ro ri rv q => by
  rcases q with q | q
  · exact set_list pins s σ H o i v ov iv u Q I ro ri rv q
  · exact set_dict hu pins s σ H o i v ov iv u Q I ro ri rv q
theorem ix_dict (hu : X.A.units + 1 < cLine) : IxR X rDGet := fun value slice pins s σ H x y v u Q I rx ry h hs => by
  obtain ⟨a, z, rfl, g, q⟩ := h
  obtain rfl : v = Value.ref a := rx
  exact tail_any (dict_typeIs I g) PySem.F.slot_dict_getitem.lookup (d_getItem hu I g ry fun w' s3 I3 rw' => ⟨z, H, I3, rw', q⟩) hs
theorem ix_any (K : PySem.W.Frag) (hu : X.A.units + 1 < cLine) (hK : X.K = K := by rfl) : IxR X (rIxA K) := by
  subst hK
  exact IxR.or ix_seq (ix_dict hu)
end
/-! ### calls of built-ins of several kinds -/
section
variable {X : Cx}
theorem CallR.or {f : Value} {r r' : List V → Hp → VK → Prop} (h : CallR X f r) (h' : CallR X f r') : CallR X f (fun xs H Q => r xs H Q ∨ r' xs H Q) := fun pins s σ H xs us Q I rv q => by
  rcases q with q | q
  · exact h pins s σ H xs us Q I rv q
  · exact h' pins s σ H xs us Q I rv q
def rLenQ (K : PySem.W.Frag) : List V → Hp → VK → Prop := fun xs H Q => ∃ p ys, xs = [.ref p] ∧ (SqL K H p ys ∨ SqT K H p ys) ∧ Q (.int ys.length) H
def rLenS : List V → Hp → VK → Prop := fun xs H Q => ∃ z : Str, xs = [.str z] ∧ z.length ≤ sizeLine ∧ Q (.int z.length) H
def rLenD : List V → Hp → VK → Prop := fun xs H Q => ∃ a kvs, xs = [V.ref a] ∧ H a = some (.dK kvs) ∧ Q (.int kvs.length) H
def rLen2 : List V → Hp → VK → Prop := fun xs H Q => rLenS xs H Q ∨ rLenD xs H Q
def rLenA (K : PySem.W.Frag) : List V → Hp → VK → Prop := fun xs H Q => rLenQ K xs H Q ∨ rLen2 xs H Q
theorem call_lenA (K : PySem.W.Frag) (hK : X.K = K := by rfl) : CallR X (.builtin "len") (rLenA K) := by
  subst hK
  exact CallR.or call_len_seq (CallR.or call_len_str call_lenD)
def rAbs : List V → Hp → VK → Prop := fun xs H Q => ∃ i, xs = [.int i] ∧ Q (.int (if i < 0 then -i else i)) H
theorem call_absA : CallR X (.builtin "abs") rAbs := call_abs
def rInt1 : List V → Hp → VK → Prop := fun xs H Q => ∃ i, xs = [.int i] ∧ Q (.int i) H
def rInt2 : List V → Hp → VK → Prop := fun xs H Q => ∃ k, xs = [.bl k] ∧ Q (.int (if k then 1 else 0)) H
def rIntA : List V → Hp → VK → Prop := fun xs H Q => rInt1 xs H Q ∨ rInt2 xs H Q
theorem call_intA : CallR X (.type "int") rIntA := call_int1
def rStrI : List V → Hp → VK → Prop := fun xs H Q => ∃ i : Int, xs = [.int i] ∧ i.natAbs.log2 < 1920 ∧ Q (.str (toString i)) H
theorem call_strA : CallR X (.type "str") rStrI := call_str_int
def rListQ (K : PySem.W.Frag) : List V → Hp → VK → Prop := fun xs H Q => ∃ p ys, xs = [.ref p] ∧ (SqL K H p ys ∨ SqT K H p ys) ∧ ∀ l, H l = none → Q (.ref l) (upd H l (.lst ys))
theorem call_listA (K : PySem.W.Frag) (hK : X.K = K := by rfl) : CallR X (.type "list") (rListQ K) := by
  subst hK
  exact call_list_of
def rTupQ (K : PySem.W.Frag) : List V → Hp → VK → Prop := fun xs H Q => ∃ p ys, xs = [.ref p] ∧ ((SqL K H p ys ∧ ∀ l, H l = none → Q (.ref l) (upd H l (.tup ys))) ∨ (SqT K H p ys ∧ Q (.ref p) H))
theorem call_tupleA (K : PySem.W.Frag) (hK : X.K = K := by rfl) : CallR X (.type "tuple") (rTupQ K) := by
  subst hK
  exact call_tuple_of
theorem call_isiA (K : PySem.W.Frag) (hK : X.K = K := by rfl) : CallR X (.builtin "isinstance") (rIsi K) := by
  subst hK
  exact call_isi
theorem call_anyA (K : PySem.W.Frag) (hc : X.calm = true := by rfl) (hK : X.K = K := by rfl) : CallR X (.builtin "any") (rAny K) := by
  subst hK
  exact cr_any hc
theorem call_allA (K : PySem.W.Frag) (hc : X.calm = true := by rfl) (hK : X.K = K := by rfl) : CallR X (.builtin "all") (rAll K) := by
  subst hK
  exact cr_all hc
end
/-! ### the written part told by its name -/
section
variable {X : Cx} {tg e o : Expr} {te ta : TE} {f : Str} {pos : Pos}
theorem pe_fldK (K : PySem.W.Frag) (he : PE X e te) (hb : attributeBase e f X.env (eval e X.env) = eval e X.env := by rfl) (hK : X.K = K := by rfl) : PE X (.Attribute e f pos) (tFld K te f) := by
  subst hK
  exact pe_fld he hb
theorem pi_listK (K : PySem.W.Frag) (hl : PE X e te) (hK : X.K = K := by rfl) : PI X tg e (iList K te) := by
  subst hK
  exact pi_list hl
theorem pi_tupK (K : PySem.W.Frag) (hl : PE X e te) (hK : X.K = K := by rfl) : PI X tg e (iTup K te) := by
  subst hK
  exact pi_tup hl
theorem sl_listK (K : PySem.W.Frag) (hK : X.K = K := by rfl) : SlR X (rSlL K) := by
  subst hK
  exact sl_list
end
end L2.DS
/-! What the operators of several kinds give. -/
namespace L2.DS
open PySem PySem.Spec PyProof.Rows
section
variable {S : SR} {n k ka kb kc : Nat} {te ta tb : TE} {tt : TT} {t : TA} {σ : L2.St} {K : PySem.W.Frag} {G : Hp} {R : HR} {x y z : V} {i j : Int} {s u : Str} {b c : Bool} {p : Addr} {xs ys : List V}
theorem ev_ifV (st : Stab S) (h : EvT S n kc tt σ G (fun b => b = c)) (h1 : c = true → Ev S (n + kc) ka ta σ G (IsV x)) (h2 : c = false → Ev S (n + kc) kb tb σ G (IsV y)) : Ev S n (kc + (ka + kb)) (tIf tt ta tb) σ G (IsV (if c then x else y)) :=
  ev_if st h (fun e => by rw [e]; exact h1 e) (fun e => by rw [e]; exact h2 e)
theorem v_add (st : Stab S) : RV S rAddA (.int i) (.int j) G (IsV (.int (i + j))) := rv_l (rv_l (rv_I0 st))
theorem v_adds (st : Stab S) (h : s.length + u.length ≤ sizeLine) : RV S rAddA (.str s) (.str u) G (IsV (.str (s ++ u))) := rv_l (rv_r (rv_val (fun H _ Q q => ⟨s, u, rfl, rfl, h, q⟩) st))
theorem v_sub (st : Stab S) : RV S rSubI (.int i) (.int j) G (IsV (.int (i - j))) := rv_I0 st
theorem v_mul (st : Stab S) (h : CMul i j) : RV S rMul (.int i) (.int j) G (IsV (.int (i * j))) := rv_l (rv_I st h)
theorem v_div (st : Stab S) (h : CDiv i j) : RV S rDiv (.int i) (.int j) G (IsV (.int (i / j))) := rv_l (rv_I st h)
theorem v_divW (st : Stab S) (h : CDivW i j) : RV S rDiv (.int i) (.int j) G (IsV (.int (i / j))) := rv_r (rv_I st h)
theorem v_mod (st : Stab S) (h : 0 < j) : RV S rMod (.int i) (.int j) G (IsV (.int (i % j))) := rv_I st h
theorem v_pow (st : Stab S) (h : CPow i j) : RV S (rI CPow fun i j => .int (i ^ j.toNat)) (.int i) (.int j) G (IsV (.int (i ^ j.toNat))) := rv_I st h
theorem v_lt (st : Stab S) : RV S rLtI (.int i) (.int j) G (IsV (.bl (decide (i < j)))) := rv_I0 st
theorem v_le (st : Stab S) : RV S rLeI (.int i) (.int j) G (IsV (.bl (decide (i ≤ j)))) := rv_I0 st
theorem v_gt (st : Stab S) : RV S rGtI (.int i) (.int j) G (IsV (.bl (decide (j < i)))) := rv_I0 st
theorem v_ge (st : Stab S) : RV S rGeI (.int i) (.int j) G (IsV (.bl (decide (j ≤ i)))) := rv_I0 st
theorem v_eq (st : Stab S) (h : scal x y = true) : RV S (rEqA K) x y G (IsV (.bl (decide (x = y)))) := rv_l (rv_eq st h)
theorem v_ne (st : Stab S) (h : scal x y = true) : RV S (rNeA K) x y G (IsV (.bl (!decide (x = y)))) := rv_l (rv_ne st h)
theorem v_eqI (st : Stab S) : RV S (rEqA K) (.int i) (.int j) G (IsV (.bl (decide (i = j)))) := by
  have e : decide (V.int i = V.int j) = decide (i = j) := by simp
  rw [← e]
  exact v_eq st rfl
theorem v_neI (st : Stab S) : RV S (rNeA K) (.int i) (.int j) G (IsV (.bl (!decide (i = j)))) := by
  have e : decide (V.int i = V.int j) = decide (i = j) := by simp
  rw [← e]
  exact v_ne st rfl
theorem v_eqB (st : Stab S) : RV S (rEqA K) (.bl b) (.bl c) G (IsV (.bl (decide (b = c)))) := by
  have e : decide (V.bl b = V.bl c) = decide (b = c) := by simp
  rw [← e]
  exact v_eq st rfl
theorem v_eqS (st : Stab S) : RV S (rEqA K) (.str s) (.str u) G (IsV (.bl (decide (s = u)))) := by
  have e : decide (V.str s = V.str u) = decide (s = u) := by simp
  rw [← e]
  exact v_eq st rfl
theorem v_neS (st : Stab S) : RV S (rNeA K) (.str s) (.str u) G (IsV (.bl (!decide (s = u)))) := by
  have e : decide (V.str s = V.str u) = decide (s = u) := by simp
  rw [← e]
  exact v_ne st rfl
theorem v_isN (st : Stab S) : RV S (fun x y H Q => y = .non ∧ Q (.bl (decide (x = .non))) H) x .non G (IsV (.bl (decide (x = .non)))) := rv_val (fun H _ Q q => ⟨rfl, q⟩) st
theorem v_notN (st : Stab S) : RV S (fun x y H Q => y = .non ∧ Q (.bl (!decide (x = .non))) H) x .non G (IsV (.bl (!decide (x = .non)))) := rv_val (fun H _ Q q => ⟨rfl, q⟩) st
theorem v_ixL (st : Stab S) (h : SqL K G p xs) (ha : atI xs i = some x) : RV S (rIxA K) (.ref p) (.int i) G (IsV x) := rv_l (rv_l (rv_ixL st h ha))
theorem v_ixT (st : Stab S) (h : SqT K G p xs) (ha : atI xs i = some x) : RV S (rIxA K) (.ref p) (.int i) G (IsV x) := rv_l (rv_r (rv_l (rv_ixT st h ha)))
theorem v_inL (st : Stab S) {neg : Bool} (h : SqL K G p xs) (hx : flatV x = true) (ha : xs.all flatV = true) : RV S (rInA K neg) x (.ref p) G (IsV (.bl (if neg then !inV x xs else inV x xs))) := rv_l (rv_val (fun H s Q q => ⟨p, xs, rfl, .inl (s.seq h), hx, ha, q⟩) st)
theorem u_neg (st : Stab S) : RU S (rU fun i => .int (-i)) (.int i) G (IsV (.int (-i))) := ru_I st
theorem rc_val {r : List V → Hp → VK → Prop} {vs : List V} (h : ∀ H, Same G H → ∀ Q : VK, Q x H → r vs H Q) (st : Stab S) : RC S r vs G (IsV x) := fun n G1 H1 s0 s Q q => h H1 (s0.trans (st.sub s)) Q (q x G1 H1 (Stp.refl s) rfl)
theorem c_lenL (st : Stab S) (h : SqL K G p xs) : RC S (rLenA K) [.ref p] G (IsV (.int xs.length)) := rc_val (fun H s Q q => .inl ⟨p, xs, rfl, .inl (s.seq h), q⟩) st
theorem c_lenT (st : Stab S) (h : SqT K G p xs) : RC S (rLenA K) [.ref p] G (IsV (.int xs.length)) := rc_val (fun H s Q q => .inl ⟨p, xs, rfl, .inr (same_t s h), q⟩) st
theorem c_lenS (st : Stab S) (h : s.length ≤ sizeLine) : RC S (rLenA K) [.str s] G (IsV (.int s.length)) := rc_val (fun H _ Q q => .inr (.inl ⟨s, rfl, h, q⟩)) st
theorem c_abs (st : Stab S) : RC S rAbs [.int i] G (IsV (.int (if i < 0 then -i else i))) := rc_val (fun H _ Q q => ⟨i, rfl, q⟩) st
theorem c_int (st : Stab S) : RC S rIntA [.int i] G (IsV (.int i)) := rc_val (fun H _ Q q => .inl ⟨i, rfl, q⟩) st
theorem c_intB (st : Stab S) : RC S rIntA [.bl b] G (IsV (.int (if b then 1 else 0))) := rc_val (fun H _ Q q => .inr ⟨b, rfl, q⟩) st
theorem c_str (st : Stab S) (h : i.natAbs.log2 < 1920) : RC S rStrI [.int i] G (IsV (.str (toString i))) := rc_val (fun H _ Q q => ⟨i, rfl, h, q⟩) st
end
end L2.DS
/-! Loops and comprehensions. -/
namespace L2.DS
open PySem PySem.Spec PyProof.Rows
/-- a list of m things, the i-th as R i tells -/
def IsLR (K : PySem.W.Frag) (m : Nat) (R : Nat → HR) : HR := fun v G => ∃ p ys, v = .ref p ∧ SqL K G p ys ∧ ys.length = m ∧ ∀ i y, ys[i]? = some y → R i y G
instance (K m) (R : Nat → HR) [∀ i, Mon (R i)] : Mon (IsLR K m R) := ⟨fun s ⟨p, ys, e, h, l, r⟩ => ⟨p, ys, e, s.seq h, l, fun i y z => Mon.mon s (r i y z)⟩⟩
/-- .. newly made: it stood not in F -/
def IsLN (F : Hp) (m : Nat) (R : Nat → HR) : HR := fun v G => ∃ p ys, v = .ref p ∧ F p = none ∧ G p = some (.lst ys) ∧ ys.length = m ∧ ∀ i y, ys[i]? = some y → R i y G
instance (F m) (R : Nat → HR) [∀ i, Mon (R i)] : Mon (IsLN F m R) := ⟨fun s ⟨p, ys, e, f, h, l, r⟩ => ⟨p, ys, e, f, s _ _ h, l, fun i y z => Mon.mon s (r i y z)⟩⟩
theorem IsLN.lr {F : Hp} {K : PySem.W.Frag} {m : Nat} {R : Nat → HR} {v : V} {G : Hp} (h : IsLN F m R v G) : IsLR K m R v G := by
  obtain ⟨p, ys, e, _, h, l, r⟩ := h
  exact ⟨p, ys, e, SqL.of h, l, r⟩
theorem IsLN.wk {F F' : Hp} {m : Nat} {R : Nat → HR} {v : V} {G : Hp} (h : IsLN F m R v G) (s : Same F' F) : IsLN F' m R v G := by
  obtain ⟨p, ys, e, f, r⟩ := h
  exact ⟨p, ys, e, s.free f, r⟩
theorem isLR_V {K : PySem.W.Frag} {m : Nat} {f : Nat → V} {v : V} {G : Hp} (h : IsLR K m (fun i => IsV (f i)) v G) : IsL K ((List.range m).map f) v G := by
  obtain ⟨p, ys, e, h, l, r⟩ := h
  refine ⟨p, e, ?_⟩
  have z : ys = (List.range m).map f := by
    refine List.ext_getElem? fun i => ?_
    rw [List.getElem?_map]
    by_cases hi : i < m
    · rw [List.getElem?_range hi]
      have q : ys[i]? = some ys[i] := List.getElem?_eq_getElem (by omega)
      rw [q, show ys[i] = f i from r i _ q]
      rfl
    · rw [List.getElem?_eq_none (by omega), List.getElem?_eq_none (by rw [List.length_range]; omega)]
      rfl
  rw [← z]
  exact h
section
variable {S : SR} {n k c1 : Nat} {te el : TE} {tb u : TS} {σ : L2.St} {G H : Hp} {nx bk ct : L2.St → Hp → Prop} {rt : VK} {i : Nat} {K : PySem.W.Frag} {p : Addr} {xs : List V} {vs : List Nat}
/-- for x in xs -/
theorem q_forL (st : Stab S) (s : S n G H) (e : Ev S n k te σ G (IsV (.ref p))) (hq : SqL K G p xs) (c : Nat → Nat) (P : Nat → L2.St → Hp → Hp → Prop) (hc : c 0 = 0) (h0 : ∀ H', Kp S H H' → S (n + k) G H' → P 0 σ G H')
    (hs : ∀ j x σ' G' H', xs[j]? = some x → Same G G' → S (n + k + c j) G' H' → P j σ' G' H' →
      tb (Ends.mk (fun τ J => ∃ G2, Same G G2 ∧ S (n + k + c (j + 1)) G2 J ∧ P (j + 1) τ G2 J) rt (u (Ends.mk nx rt bk ct)) (fun τ J => ∃ G2, Same G G2 ∧ S (n + k + c (j + 1)) G2 J ∧ P (j + 1) τ G2 J)) (σ'.set i (some x)) H')
    (hd : ∀ σ' G' H', Same G G' → S (n + k + c xs.length) G' H' → P xs.length σ' G' H' → u (Ends.mk nx rt bk ct) σ' H') : tSeq (tFor (iList K te) (gName i) tb) u (Ends.mk nx rt bk ct) σ H := by
  refine e G H (Same.refl _) s _ fun v G1 H1 s1 ev => ?_
  have hs2 := st.anti s s1.s s1.g
  refine ⟨p, ev, ⟨xs, Same.seq (st.sub hs2) hq⟩, for_list (K := K) (a := p) (xs := xs) (fun j τ J => ∃ G2, Same G G2 ∧ S (n + k + c j) G2 J ∧ P j τ G2 J) ⟨G, Same.refl _, by rw [hc]; exact hs2, h0 H1 s1.k hs2⟩ (fun j τ J _ ⟨G2, a, b, _⟩ => (a.trans (st.sub b)).seq hq) (fun j x τ J hx ⟨G2, a, b, d⟩ => ?_) fun τ J ⟨G2, a, b, d⟩ => hd τ G2 J a b d⟩
  exact hs j x τ G2 J hx a b d
/-- for x in range(m) -/
theorem q_forR {m : Int} {ta : TA} (st : Stab S) (s : S n G H) (e : EvA S n k ta σ G (IsVs [.int m])) (c : Nat → Nat) (P : Nat → L2.St → Hp → Hp → Prop) (hc : c 0 = 0) (h1 : -(2 ^ 62) ≤ m) (h2 : m < 2 ^ 62) (h0 : ∀ H', Kp S H H' → S (n + k) G H' → P 0 σ G H')
    (hs : ∀ (j : Nat) σ' G' H', (j : Int) < m → Same G G' → S (n + k + c j) G' H' → P j σ' G' H' →
      tb (Ends.mk (fun τ J => ∃ G2, Same G G2 ∧ S (n + k + c (j + 1)) G2 J ∧ P (j + 1) τ G2 J) rt (u (Ends.mk nx rt bk ct)) (fun τ J => ∃ G2, Same G G2 ∧ S (n + k + c (j + 1)) G2 J ∧ P (j + 1) τ G2 J)) (σ'.set i (some (.int j))) H')
    (hd : ∀ σ' G' H', Same G G' → S (n + k + c m.toNat) G' H' → P m.toNat σ' G' H' → u (Ends.mk nx rt bk ct) σ' H') : tSeq (tFor (iRng1 ta) (gName i) tb) u (Ends.mk nx rt bk ct) σ H := by
  refine e G H (Same.refl _) s _ fun v G1 H1 s1 ev => ?_
  have hs2 := st.anti s s1.s s1.g
  refine ⟨m, ev, h1, h2, for_range (lo := 0) (n := m.toNat) (fun j τ J => ∃ G2, Same G G2 ∧ S (n + k + c j) G2 J ∧ P j τ G2 J) ⟨G, Same.refl _, by rw [hc]; exact hs2, h0 H1 s1.k hs2⟩ (fun j τ J hx ⟨G2, a, b, d⟩ => ?_) fun τ J ⟨G2, a, b, d⟩ => hd τ G2 J a b d⟩
  show tb _ (τ.set i (some (.int (0 + j)))) J
  rw [Int.zero_add]
  exact hs j τ G2 J (by omega) a b d
/-! ### comprehensions -/
/-- what holds while the list at D grows -/
def LcP (S : SR) (G2 H2 : Hp) (n c1 : Nat) (R : Nat → HR) (D : Addr) (j : Nat) (J : Hp) : Prop := ∃ G3 acc, Stp S (n + c1 * j) G2 H2 G3 J ∧ G3 D = none ∧ J D = some (.lst acc) ∧ acc.length = j ∧ ∀ j y, acc[j]? = some y → R j y G3
theorem lc_start (st : Stab S) {R : Nat → HR} {G2 H2 : Hp} {D : Addr} (a : S n G2 H2) (hD : H2 D = none) : LcP S G2 H2 n c1 R D 0 (upd H2 D (.lst [])) := by
  have gD : G2 D = none := (st.sub a).free hD
  have s1 : Same H2 (upd H2 D (.lst [])) := fun b o e => by
    rw [upd_ne (ne_of_none e hD)]
    exact e
  exact ⟨G2, [], ⟨Same.refl _, Kp.of s1, st.chg a hD a gD, fun _ _ h => .inl h⟩, gD, upd_same, rfl, fun j y z => by simp at z⟩
theorem lc_end (st : Stab S) {R : Nat → HR} [∀ i, Mon (R i)] {G1 H1 G2 H2 H : Hp} {D : Addr} {m : Nat} {Q : VK} (a : Stp S n G1 H1 G2 H2) (hD : H2 D = none) (h : LcP S G2 H2 n c1 R D m H)
    (q : ∀ v G' H', Stp S (n + c1 * m) G1 H1 G' H' → IsLN G1 m R v G' → Q v H') : Q (.ref D) H := by
  obtain ⟨G3, acc, s3, c, d, l, r⟩ := h
  have t := a.trans s3
  have g4 : Same G3 (upd G3 D (.lst acc)) := fun y o z => by
    rw [upd_ne (ne_of_none z c)]
    exact z
  refine q (.ref D) _ H ⟨t.g.trans g4, t.k, st.pub a.s hD s3.s c d, fun b o e => ?_⟩ ⟨D, acc, rfl, t.g.free c, upd_same, l, fun j y z => Mon.mon g4 (r j y z)⟩
  by_cases hb : b = D
  · rw [hb]
    exact .inr (a.k.v D hD)
  · rw [upd_ne hb] at e
    exact t.n b o e
theorem lc_turn (st : Stab S) {R : Nat → HR} [∀ i, Mon (R i)] {G2 H2 J : Hp} {D : Addr} {j : Nat} {el : TE} {τ : L2.St} {Nx : Hp → Prop} (a : S n G2 H2) (hD : H2 D = none) (h : LcP S G2 H2 n c1 R D j J) (hj : j < 100000)
    (hs : ∀ G', Same G2 G' → Ev S (n + c1 * j) c1 el τ G' (R j)) (hN : ∀ J', LcP S G2 H2 n c1 R D (j + 1) J' → Nx J') :
    tYes τ J fun b H3 => if b = true then el τ H3 fun y H4 => ∃ acc, H4 D = some (.lst acc) ∧ acc.length < sizeLine ∧ Nx (upd H4 D (.lst (acc ++ [y]))) else Nx H3 := by
  obtain ⟨G3, acc, s3, c, d, l, r⟩ := h
  show if true = true then el τ J (fun y H4 => ∃ acc, H4 D = some (.lst acc) ∧ acc.length < sizeLine ∧ Nx (upd H4 D (.lst (acc ++ [y])))) else Nx J
  rw [if_pos rfl]
  refine hs G3 s3.g G3 J (Same.refl _) s3.s _ fun y G4 J4 s4 ry => ?_
  have d4 : J4 D = some (.lst acc) := s4.k.k D _ (st.fre a hD) d
  have c4 : G4 D = none := by
    cases e : G4 D with
    | none => rfl
    | some o =>
      rcases s4.n D o e with q | q
      · rw [c] at q
        cases q
      · rw [d] at q
        cases q
  have t := s3.trans s4
  refine ⟨acc, d4, Nat.lt_of_lt_of_le (show acc.length < 100000 by omega) (by decide), hN _ ⟨G4, acc ++ [y], ⟨t.g, ⟨fun b o hm e => ?_, fun b e => ?_⟩, ?_, t.n⟩, c4, upd_same, by rw [List.length_append, l]; rfl, fun i z hz => ?_⟩⟩
  · rw [upd_ne (ne_of_none e hD)]
    exact t.k.k b o hm e
  · by_cases hb : b = D
    · rw [hb]
      exact hD
    · rw [upd_ne hb] at e
      exact t.k.v b e
  · have z := st.chg (o := .lst (acc ++ [y])) a hD t.s c4
    rw [Nat.mul_succ, ← Nat.add_assoc]
    exact z
  · by_cases hi : i < acc.length
    · rw [List.getElem?_append_left hi] at hz
      exact Mon.mon s4.g (r i z hz)
    · rw [List.getElem?_append_right (by omega)] at hz
      by_cases h0 : i - acc.length = 0
      · rw [h0] at hz
        have e : y = z := Option.some.inj hz
        rw [← e, show i = j by omega]
        exact ry
      · rw [List.getElem?_eq_none (by show 1 ≤ i - acc.length; omega)] at hz
        cases hz
/-- [el for x in xs] -/
theorem ev_lcL (st : Stab S) (R : Nat → HR) [∀ i, Mon (R i)] (e : Ev S n k te σ G (IsV (.ref p))) (hq : SqL K G p xs) (hl : xs.length ≤ 100000)
    (hs : ∀ j x G', xs[j]? = some x → Same G G' → Ev S (n + k + c1 * j) c1 el ((wipe σ vs).set i (some x)) G' (R j)) (hw : ∀ x : V, wipe ((wipe σ vs).set i (some x)) vs = wipe σ vs) :
    Ev S n (k + c1 * xs.length) (tLc (iList K te) (gName i) tYes el vs) σ G (IsLN G xs.length R) := fun G1 H1 s0 s Q q =>
  e G1 H1 s0 s _ fun v G2 H2 s2 ev => ⟨p, ev, ⟨xs, Same.seq (s0.trans (s2.g.trans (st.sub s2.s))) hq⟩, fun D hD =>
    lc_list (K := K) (a := p) (xs := xs) (LcP S G2 H2 (n + k) c1 R D) (lc_start st s2.s hD) (fun j J _ ⟨G3, acc, a, _⟩ => ((s0.trans s2.g).trans (a.g.trans (st.sub a.s))).seq hq)
      (fun j x J hx h => ⟨hw x, lc_turn st s2.s hD h (by have := (List.getElem?_eq_some_iff.mp hx).1; omega) (fun G' g => hs j x G' hx ((s0.trans s2.g).trans g)) fun _ h => h⟩)
      fun J h => lc_end st s2 hD h fun v G' H' a b => q v G' H' (by rw [← Nat.add_assoc]; exact a) (b.wk s0)⟩
/-- [el for x in range(m)] -/
theorem ev_lcR {m : Int} {ta : TA} (st : Stab S) (R : Nat → HR) [∀ i, Mon (R i)] (e : EvA S n k ta σ G (IsVs [.int m])) (h1 : -(2 ^ 62) ≤ m) (hl : m ≤ 100000)
    (hs : ∀ (j : Nat) G', (j : Int) < m → Same G G' → Ev S (n + k + c1 * j) c1 el ((wipe σ vs).set i (some (.int j))) G' (R j)) (hw : ∀ x : V, wipe ((wipe σ vs).set i (some x)) vs = wipe σ vs) :
    Ev S n (k + c1 * m.toNat) (tLc (iRng1 ta) (gName i) tYes el vs) σ G (IsLN G m.toNat R) := fun G1 H1 s0 s Q q =>
  e G1 H1 s0 s _ fun v G2 H2 s2 ev => ⟨m, ev, h1, by omega, fun D hD =>
    lc_range (lo := 0) (n := m.toNat) (LcP S G2 H2 (n + k) c1 R D) (lc_start st s2.s hD)
      (fun j J hx h => by
        show wipe ((wipe σ vs).set i (some (.int (0 + j)))) vs = _ ∧ tYes ((wipe σ vs).set i (some (.int (0 + j)))) J _
        rw [Int.zero_add]
        exact ⟨hw _, lc_turn st s2.s hD h (by omega) (fun G' g => hs j G' (by omega) ((s0.trans s2.g).trans g)) fun _ h => h⟩)
      fun J h => lc_end st s2 hD h fun v G' H' a b => q v G' H' (by rw [← Nat.add_assoc]; exact a) (b.wk s0)⟩
end
end L2.DS
/-! The script's source: a dict with its list of cells; what a pick leaves. -/
namespace L2.DS
open PySem PySem.Spec PyProof.Rows
theorem tC_run {x : V} {σ : L2.St} {H : Hp} {Q : VK} (h : Q x H) : tC x σ H Q := h
theorem tVar_run {i : Nat} {x : V} {σ : L2.St} {H : Hp} {Q : VK} (e : σ[i]? = some (some x)) (h : Q x H) : tVar i σ H Q := ⟨x, e, h⟩
def srcK (cl : Addr) (l m t : Int) : List (Key × V) := [(.inr ("cells" : Str), .ref cl), (.inr ("left" : Str), .int l), (.inr ("mixed" : Str), .int m), (.inr ("turn" : Str), .int t)]
def srcD (cl : Addr) (l m t : Int) : HO := .dK (srcK cl l m t)
theorem ne_lc : ¬ (Sum.inr ("cells" : Str) : Key) = .inr ("left" : Str) := by decide +kernel
theorem ne_mc : ¬ (Sum.inr ("cells" : Str) : Key) = .inr ("mixed" : Str) := by decide +kernel
theorem ne_tc : ¬ (Sum.inr ("cells" : Str) : Key) = .inr ("turn" : Str) := by decide +kernel
theorem ne_ml : ¬ (Sum.inr ("left" : Str) : Key) = .inr ("mixed" : Str) := by decide +kernel
theorem ne_tl : ¬ (Sum.inr ("left" : Str) : Key) = .inr ("turn" : Str) := by decide +kernel
theorem ne_tm : ¬ (Sum.inr ("mixed" : Str) : Key) = .inr ("turn" : Str) := by decide +kernel
theorem src_c {cl : Addr} {l m t : Int} : valV (srcK cl l m t) (.inr ("cells" : Str)) = some (.ref cl) := valV_pos rfl
theorem src_l {cl : Addr} {l m t : Int} : valV (srcK cl l m t) (.inr ("left" : Str)) = some (.int l) := (valV_neg ne_lc).trans (valV_pos rfl)
theorem src_m {cl : Addr} {l m t : Int} : valV (srcK cl l m t) (.inr ("mixed" : Str)) = some (.int m) := (valV_neg ne_mc).trans ((valV_neg ne_ml).trans (valV_pos rfl))
theorem src_t {cl : Addr} {l m t : Int} : valV (srcK cl l m t) (.inr ("turn" : Str)) = some (.int t) := (valV_neg ne_tc).trans ((valV_neg ne_tl).trans ((valV_neg ne_tm).trans (valV_pos rfl)))
theorem put_l {cl : Addr} {l m t l' : Int} : putK (srcK cl l m t) (.inr ("left" : Str)) (.int l') = srcK cl l' m t := by
  unfold putK
  rw [if_pos (by rw [valV_any, src_l]; rfl)]
  unfold srcK
  simp only [List.map_cons, List.map_nil, if_neg ne_lc, if_neg (fun z => ne_ml (Eq.symm z)), if_neg (fun z => ne_tl (Eq.symm z)), if_true]
theorem put_t {cl : Addr} {l m t t' : Int} : putK (srcK cl l m t) (.inr ("turn" : Str)) (.int t') = srcK cl l m t' := by
  unfold putK
  rw [if_pos (by rw [valV_any, src_t]; rfl)]
  unfold srcK
  simp only [List.map_cons, List.map_nil, if_neg ne_tc, if_neg ne_tl, if_neg ne_tm, if_true]
theorem src_len {cl : Addr} {l m t : Int} : (srcK cl l m t).length < sizeLine := by rw [sizeLine_eq]; show 4 < _; decide
/-- the source stands in the heap, n picks behind it -/
def SrcAt (st cl : Addr) (n : Nat) (H : Hp) : Prop := ∃ (cs : List Int) (l m t : Int), H st = some (srcD cl l m t) ∧ H cl = some (.lst (cs.map V.int)) ∧ (∀ c ∈ cs, 0 ≤ c) ∧ 0 ≤ l ∧ 0 ≤ m ∧ m < 2147483629 ∧ 0 ≤ t ∧ t ≤ n
theorem SrcAt.same {st cl : Addr} {n m : Nat} {H H' : Hp} (h : SrcAt st cl n H) (s : Same H H') (hn : n ≤ m) : SrcAt st cl m H' := by
  obtain ⟨cs, l, x, t, a, b, c, d, e, f, g, i⟩ := h
  exact ⟨cs, l, x, t, s _ _ a, s _ _ b, c, d, e, f, g, by omega⟩
/-- what stands is G; the source may change -/
def Src (st cl : Addr) : SR := ⟨fun n G H => Same G H ∧ G st = none ∧ G cl = none ∧ SrcAt st cl n H, fun a => a = st ∨ a = cl⟩
theorem SrcAt.ne {st cl : Addr} {n : Nat} {H : Hp} {D : Addr} (h : SrcAt st cl n H) (d : H D = none) : st ≠ D ∧ cl ≠ D := by
  obtain ⟨cs, l, x, t, a, b, _⟩ := h
  exact ⟨ne_of_none a d, ne_of_none b d⟩
theorem none_upd {G : Hp} {a D : Addr} {o : HO} (h : G a = none) (n : a ≠ D) : upd G D o a = none := by rw [upd_ne n]; exact h
theorem srcAt_upd {st cl : Addr} {n : Nat} {H : Hp} {D : Addr} {o : HO} (h : SrcAt st cl n H) (n1 : st ≠ D) (n2 : cl ≠ D) : SrcAt st cl n (upd H D o) := by
  obtain ⟨cs, l, x, t, a, b, r⟩ := h
  exact ⟨cs, l, x, t, by rw [upd_ne n1]; exact a, by rw [upd_ne n2]; exact b, r⟩
theorem grow_none {G H G' H' : Hp} {a : Addr} (g : Grow G H G' H') (h : G a = none) {o : HO} (e : H a = some o) : G' a = none := by
  cases q : G' a with
  | none => rfl
  | some u =>
    rcases g.n a u q with z | z
    · rw [h] at z
      cases z
    · rw [e] at z
      cases z
theorem stabS (st cl : Addr) : Stab (Src st cl) where
  sub := fun h => h.1
  wk := fun h hn => ⟨h.1, h.2.1, h.2.2.1, h.2.2.2.same (Same.refl _) hn⟩
  grow := fun {n G H G' H'} h g => by
    obtain ⟨h1, h2, h3, h4⟩ := h
    obtain ⟨cs, l, x, t, a, b, r⟩ := id h4
    exact ⟨g.s, grow_none g h2 a, grow_none g h3 b, h4.same g.h (Nat.le_refl _)⟩
  anti := fun h h' s => ⟨s.trans h'.1, h.2.1, h.2.2.1, h'.2.2.2⟩
  chg := fun {n m G H G' H' D o} h d h' g => by
    obtain ⟨n1, n2⟩ := h.2.2.2.ne d
    exact ⟨fun b u e => by rw [upd_ne (ne_of_none e g)]; exact h'.1 b u e, h'.2.1, h'.2.2.1, srcAt_upd h'.2.2.2 n1 n2⟩
  pub := fun {n m G H G' H' D o} h d h' g e => by
    obtain ⟨n1, n2⟩ := h.2.2.2.ne d
    exact ⟨fun b u z => by
      by_cases hb : b = D
      · rw [hb, upd_same] at z
        rw [hb, ← z]
        exact e
      · rw [upd_ne hb] at z
        exact h'.1 b u z, none_upd h'.2.1 n1, none_upd h'.2.2.1 n2, h'.2.2.2⟩
  fre := fun h d z => by
    obtain ⟨n1, n2⟩ := h.2.2.2.ne d
    rcases z with rfl | rfl
    · exact n1 rfl
    · exact n2 rfl
/-- a def that draws of the source: P source arguments so-far picks what-stands result -/
def spS (P : Addr → List V → Nat → Nat → Hp → HR → Prop) : Sp := fun vs H Q _ => ∃ st cl n k G R, Src st cl n G H ∧ P st vs n k G R ∧ ∀ v G' H', Stp (Src st cl) (n + k) G H G' H' → R v G' → Q v H'
section
variable {st cl : Addr} {n k ka kb : Nat} {t : TA} {te : TE} {σ : L2.St} {G : Hp} {R : HR} {RA : HRs}
theorem ev_callS {P : Addr → List V → Nat → Nat → Hp → HR → Prop} {dvs : List V} {E : XK} (h : EvA (Src st cl) n ka t σ G RA) (hp : ∀ vs G', Same G G' → RA vs G' → P st (vs ++ dvs) (n + ka) kb G' R) : Ev (Src st cl) n (ka + kb) (tCall (spS P) dvs E t) σ G R := fun G1 H1 s0 s Q q =>
  h G1 H1 s0 s _ fun vs G2 H2 s2 e => ⟨st, cl, n + ka, kb, G2, R, s2.s, hp vs G2 (s0.trans s2.g) e, fun v G' H' g r => q v G' H' (s2.trans g).up r⟩
theorem ev_callSV {P : Addr → List V → Nat → Nat → Hp → HR → Prop} {dvs ws : List V} {E : XK} (h : EvA (Src st cl) n ka t σ G (IsVs ws)) (hp : ∀ G', Same G G' → P st (ws ++ dvs) (n + ka) kb G' R) : Ev (Src st cl) n (ka + kb) (tCall (spS P) dvs E t) σ G R :=
  ev_callS h fun vs G' s e => by
    rw [show vs = ws from e]
    exact hp G' s
end
/-- the n-th pick of many -/
def PPick : Addr → List V → Nat → Nat → Hp → HR → Prop := fun st vs n k _ R => ∃ many : Int, vs = [.ref st, .int many] ∧ many < 2 ^ 2000 ∧ (many > 10 ^ 7 → n < 2 ^ 60) ∧ k = 1 ∧ R = IsI fun r => 0 ≤ r ∧ (r < many ∨ (many < 2 ∧ r = 0))
def sp_pick : Sp := spS PPick
theorem ev_pick {st cl : Addr} {n ka : Nat} {t : TA} {σ : L2.St} {G : Hp} {many : Int} {E : XK} (h : EvA (Src st cl) n ka t σ G (IsVs [.ref st, .int many])) (h1 : 1 ≤ many) (h2 : many ≤ 10 ^ 7) : Ev (Src st cl) n (ka + 1) (tCall sp_pick [] E t) σ G (IsI fun r => 0 ≤ r ∧ r < many) :=
  ev_callSV h fun G' s => ⟨many, rfl, Int.lt_of_le_of_lt h2 (by decide +kernel), fun z => by omega, rfl, by
    have e : (fun r : Int => 0 ≤ r ∧ (r < many ∨ (many < 2 ∧ r = 0))) = fun r => 0 ≤ r ∧ r < many := by
      funext r
      exact propext ⟨fun ⟨a, b⟩ => ⟨a, by omega⟩, fun ⟨a, b⟩ => ⟨a, .inl b⟩⟩
    rw [e]⟩
/-- the source made of a list of whole numbers: what is new stands at st and cl -/
def sp_source (K : PySem.W.Frag) : Sp := fun vs H Q _ => ∃ (p : Addr) (ns : List Int), vs = [.ref p] ∧ SqL K H p (ns.map V.int) ∧ ns.length ≤ 100000 ∧ ∀ st cl H', Same H H' → H st = none → H cl = none → SrcAt st cl 0 H' → Q (.ref st) H'
/-! ### dicts by keys of text -/
section
variable {S : SR} {K : PySem.W.Frag} {G : Hp} {a : Addr} {kvs : List (Key × V)} {k : Key} {v : V}
theorem v_ixD (st : Stab S) (h : G a = some (.dK kvs)) (hv : valV kvs k = some v) : RV S (rIxA K) (.ref a) (kV k) G (IsV v) := rv_r (rv_val (fun H s Q q => ⟨a, v, rfl, by rw [← hv]; exact DGet.k (s _ _ h), q⟩) st)
theorem v_ixDs (st : Stab S) {x : Str} (h : G a = some (.dK kvs)) (hv : valV kvs (.inr x) = some v) : RV S (rIxA K) (.ref a) (.str x) G (IsV v) := v_ixD (k := .inr x) st h hv
end
/-- names that are built in -/
structure Bi (mg : Str → Option Value) : Prop where
  z_int : mg "int" = none
  z_abs : mg "abs" = none
  z_range : mg "range" = none
  z_len : mg "len" = none
  z_isinstance : mg "isinstance" = none
  z_bool : mg "bool" = none
  z_str : mg "str" = none
  z_list : mg "list" = none
  z_tuple : mg "tuple" = none
  z_dict : mg "dict" = none
  z_enumerate : mg "enumerate" = none
  z_zip : mg "zip" = none
  z_reversed : mg "reversed" = none
  z_ValueError : mg "ValueError" = none
  z_LookupError : mg "LookupError" = none
  z_KeyError : mg "KeyError" = none
  z_Exception : mg "Exception" = none
  z_super : mg "super" = none
  z_sum : mg "sum" = none
  z_any : mg "any" = none
  z_all : mg "all" = none
  z_sorted : mg "sorted" = none
  z_max : mg "max" = none
  z_min : mg "min" = none
  z_NotImplementedError : mg "NotImplementedError" = none
  z_set : mg "set" = none
  z_repr : mg "repr" = none
end L2.DS
/-! New lists that grow; isinstance of data; data that is alike. -/
namespace L2.DS
open PySem PySem.Spec PyProof.Rows
theorem kp_new {S : SR} {H0 H : Hp} {p : Addr} {o : HO} (k : Kp S H0 H) (h : H0 p = none) : Kp S H0 (upd H p o) := ⟨fun b u m e => by
  rw [upd_ne (ne_of_none e h)]
  exact k.k b u m e, fun b e => by
  by_cases hb : b = p
  · rw [hb]
    exact h
  · rw [upd_ne hb] at e
    exact k.v b e⟩
section
variable {S : SR} {n n0 k : Nat} {t : TA} {u : TS} {σ : L2.St} {G H G0 H0 : Hp} {nx bk ct : L2.St → Hp → Prop} {rt : VK} {i j : Nat} {K : PySem.W.Frag} {p : Addr} {vs xs : List V} {x : V}
/-- x = [..], a list that shall grow -/
theorem q_newL (st : Stab S) (s : S n G H) (e : EvA S n k t σ G (IsVs vs)) (hl : vs.length ≤ 100000) (h : ∀ p H', H p = none → G p = none → Kp S H H' → S (n + k) G H' → H' p = some (.lst vs) → u (Ends.mk nx rt bk ct) (σ.set i (some (.ref p))) H') :
    tSeq (tAsg (tLst t) (gName i)) u (Ends.mk nx rt bk ct) σ H := e G H (Same.refl _) s _ fun ws G1 H1 s1 ev => by
  obtain rfl : ws = vs := ev
  refine ⟨Nat.le_trans hl (by decide), fun p hp => ?_⟩
  have s2 := st.anti s s1.s s1.g
  have gp := (st.sub s2).free hp
  exact h p _ (s1.k.v p hp) gp (kp_new s1.k (s1.k.v p hp)) (st.chg s2 hp s2 gp) upd_same
/-- p.append(x), p new since H0 -/
theorem q_app (st : Stab S) (s0 : S n0 G0 H0) (hp0 : H0 p = none) (k0 : Kp S H0 H) (s : S n G H) (hG : G p = none) (hp : H p = some (.lst xs)) (hl : xs.length < 100000) (hv : σ[j]? = some (some (.ref p))) (e : EvA S n k t σ G (IsVs [x]))
    (h : ∀ H', Kp S H0 H' → S (n + k) G H' → H' p = some (.lst (xs ++ [x])) → u (Ends.mk nx rt bk ct) σ H') : tSeq (tDrop (tBM K "list" rAppend (tVar j) t)) u (Ends.mk nx rt bk ct) σ H := by
  refine ⟨_, hv, .inl ⟨rfl, _, SqL.of hp⟩, e G H (Same.refl _) s _ fun ws G1 H1 s1 ev => ?_⟩
  obtain rfl : ws = [x] := ev
  have hp1 := s1.k.k p _ (st.fre s0 hp0) hp
  exact ⟨p, xs, x, rfl, rfl, hp1, Nat.lt_of_lt_of_le hl (by decide), h _ (kp_new (k0.trans s1.k) hp0) (st.chg s0 hp0 (st.anti s s1.s s1.g) hG) upd_same⟩
theorem st_pub (st : Stab S) (s0 : S n0 G0 H0) (hp0 : H0 p = none) (s : S n G H) (hG : G p = none) {o : HO} (hp : H p = some o) : S n (upd G p o) H ∧ Same G (upd G p o) := ⟨st.pub s0 hp0 s hG hp, fun b u e => by
  rw [upd_ne (ne_of_none e hG)]
  exact e⟩
/-- a tuple, a list newly made -/
def IsNew (F : Hp) (o : HO) : HR := fun v G => ∃ p, v = .ref p ∧ F p = none ∧ G p = some o
instance (F o) : Mon (IsNew F o) := ⟨fun s ⟨p, e, f, h⟩ => ⟨p, e, f, s _ _ h⟩⟩
theorem ev_tupN (st : Stab S) (h : EvA S n k t σ G (IsVs vs)) (hl : vs.length ≤ 100000) : Ev S n k (tTup t) σ G (IsNew G (.tup vs)) := fun G1 H1 s0 s Q q =>
  h G1 H1 s0 s _ fun ws G2 H2 s2 e => by
    obtain rfl : ws = vs := e
    exact ⟨Nat.le_trans hl (by decide), fun p hp => q (.ref p) _ _ (s2.trans (st.new s2.s hp)) ⟨p, rfl, (s0.trans s2.g).free ((st.sub s2.s).free hp), upd_same⟩⟩
theorem ev_lstN (st : Stab S) (h : EvA S n k t σ G (IsVs vs)) (hl : vs.length ≤ 100000) : Ev S n k (tLst t) σ G (IsNew G (.lst vs)) := fun G1 H1 s0 s Q q =>
  h G1 H1 s0 s _ fun ws G2 H2 s2 e => by
    obtain rfl : ws = vs := e
    exact ⟨Nat.le_trans hl (by decide), fun p hp => q (.ref p) _ _ (s2.trans (st.new s2.s hp)) ⟨p, rfl, (s0.trans s2.g).free ((st.sub s2.s).free hp), upd_same⟩⟩
end
/-! ### isinstance of data -/
def tyS : PyData → String
  | .none => "NoneType" | .bool _ => "bool" | .int _ => "int" | .str _ => "str" | .list _ => "list" | .tuple _ => "tuple" | .dict _ => "dict"
theorem tyx_L {K : PySem.W.Frag} {G : Hp} {p : Addr} {xs : List V} (h : SqL K G p xs) : TyX K G (.ref p) (.type "list") := by
  rcases h with (h | ⟨o, h⟩) | ⟨o, its, n, h, c, _⟩
  · exact .base (.lst h)
  · exact .base (.frz h)
  · exact .kList h c
theorem tyx_T {K : PySem.W.Frag} {G : Hp} {p : Addr} {xs : List V} (h : SqT K G p xs) : TyX K G (.ref p) (.type "tuple") := by
  rcases h with (h | ⟨o, h⟩) | ⟨o, its, n, h, c, _⟩
  · exact .base (.tup h)
  · exact .fTuple h
  · exact .kTuple h c
theorem tyx_of {K : PySem.W.Frag} {G : Hp} : ∀ {v : V} {d : PyData}, Dp K G v d → TyX K G v (.type (tyS d))
  | _, _, .non => .base .non
  | _, _, .bl b => .base (.bl b)
  | _, _, .int i => .base (.int i)
  | _, _, .str s => .base (.str s)
  | _, _, .lst h _ => tyx_L h
  | _, _, .tup h _ => tyx_T h
theorem dp_nodict {K : PySem.W.Frag} {G : Hp} {v : V} {d : PyData} (h : Dp K G v d) : tyS d ∈ ["NoneType", "bool", "int", "str", "list", "tuple"] := by
  cases h <;> simp [tyS]
def isiB (T c : String) : Bool := (kitB T c).getD false
theorem kitB_all : ∀ T ∈ ["NoneType", "bool", "int", "str", "list", "tuple"], ∀ c ∈ ["bool", "str", "list", "tuple", "dict", "int"], kitB T c = some (isiB T c) := by decide +kernel
theorem kitB_d {K : PySem.W.Frag} {G : Hp} {v : V} {d : PyData} {c : String} (h : Dp K G v d) (hc : c ∈ ["bool", "str", "list", "tuple", "dict", "int"]) : kitB (tyS d) c = some (isiB (tyS d) c) := kitB_all _ (dp_nodict h) _ hc
theorem isi_dict {K : PySem.W.Frag} {G : Hp} {v : V} {d : PyData} (h : Dp K G v d) : isiB (tyS d) "dict" = false := by
  have e : ∀ T ∈ ["NoneType", "bool", "int", "str", "list", "tuple"], isiB T "dict" = false := by decide +kernel
  exact e _ (dp_nodict h)
theorem call_isiTA {X : Cx} (K : PySem.W.Frag) (hK : X.K = K := by rfl) : CallR X (.builtin "isinstance") (rIsiT K) := by
  subst hK
  exact call_isiT
section
variable {S : SR} {K : PySem.W.Frag} {G : Hp} {x : V} {d : PyData} {c : String}
theorem c_isiD (st : Stab S) (h : Dp K G x d) (hc : c ∈ ["bool", "str", "list", "tuple", "dict", "int"]) : RC S (rIsi K) [x, .ty c] G (IsV (.bl (isiB (tyS d) c))) :=
  rc_val (fun H s Q q => ⟨x, .ty c, .type (tyS d), .type c, _, rfl, .ty c, tyx_of (dp_mon s h), kit_ty (kitB_d h hc), q⟩) st
theorem c_isiLT (st : Stab S) {p : Addr} (h : Dp K G x d) (hp : G p = some (.tup [.ty "list", .ty "tuple"])) : RC S (rIsiT K) [x, .ref p] G (IsV (.bl (isiB (tyS d) "list" || isiB (tyS d) "tuple"))) :=
  rc_val (fun H s Q q => ⟨x, p, _, .type (tyS d), [.type "list", .type "tuple"], _, rfl, s _ _ hp, .cons (.ty _) (.cons (.ty _) .nil), tyx_of (dp_mon s h),
    kitAny_cons (b := isiB (tyS d) "list") (kit_ty (kitB_d h (by decide))) (fun z => by rw [z]; exact kitAny_cons (b := isiB (tyS d) "tuple") (kit_ty (kitB_d h (by decide))) (fun y => by rw [y]; rfl) (fun y => by rw [y]; rfl)) (fun z => by rw [z]; rfl), q⟩) st
/-- two values of the same scalar data are one value -/
theorem dp_scal (h : Dp K G x d) (hl : isiB (tyS d) "list" = false) (ht : isiB (tyS d) "tuple" = false) : (d = .none ∧ x = .non) ∨ (∃ b, d = .bool b ∧ x = .bl b) ∨ (∃ i, d = .int i ∧ x = .int i) ∨ ∃ s, d = .str s ∧ x = .str s := by
  cases h with
  | non => exact .inl ⟨rfl, rfl⟩
  | bl b => exact .inr (.inl ⟨b, rfl, rfl⟩)
  | int i => exact .inr (.inr (.inl ⟨i, rfl, rfl⟩))
  | str s => exact .inr (.inr (.inr ⟨s, rfl, rfl⟩))
  | lst h hs => exact absurd hl (show ¬ isiB "list" "list" = false by decide +kernel)
  | tup h hs => exact absurd ht (show ¬ isiB "tuple" "tuple" = false by decide +kernel)
theorem dpAll_len : ∀ {vs : List V} {ds : List PyData}, DpAll K G vs ds → vs.length = ds.length
  | _, _, .nil => rfl
  | _, _, .cons _ h => by rw [List.length_cons, List.length_cons, dpAll_len h]
theorem dpAll_get : ∀ {vs : List V} {ds : List PyData} {j : Nat} {d : PyData}, DpAll K G vs ds → ds[j]? = some d → ∃ v, vs[j]? = some v ∧ Dp K G v d
  | _, _, j, d, .nil, e => by simp at e
  | _, _, 0, d, .cons h _, e => by
    have e2 := Option.some.inj e
    subst e2
    exact ⟨_, rfl, h⟩
  | _, _, j + 1, d, .cons _ h, e => dpAll_get (j := j) h e
theorem depth_get : ∀ {ds : List PyData} {j : Nat} {d : PyData}, ds[j]? = some d → PyData.depth d ≤ PyData.depthAll ds
  | [], j, d, e => by simp at e
  | y :: ds, 0, d, e => by
    have e2 := Option.some.inj e
    subst e2
    unfold PyData.depthAll
    omega
  | y :: ds, j + 1, d, e => by
    have := depth_get (ds := ds) (j := j) e
    unfold PyData.depthAll
    omega
theorem atI_nat {xs : List V} {j : Nat} {v : V} (h : xs[j]? = some v) : atI xs (j : Int) = some v := by
  have hj := (List.getElem?_eq_some_iff.mp h).1
  have h1 : ixN xs.length ((j : Nat) : Int) = some j := by
    unfold ixN
    rw [if_pos (by omega), if_pos (by omega)]
    all_goals rfl
  unfold atI
  rw [h1]
  exact h
end
/-- a list or a tuple -/
def Sq (K : PySem.W.Frag) (G : Hp) (p : Addr) (xs : List V) : Prop := SqL K G p xs ∨ SqT K G p xs
theorem sq_mon {K : PySem.W.Frag} {G G' : Hp} {p : Addr} {xs : List V} (s : Same G G') (h : Sq K G p xs) : Sq K G' p xs := h.imp (fun h => s.seq h) (fun h => same_t s h)
section
variable {S : SR} {K : PySem.W.Frag} {G : Hp} {p : Addr} {xs : List V} {i : Int} {x : V} {d : PyData}
theorem c_lenQ (st : Stab S) (h : Sq K G p xs) : RC S (rLenA K) [.ref p] G (IsV (.int xs.length)) := h.elim (c_lenL st) (c_lenT st)
theorem v_ixQ (st : Stab S) (h : Sq K G p xs) (ha : atI xs i = some x) : RV S (rIxA K) (.ref p) (.int i) G (IsV x) := h.elim (fun h => v_ixL st h ha) (fun h => v_ixT st h ha)
theorem dp_seq (h : Dp K G x d) (hl : (isiB (tyS d) "list" || isiB (tyS d) "tuple") = true) : ∃ ds p xs, (d = .list ds ∨ d = .tuple ds) ∧ x = .ref p ∧ Sq K G p xs ∧ DpAll K G xs ds := by
  cases h with
  | non => exact absurd hl (by decide +kernel)
  | bl b => exact absurd hl (show ¬ (isiB "bool" "list" || isiB "bool" "tuple") = true by decide +kernel)
  | int i => exact absurd hl (show ¬ (isiB "int" "list" || isiB "int" "tuple") = true by decide +kernel)
  | str s => exact absurd hl (show ¬ (isiB "str" "list" || isiB "str" "tuple") = true by decide +kernel)
  | lst h hs => exact ⟨_, _, _, .inl rfl, rfl, .inl h, hs⟩
  | tup h hs => exact ⟨_, _, _, .inr rfl, rfl, .inr h, hs⟩
end
/-- no list or tuple in it is long -/
inductive Sml : PyData → Prop where
  | non : Sml .none
  | bl (b : Bool) : Sml (.bool b)
  | int (i : Int) : Sml (.int i)
  | str (s : Str) : Sml (.str s)
  | lst {ds : List PyData} (h : ds.length ≤ 100000) (a : ∀ d ∈ ds, Sml d) : Sml (.list ds)
  | tup {ds : List PyData} (h : ds.length ≤ 100000) (a : ∀ d ∈ ds, Sml d) : Sml (.tuple ds)
theorem Sml.len {d : PyData} {ds : List PyData} (h : Sml d) (e : d = .list ds ∨ d = .tuple ds) : ds.length ≤ 100000 ∧ ∀ x ∈ ds, Sml x := by
  rcases e with rfl | rfl
  · cases h with
    | lst h a => exact ⟨h, a⟩
  · cases h with
    | tup h a => exact ⟨h, a⟩
theorem depth_seq {d : PyData} {ds : List PyData} (e : d = .list ds ∨ d = .tuple ds) : PyData.depth d = PyData.depthAll ds + 1 := by
  rcases e with rfl | rfl <;> rfl
theorem inV_all {b : Bool} {ys : List V} (h : ∀ y ∈ ys, y = V.bl b) : inV (.bl (!b)) ys = false ∧ ys.all flatV = true := by
  refine ⟨?_, List.all_eq_true.mpr fun y hy => by rw [h y hy]; rfl⟩
  unfold inV
  rw [List.any_eq_false]
  intro y hy
  rw [h y hy]
  cases b <;> decide
/-- alike: both tell the same data of depth below n -/
def PLike (K : PySem.W.Frag) (n : Nat) : List V → Hp → HR → Prop := fun vs G R => ∃ x y d, vs = [x, y] ∧ PyData.depth d < n ∧ Sml d ∧ Dp K G x d ∧ Dp K G y d ∧ R = IsV (.bl true)
end L2.DS
/-! One object that is being made: all else stands. -/
namespace L2.DS
open PySem PySem.Spec PyProof.Rows
/-- all but x stays -/
def MX (x : Addr) : SR := ⟨fun _ _ _ => True, fun a => a = x⟩
/-- G stands, at x stands o; since the heap was H0, with G0 standing, all but x stayed -/
def Own (G0 H0 : Hp) (x : Addr) (o : HO) : SR := ⟨fun _ G H => Same G H ∧ G x = none ∧ H x = some o ∧ Kp (MX x) H0 H ∧ Same G0 G ∧ ∀ b u, G b = some u → G0 b = some u ∨ H0 b = none, fun _ => False⟩
theorem stabO (G0 H0 : Hp) (x : Addr) (o : HO) : Stab (Own G0 H0 x o) where
  sub := fun h => h.1
  wk := fun h _ => h
  grow := fun {n G H G' H'} h g => ⟨g.s, grow_none g h.2.1 h.2.2.1, g.h _ _ h.2.2.1, h.2.2.2.1.trans (Kp.of g.h), h.2.2.2.2.1.trans g.g, fun b u e => by
    rcases g.n b u e with z | z
    · exact h.2.2.2.2.2 b u z
    · exact .inr (h.2.2.2.1.v b z)⟩
  anti := fun h h' s => ⟨s.trans h'.1, h.2.1, h'.2.2.1, h'.2.2.2.1, h.2.2.2.2.1, h.2.2.2.2.2⟩
  chg := fun {n m G H G' H' D u} h d h' g => by
    have hx : x ≠ D := ne_of_none h.2.2.1 d
    refine ⟨fun b v e => by rw [upd_ne (ne_of_none e g)]; exact h'.1 b v e, h'.2.1, by rw [upd_ne hx]; exact h'.2.2.1, ⟨fun b v nb e => ?_, fun b e => ?_⟩, h'.2.2.2.2.1, h'.2.2.2.2.2⟩
    · rw [upd_ne (ne_of_none e (h.2.2.2.1.v D d))]
      exact h'.2.2.2.1.k b v nb e
    · by_cases hb : b = D
      · rw [hb]
        exact h.2.2.2.1.v D d
      · rw [upd_ne hb] at e
        exact h'.2.2.2.1.v b e
  pub := fun {n m G H G' H' D u} h d h' g e => by
    have hx : x ≠ D := ne_of_none h.2.2.1 d
    have hD0 := h.2.2.2.1.v D d
    refine ⟨fun b v z => ?_, none_upd h'.2.1 hx, h'.2.2.1, h'.2.2.2.1, fun b v z => ?_, fun b v z => ?_⟩
    · by_cases hb : b = D
      · rw [hb, upd_same] at z
        rw [hb, ← z]
        exact e
      · rw [upd_ne hb] at z
        exact h'.1 b v z
    · have := h'.2.2.2.2.1 b v z
      rw [upd_ne (ne_of_none this g)]
      exact this
    · by_cases hb : b = D
      · rw [hb]
        exact .inr hD0
      · rw [upd_ne hb] at z
        exact h'.2.2.2.2.2 b v z
  fre := fun _ _ z => z
theorem own_start {G H : Hp} {x : Addr} {o : HO} (s : Same G H) (g : G x = none) (h : H x = some o) (n : Nat) : Own G H x o n G H := ⟨s, g, h, Kp.refl H, Same.refl G, fun _ _ e => .inl e⟩
/-- the object changes -/
theorem own_upd {G0 H0 G H : Hp} {x : Addr} {o u : HO} {n m : Nat} (h : Own G0 H0 x o n G H) : Own G0 H0 x u m G (upd H x u) := ⟨fun b v e => by
  have hb : b ≠ x := fun z => by
    rw [z, h.2.1] at e
    cases e
  rw [upd_ne hb]
  exact h.1 b v e, h.2.1, upd_same, kp_upd' h.2.2.2.1, h.2.2.2.2.1, h.2.2.2.2.2⟩
where
  kp_upd' {H0 H : Hp} {x : Addr} {u : HO} (k : Kp (MX x) H0 H) : Kp (MX x) H0 (upd H x u) := ⟨fun b v nb e => by
    rw [upd_ne nb]
    exact k.k b v nb e, fun b e => by
    by_cases hb : b = x
    · rw [hb, upd_same] at e
      cases e
    · rw [upd_ne hb] at e
      exact k.v b e⟩
/-- what stands, without x -/
def del (G : Hp) (x : Addr) : Hp := fun b => if b = x then none else G b
theorem del_ne {G : Hp} {x b : Addr} (h : b ≠ x) : del G x b = G b := if_neg h
theorem del_x {G : Hp} {x : Addr} : del G x x = none := if_pos rfl
/-- nothing is known but what stands -/
def All : SR := ⟨fun _ G H => Same G H, fun _ => False⟩
theorem stabA : Stab All where
  sub := fun h => h
  wk := fun h _ => h
  grow := fun h g => g.s
  anti := fun h h' s => Same.trans s h'
  chg := fun {n m G H G' H' D o} h d h' g b u e => by
    rw [upd_ne (ne_of_none e g)]
    exact h' b u e
  pub := fun {n m G H G' H' D o} h d h' g e b u z => by
    by_cases hb : b = D
    · rw [hb, upd_same] at z
      rw [hb, ← z]
      exact e
    · rw [upd_ne hb] at z
      exact h' b u z
  fre := fun _ _ z => z
/-- the object as it stands now is looked at -/
theorem ev_look {G0 H0 : Hp} {x : Addr} {o : HO} {n k : Nat} {te : TE} {σ : L2.St} {G : Hp} {R R' : HR} (h : ∀ G1, Same G G1 → G1 x = none → Ev All n k te σ (upd G1 x o) R) (hR : ∀ v G2, R v G2 → G2 x = some o → R' v (del G2 x)) : Ev (Own G0 H0 x o) n k te σ G R' := by
  intro G1 H1 s0 s Q q
  obtain ⟨s1, s2, s3, s4, s5, s6⟩ := s
  have a : Same (upd G1 x o) H1 := fun b u e => by
    by_cases hb : b = x
    · rw [hb, upd_same] at e
      rw [hb, ← e]
      exact s3
    · rw [upd_ne hb] at e
      exact s1 b u e
  refine h G1 s0 s2 (upd G1 x o) H1 (Same.refl _) a Q fun v G2 H2 t r => ?_
  have g2 : G2 x = some o := t.g _ _ upd_same
  have gg : Same G1 (del G2 x) := fun b u e => by
    have hb : b ≠ x := fun z => by
      rw [z, s2] at e
      cases e
    rw [del_ne hb]
    exact t.g b u (by rw [upd_ne hb]; exact e)
  have gh : Same (del G2 x) H2 := fun b u e => by
    by_cases hb : b = x
    · rw [hb, del_x] at e
      cases e
    · rw [del_ne hb] at e
      exact t.s b u e
  have hh : Same H1 H2 := fun b u e => t.k.k b u (fun z => z) e
  have nn : ∀ b u, del G2 x b = some u → G1 b = some u ∨ H1 b = none := fun b u e => by
    by_cases hb : b = x
    · rw [hb, del_x] at e
      cases e
    · rw [del_ne hb] at e
      rcases t.n b u e with z | z
      · rw [upd_ne hb] at z
        exact .inl z
      · exact .inr z
  exact q v (del G2 x) H2 ⟨gg, Kp.of hh, ⟨gh, del_x, hh _ _ s3, s4.trans (Kp.of hh), s5.trans gg, fun b u e => by
    rcases nn b u e with z | z
    · exact s6 b u z
    · exact .inr (s4.v b z)⟩, nn⟩ (hR v G2 r g2)
/-- what a promise of a def that fills an object in tells: P class fields arguments what-stands result; the result: object class fields what-stands -/
abbrev OR := Addr → Addr → List (Str × V) → Hp → Prop
def spI (P : Addr → List (Str × V) → List V → Hp → OR → Prop) : Sp := fun vs H Q _ => ∃ x C dx fs rest G R, vs = .ref x :: rest ∧ H x = some (.ins C dx fs) ∧ Same G H ∧ G x = none ∧ P C fs rest G R ∧
  ∀ fs' G' H', Own G H x (.ins C dx fs') 0 G' H' → R x C fs' G' → Q .non H'
/-- an object as R tells -/
def IsO (C : Addr) (R : OR) : HR := fun v G => ∃ x dx fs G', v = .ref x ∧ G' x = none ∧ Same (upd G' x (.ins C dx fs)) G ∧ R x C fs G'
instance (C R) : Mon (IsO C R) := ⟨fun s ⟨x, dx, fs, G', e, h, t, r⟩ => ⟨x, dx, fs, G', e, h, t.trans s, r⟩⟩
section
variable {S : SR} {n k : Nat} {t tk : TA} {σ : L2.St} {G H : Hp} {R : OR} {RA : HRs} {C : Addr} {E : XK} {dvs : List V}
theorem made_stp (st : Stab S) {x dx : Addr} (s : S n G H) (hx : H x = none) (hd : H dx = none) (nd : dx ≠ x) {fs : List (Str × V)} {G' H' : Hp} (w : Own G (upd (upd H dx (.own x)) x (.ins C dx [])) x (.ins C dx fs) 0 G' H') : Stp S n G H (upd G' x (.ins C dx fs)) H' := by
  obtain ⟨w1, w2, w3, w4, w5, w6⟩ := w
  have hH : Same H H' := fun b o e => w4.k b o (ne_of_none e hx) (by rw [upd_ne (ne_of_none e hx), upd_ne (ne_of_none e hd)]; exact e)
  have hG : Same G (upd G' x (.ins C dx fs)) := fun b o e => by
    have e' := w5 b o e
    rw [upd_ne (ne_of_none e' w2)]
    exact e'
  have nn : ∀ b o, upd G' x (.ins C dx fs) b = some o → G b = some o ∨ H b = none := fun b o e => by
    by_cases hb : b = x
    · rw [hb]
      exact .inr hx
    · rw [upd_ne hb] at e
      rcases w6 b o e with z | z
      · exact .inl z
      · refine .inr ?_
        rw [upd_ne hb] at z
        by_cases hb2 : b = dx
        · rw [hb2]
          exact hd
        · rw [upd_ne hb2] at z
          exact z
  have hS : Same (upd G' x (.ins C dx fs)) H' := fun b o e => by
    by_cases hb : b = x
    · rw [hb, upd_same] at e
      rw [hb, ← e]
      exact w3
    · rw [upd_ne hb] at e
      exact w1 b o e
  exact ⟨hG, Kp.of hH, st.grow s ⟨hG, hH, hS, nn⟩, nn⟩
theorem made_start (st : Stab S) {x dx : Addr} (s : S n G H) (hx : H x = none) (hd : H dx = none) : Same G (upd (upd H dx (.own x)) x (.ins C dx [])) ∧ G x = none := by
  have sG := st.sub s
  exact ⟨fun b o e => by rw [upd_ne (ne_of_none (sG b o e) hx), upd_ne (ne_of_none (sG b o e) hd)]; exact sG b o e, sG.free hx⟩
end
end L2.DS
/-! Defs with defaults; defs that say super().__init__, with defaults; how their arguments are bound. -/
namespace L2.DS
open PySem PySem.Spec PyProof.Rows
section
variable {P : Program} {w : World} {K : PySem.W.Frag} {mg : Str → Option Value} {base : Heap} {x qual : Str} {params : Arguments} {body : List Stmt} {scope : Scope} {dvs : List V} {kws : List (Str × V)} {f : Addr} {fd : FuncData}
/-- a def with defaults that lets nothing out -/
theorem okD {N ps : List Str} {k : Nat} {sp : Sp} (F : FunD K x qual params body scope dvs kws f fd) (S : FnScope N ps scope) (len : ∀ vs H Q E, sp vs H Q E → vs.length = ps.length)
    (hbody : ∀ (cdv : Value) (A : Around) (outer : List Env) (s : Shared) (H : Hp) (vs : List V) (Q : VK) (E : XK), Room k (A.deeper (envOfC qual scope s.heap.objs.size f cdv)) → sp vs H Q E →
      ∃ t, PSs (cxOf CX0 P w K mg base N qual scope f cdv A outer s H E).nox body t ∧ t { nx := fun _ H' => Q .non H', rt := Q } (start N vs) H) : FnOk P w K mg base CX0 (k + 1) f fd ps sp :=
  F.ok S len fun cdv A outer s H vs Q E hr hsp => by
    obtain ⟨t, h, q⟩ := hbody cdv A outer s H vs Q E hr hsp
    exact ⟨t, h.nox, q⟩
end
/-- a def that says super().__init__, its defaults dvs and kws -/
structure FunSD (prog : Program) (K : PySem.W.Frag) (x qual : Str) (st : Stmt) (dvs : List V) (kws : List (Str × V)) (f : Addr) (fd : FuncData) (D : Addr) : Prop where
  ex : ∃ (oc : Value) (od : Option Addr) (dV kV doc pm : Value) (an : Option Addr) (cda : Addr) (ct : Value) (osl : Array (Option Value)) (cc : Addr) (ol : Obj) (vs : Array Value) (file : Str) (tf : Tok) (ccl : Value) (ccd : Option Addr) (csl : Array (Option Value)),
    fd = PySem.W.fnX x qual (defArgs st) (defBody st) (defScope st) [("__class__", cc)] dV kV doc pm an (.ref cda) ct ∧ K.lookup f = some ⟨oc, od, .func fd, osl⟩ ∧ PySem.W.codeIn K (.ref cda) qual = true ∧
    K.lookup cda = some ol ∧ ol.data = .fields vs ∧ vs[2]? = some (.str file tf) ∧ ((prog.main.file : Str) == file) = true ∧ K.lookup cc = some ⟨ccl, ccd, .cell (some (.ref D)), csl⟩ ∧ DflV K dV dvs ∧ KwdV K kV kws
  cls : ∃ oD cd, K.lookup D = some oD ∧ oD.data = .cls cd
  kp : PySem.W.keepIn K (.ref f) = true
  fi : PySem.W.fnIn K f = true
  ty : PySem.W.typeIn K (.ref f) = some (.type "function")
section
variable {prog : Program} {K : PySem.W.Frag} {x qual : Str} {st : Stmt} {dvs : List V} {kws : List (Str × V)} {f D : Addr} {fd : FuncData} {ps : List Str}
theorem FunSD.toS (F : FunSD prog K x qual st dvs kws f fd D) : FunS prog K x qual st f fd D := by
  obtain ⟨oc, od, dV, kV, doc, pm, an, cda, ct, osl, cc, ol, vs, file, tf, ccl, ccd, csl, h1, h2, h3, h4, h5, h6, h7, h8, _⟩ := F.ex
  exact ⟨⟨oc, od, dV, kV, doc, pm, an, cda, ct, osl, cc, ol, vs, file, tf, ccl, ccd, csl, h1, h2, h3, h4, h5, h6, h7, h8⟩, F.cls, F.kp, F.fi, F.ty⟩
/-- every parameter is written -/
theorem FunSD.bindsN (F : FunSD prog K x qual st [] kws f fd D)
    (h : ∀ (cc : Addr) (kV doc pm : Value) (an : Option Addr) (cdv ct : Value) (us : List Value), us.length = ps.length → bindArgs (PySem.W.fnX x qual (defArgs st) (defBody st) (defScope st) [("__class__", cc)] .none kV doc pm an cdv ct) ⟨us, []⟩ = pure (ps.zip us)) : Binds K fd ps [] := by
  obtain ⟨oc, od, dV, kV, doc, pm, an, cda, ct, osl, cc, ol, vs, file, tf, ccl, ccd, csl, rfl, h2, h3, h4, h5, h6, h7, h8, hD, hK⟩ := F.ex
  rcases hD with ⟨_, rfl⟩ | ⟨e, _⟩
  · exact .all (h cc kV doc pm an (.ref cda) ct)
  · exact absurd rfl e
end
/-- the def that super().__init__ finds -/
def SupC (P : Program) (w : World) (K : PySem.W.Frag) (mg : Str → Option Value) (base : Heap) (f2 : Addr) (CX : CXT) (k : Nat) (ps : List Str) (dvs : List V) (sp : Sp) : Prop :=
  ∃ (fd : FuncData) (ds : List Value), FnOk P w K mg base CX k f2 fd ps sp ∧ Binds K fd ps ds ∧ Vals dvs ds ∧ PySem.W.fnIn K f2 = true ∧ PySem.W.typeIn K (.ref f2) = some (.type "function")
section
variable {X : Cx} {body sts : List Stmt} {u : TS} {D : Addr} {ar : Str} {CX : CXT} {k : Nat} {f2 : Addr} {ps : List Str} {sp : Sp} {dvs : List V} {E : XK} {e : Expr} {es : List Expr} {ta : TA} {p0 p1 ap pos pos' : Pos} {pl : Sem Bool}
theorem psa_supC (S : SupAt X D ar) (hN : X.N[0]? = some ar) (hv : Own1 X.env.scope ar) (c : SupC X.prog X.w X.K X.mg X.base f2 CX k ps dvs sp) (hr : Room k X.A) (hx : Passes CX X E) (ha : PA X (e :: es) ta) (hr2 : PSA X body sts u)
    (he : eval (.Call (.Attribute (.Call (.Name "super" p0) [] [] p1) "__init__" ap) (e :: es) [] pos) X.env = (do
      let ov ← attributeBase (.Call (.Name "super" p0) [] [] p1) "__init__" X.env (eval (.Call (.Name "super" p0) [] [] p1) X.env)
      standAt ap.atName
      let (f, first) ← holding [ov] (getMethod ov "__init__" pl)
      callWith pos f first (backTo pos (starEach (e :: es) X.env)) []) := by rfl)
    (hst : starEach (e :: es) X.env = (false, eval e X.env) :: starEach es X.env := by rfl) (hpl : (backTo pos (starEach es X.env)).any (·.1) = false := by rfl)
    (hs : swapsWith (.Call (.Attribute (.Call (.Name "super" p0) [] [] p1) "__init__" ap) (e :: es) [] pos) none pos'.line X.env = pure false := by rfl) :
    PSA X body (.Expr (.Call (.Attribute (.Call (.Name "super" p0) [] [] p1) "__init__" ap) (e :: es) [] pos) pos' :: sts) (tSeq (tSup X.K D f2 sp dvs E ta) u) := by
  obtain ⟨fd, ds, F, hb, hd, hf, ht⟩ := c
  exact psa_sup S hN hv F hr hb hd hx hf ht ha hr2 he hst hpl hs
end
/-- a class made by its name with keywords -/
def MakerK (P : Program) (w : World) (K : PySem.W.Frag) (mg : Str → Option Value) (base : Heap) (x : Str) (C : Addr) (CX : CXT) (k : Nat) (ps : List Str) (n : Nat) (ks : List Str) (gV : List V → List V → List V) (sp : Sp) : Prop :=
  ∃ (f : Addr) (fd : FuncData) (g : List Value → List Value → List Value), mg x = some (.ref C) ∧ Mk K C f ∧ FnOk P w K mg base CX k f fd ps sp ∧ KBn K fd ps (n + 1) ks g gV
section
variable {X : Cx} {CX : CXT} {k n : Nat} {C : Addr} {ps ks : List Str} {gV : List V → List V → List V} {sp : Sp} {E : XK} {x : Str} {p pos : Pos} {e : Expr} {es : List Expr} {kws : List Keyword} {t tk : TA}
theorem pe_makeKC (c : MakerK X.prog X.w X.K X.mg X.base x C CX k ps n ks gV sp) (hr : Room (k + 1) X.A) (hx : Passes CX X E) (ha : PA X (e :: es) t) (hkw : PK X kws tk) (hg : Gl X x := by rfl)
    (hall : (backToKw pos (keywordEach kws X.env)).all (·.1.isSome) = true := by rfl) (hks : (backToKw pos (keywordEach kws X.env)).filterMap (·.1) = ks := by rfl) (hdb : (x == ("__debug__" : Str)) = false := by decide)
    (he : starEach (e :: es) X.env = (false, eval e X.env) :: starEach es X.env := by rfl) (hpl : ((backTo pos (starEach (e :: es) X.env)).any (·.1) || (backToKw pos (keywordEach kws X.env)).any (·.1.isNone)) = false := by rfl) :
    PE X (.Call (.Name x p) (e :: es) kws pos) (tMakeK C n ks.length sp gV E t tk) := by
  obtain ⟨f, fd, g, h1, h2, h3, h4⟩ := c
  exact pe_makeK h2 h3 hr hg h1 h4 hx ha hkw hall hks hdb he hpl
end
/-! ### statements on the object that is being made -/
section
variable {G0 H0 G H : Hp} {x C dx : Addr} {fs : List (Str × V)} {n k i : Nat} {te : TE} {u : TS} {σ : L2.St} {nx bk ct : L2.St → Hp → Prop} {rt : VK} {K : PySem.W.Frag} {f : Str} {R : HR} {v : V}
theorem q_fldO (s : Own G0 H0 x (.ins C dx fs) n G H) (e : Ev (Own G0 H0 x (.ins C dx fs)) n k te σ G R) (hx : σ[i]? = some (some (.ref x))) (hc : Cls K C) (hn : NoAttr K C f) (hl : fs.length < 1000)
    (h : ∀ v G' H', Same G G' → Own G0 H0 x (.ins C dx (putF f v fs)) (n + k) G' H' → R v G' → u (Ends.mk nx rt bk ct) σ H') : tSeq (sFld K (tVar i) te f) u (Ends.mk nx rt bk ct) σ H :=
  e G H (Same.refl _) s _ fun v G' H' s1 r => ⟨_, hx, x, C, dx, fs, rfl, s1.s.2.2.1, hc, hn, hl, h v G' _ s1.g (own_upd s1.s) r⟩
theorem q_fldV (s : Own G0 H0 x (.ins C dx fs) n G H) (e : Ev (Own G0 H0 x (.ins C dx fs)) n k te σ G (IsV v)) (hx : σ[i]? = some (some (.ref x))) (hc : Cls K C) (hn : NoAttr K C f) (hl : fs.length < 1000)
    (h : ∀ H', Own G0 H0 x (.ins C dx (putF f v fs)) (n + k) G H' → u (Ends.mk nx rt bk ct) σ H') : tSeq (sFld K (tVar i) te f) u (Ends.mk nx rt bk ct) σ H :=
  e G H (Same.refl _) s _ fun w G' H' s1 r => ⟨_, hx, x, C, dx, fs, rfl, s1.s.2.2.1, hc, hn, hl, by
    rw [show w = v from r]
    exact h _ (own_upd ((stabO _ _ _ _).anti s s1.s s1.g))⟩
theorem own_trans {G' H' : Hp} {o u : HO} {m m' : Nat} (a : Own G0 H0 x o m G H) (b : Own G H x u m' G' H') (l : Nat) : Own G0 H0 x u l G' H' := ⟨b.1, b.2.1, b.2.2.1, a.2.2.2.1.trans b.2.2.2.1, a.2.2.2.2.1.trans b.2.2.2.2.1, fun c w e => by
  rcases b.2.2.2.2.2 c w e with z | z
  · exact a.2.2.2.2.2 c w z
  · exact .inr (a.2.2.2.1.v c z)⟩
theorem own_n {o : HO} {m l : Nat} (a : Own G0 H0 x o m G H) : Own G0 H0 x o l G H := a
/-- super().__init__(..) -/
theorem q_supO {P : Addr → List (Str × V) → List V → Hp → OR → Prop} {D f2 : Addr} {dvs : List V} {E : XK} {ta : TA} {RA : HRs} {RO : OR} (s : Own G0 H0 x (.ins C dx fs) n G H) (h0 : σ[0]? = some (some (.ref x))) (hm : PySem.W.mroIn K C (.ref D) = some true) (hf : PySem.W.ks_superIn K C D "__init__" = some (some (.ref f2)))
    (h : EvA (Own G0 H0 x (.ins C dx fs)) n k ta σ G RA) (hp : ∀ vs G', Same G G' → RA vs G' → P C fs (vs ++ dvs) G' RO) (hq : ∀ fs' G' H', Same G G' → Own G0 H0 x (.ins C dx fs') 0 G' H' → RO x C fs' G' → u (Ends.mk nx rt bk ct) σ H') :
    tSeq (tSup K D f2 (spI P) dvs E ta) u (Ends.mk nx rt bk ct) σ H :=
  ⟨x, C, dx, fs, h0, s.2.2.1, hm, hf, h G H (Same.refl _) s _ fun vs G' H' s1 r => ⟨x, C, dx, fs, vs ++ dvs, G', RO, rfl, s1.s.2.2.1, s1.s.1, s1.s.2.1, hp vs G' s1.g r, fun fs' G2 H2 w ro => hq fs' G2 H2 (s1.g.trans w.2.2.2.2.1) (own_trans s1.s w 0) ro⟩⟩
end
end L2.DS
/-! Tuples with methods, starred displays, dicts by enumerate, texts in parts. -/
namespace L2.DS
open PySem PySem.Spec PyProof.Rows
theorem hu2 {A : Around} {k : Nat} (hr : Room k A) : A.units + 66 < cLine := by
  have := hr.un
  omega
/-! ### what evaluates to what -/
/-- a tuple newly made, its object plain -/
def IsTF (F : Hp) (xs : List V) : HR := fun v G => ∃ p o, v = .ref p ∧ F p = none ∧ o.dict = none ∧ G p = some (.frz o (.tup xs))
instance (F xs) : Mon (IsTF F xs) := ⟨fun s ⟨p, o, e, f, d, h⟩ => ⟨p, o, e, f, d, s _ _ h⟩⟩
section
variable {S : SR} {n k ka kb : Nat} {t ta : TA} {te to : TE} {σ : L2.St} {G H : Hp} {K : PySem.W.Frag} {p : Addr} {vs xs ys : List V} {x : V} {i j : Nat}
/-- list(range(m)) -/
theorem ev_listRg {m : Int} (st : Stab S) (h : Ev S n k te σ G (IsV (.int m))) (h0 : 0 ≤ m) (h1 : m ≤ 100000) : Ev S n k (tLstRg (tRg1 te)) σ G (IsNew G (.lst ((List.range m.toNat).map fun i => .int (i : Nat)))) := fun G1 H1 s0 s Q q =>
  h G1 H1 s0 s _ fun v G2 H2 s2 e => ⟨m, e, ⟨by omega, by omega, by omega, by omega, by show (m - 0).toNat ≤ 2 ^ 24; omega⟩, fun p hp => by
    have e : rgV 0 m = (List.range m.toNat).map fun i => V.int (i : Nat) := by
      unfold rgV
      rw [Int.sub_zero]
      exact List.map_congr_left fun i _ => by rw [Int.zero_add]
    rw [e]
    exact q (.ref p) _ _ (s2.trans (st.new s2.s hp)) ⟨p, rfl, (s0.trans s2.g).free ((st.sub s2.s).free hp), upd_same⟩⟩
/-- tuple(l) -/
theorem c_tupN (st : Stab S) (hq : SqL K G p xs) : RC S (rTupQ K) [.ref p] G (IsNew G (.tup xs)) := fun n G1 H1 s0 s Q q =>
  ⟨p, xs, rfl, .inl ⟨(s0.trans (st.sub s)).seq hq, fun l hl => q (.ref l) _ _ (st.new s hl) ⟨l, rfl, (s0.trans (st.sub s)).free hl, upd_same⟩⟩⟩
end
theorem tYes_run {σ : L2.St} {H : Hp} {Q : Bool → Hp → Prop} (h : Q true H) : tYes σ H Q := h
/-! ### a dict of places by enumerate -/
def plc : List Str → Nat → List (Key × V)
  | [], _ => []
  | a :: r, i => (.inr a, .int (i : Nat)) :: plc r (i + 1)
theorem plc_snoc : ∀ (xs : List Str) (a : Str) (i : Nat), plc (xs ++ [a]) i = plc xs i ++ [(.inr a, .int ((i + xs.length : Nat) : Int))]
  | [], a, i => rfl
  | b :: r, a, i => by
    show (_, _) :: plc (r ++ [a]) (i + 1) = _
    rw [plc_snoc r a (i + 1), List.length_cons, show i + (r.length + 1) = i + 1 + r.length by omega]
    rfl
theorem plc_len : ∀ (xs : List Str) (i : Nat), (plc xs i).length = xs.length
  | [], _ => rfl
  | a :: r, i => by rw [List.length_cons, ← plc_len r (i + 1)]; rfl
theorem plc_none : ∀ {xs : List Str} {a : Str} {i : Nat}, a ∉ xs → valV (plc xs i) (.inr a) = none
  | [], _, _, _ => rfl
  | b :: r, a, i, h => by
    have n : ¬ (Sum.inr b : Key) = .inr a := fun z => h (by cases z; exact List.mem_cons_self)
    exact (valV_neg (p := ((.inr b : Key), V.int (i : Nat))) n).trans (plc_none fun z => h (List.mem_cons_of_mem _ z))
theorem plc_some : ∀ {xs : List Str} {a : Str} {i j : Nat}, xs.Nodup → xs[j]? = some a → valV (plc xs i) (.inr a) = some (.int ((i + j : Nat) : Int))
  | [], _, _, _, _, e => by simp at e
  | b :: r, a, i, 0, _, e => by
    cases e
    exact valV_pos rfl
  | b :: r, a, i, j + 1, d, e => by
    have e' : r[j]? = some a := e
    have n : ¬ (Sum.inr b : Key) = .inr a := fun z => by
      cases z
      exact (List.nodup_cons.mp d).1 (List.mem_of_getElem? e')
    refine (valV_neg (p := ((.inr b : Key), V.int (i : Nat))) n).trans ?_
    rw [plc_some (List.nodup_cons.mp d).2 e', show i + 1 + j = i + (j + 1) by omega]
section
variable {S : SR} {n k : Nat} {ta : TA} {σ : L2.St} {G : Hp} {K : PySem.W.Frag} {p : Addr} {vs : List Nat} {i j : Nat} {names : List Str}
/-- {name: place for place, name in enumerate(names)} -/
theorem ev_dcE (st : Stab S) (h : EvA S n k ta σ G (IsVs [.ref p])) (hq : SqL K G p (names.map V.str)) (hl : names.length ≤ 100000) (hd : names.Nodup) (hij : i ≠ j) (hli : i < (wipe σ vs).length) (hlj : j < (wipe σ vs).length)
    (hw : ∀ x y : V, wipe (((wipe σ vs).set i (some x)).set j (some y)) vs = wipe σ vs) : Ev S n k (tDc (iEnum K ta) (gTup K 2 (gCons (gName i) (gCons (gName j) gNil))) tYes (tVar j) (tVar i) vs) σ G (IsNew G (.dK (plc names 0))) := fun G1 H1 s0 s Q q =>
  h G1 H1 s0 s _ fun ws G2 H2 s2 e => by
    obtain rfl : ws = [.ref p] := e
    refine ⟨p, names.map V.str, rfl, (s0.trans (s2.g.trans (st.sub s2.s))).seq hq, fun D hD => ?_⟩
    have gD := (st.sub s2.s).free hD
    refine ⟨fun t m J => m = names.length - t ∧ t ≤ names.length ∧ Kp S H2 J ∧ S (n + k) G2 J ∧ J D = some (.dK (plc (names.take t) 0)), ⟨names.length, by omega, by omega, kp_new (Kp.refl H2) hD, st.chg s2.s hD s2.s gD, upd_same⟩, ?_⟩
    rintro t m J ⟨rfl, ht, kJ, sJ, dJ⟩
    have w := walk_enum (K := K) (a := p) (xs := names.map V.str)
    have hqJ := (s0.trans (s2.g.trans (st.sub sJ))).seq hq
    have lm : (names.map V.str).length = names.length := List.length_map _
    by_cases hlt : t < names.length
    · refine .inr ⟨w.goes t J (by omega) hqJ, fun J' => names.length - (t + 1) = names.length - (t + 1) ∧ t + 1 ≤ names.length ∧ Kp S H2 J' ∧ S (n + k) G2 J' ∧ J' D = some (.dK (plc (names.take (t + 1)) 0)), fun J' z => ⟨_, by omega, z⟩, fun v J' y => ?_⟩
      obtain ⟨T, x, z, rfl, hT, rfl, ex, ez⟩ := w.yields t J v J' (by omega) hqJ y
      cases ex
      have ez' : z = V.str names[t] := by
        have e2 : (names.map V.str)[t]? = some z := ez
        rw [List.getElem?_map, List.getElem?_eq_getElem hlt] at e2
        exact (Option.some.inj e2).symm
      subst ez'
      have gr := Grow.hid (o := .tup [.int (t : Nat), .str names[t]]) (st.sub sJ) hT
      have sJ' := st.grow sJ gr
      have dJ' := gr.h _ _ dJ
      refine ⟨T, [.int (t : Nat), .str names[t]], rfl, SqT.of upd_same, rfl, _, _, rfl, _, _, rfl, rfl, hw _ _, ?_⟩
      refine tYes_run (iteT ?_)
      refine tVar_run (x := .str names[t]) ?_ (tVar_run (x := .int (t : Nat)) ?_ ⟨_, .inr names[t], rfl, dJ', ?_, rfl, by omega, ?_, ?_, ?_⟩)
      · rw [List.getElem?_set_self (by rw [List.length_set]; exact hlj)]
      · rw [List.getElem?_set_ne (Ne.symm hij), List.getElem?_set_self hli]
      · rw [plc_len, List.length_take]
        exact Nat.lt_of_le_of_lt (Nat.min_le_right _ _) (Nat.lt_of_le_of_lt hl (by decide))
      · exact kp_new (kJ.trans (Kp.of gr.h)) hD
      · exact st.chg s2.s hD sJ' gD
      · rw [upd_same]
        have nm : names[t] ∉ names.take t := fun z => by
          obtain ⟨a, ha, e⟩ := List.getElem_of_mem z
          rw [List.length_take] at ha
          rw [List.getElem_take] at e
          have := (List.getElem_inj hd).mp e
          omega
        rw [putK_new _ (plc_none nm), List.take_succ_eq_append_getElem hlt, plc_snoc, List.length_take, Nat.zero_add, Nat.min_eq_left (by omega)]
    · have ht' : t = names.length := by omega
      subst ht'
      rw [List.take_length] at dJ
      refine .inl ⟨by rw [← lm]; exact w.stops J hqJ, ?_⟩
      have g4 : Same G2 (upd G2 D (.dK (plc names 0))) := fun b o e => by
        rw [upd_ne (ne_of_none e gD)]
        exact e
      refine q (.ref D) (upd G2 D (.dK (plc names 0))) J ⟨s2.g.trans g4, s2.k.trans kJ, st.pub s2.s hD sJ gD dJ, fun b o e => ?_⟩ ⟨D, rfl, (s0.trans s2.g).free gD, upd_same⟩
      by_cases hb : b = D
      · rw [hb]
        exact .inr (s2.k.v D hD)
      · rw [upd_ne hb] at e
        exact s2.n b o e
end
/-! ### texts in parts -/
def EvJ (S : SR) (n : Nat) (ts : List TE) (acc : Str) (σ : L2.St) (G : Hp) (out : Str) : Prop := ∀ G1 H1, Same G G1 → S n G1 H1 → ∀ Q : Str → Hp → Prop, (∀ G2 H2, Stp S n G1 H1 G2 H2 → Q out H2) → tJs ts acc σ H1 Q
section
variable {S : SR} {n : Nat} {ts : List TE} {te : TE} {acc y out : Str} {σ : L2.St} {G : Hp} {i : Int}
theorem ej_nil : EvJ S n [] acc σ G acc := fun G1 H1 s0 s Q q => q G1 H1 (Stp.refl s)
theorem ej_cons (h : Ev S n 0 te σ G (IsV (.str y))) (hl : (acc ++ y).length ≤ sizeLine) (hr : EvJ S n ts (acc ++ y) σ G out) : EvJ S n (te :: ts) acc σ G out := fun G1 H1 s0 s Q q => by
  unfold tJs
  exact h G1 H1 s0 s _ fun v G2 H2 s2 e => ⟨y, e, hl, hr G2 H2 (s0.trans s2.g) s2.s _ fun G3 H3 s3 => q G3 H3 (s2.trans s3)⟩
theorem ev_fmtS (h : Ev S n 0 te σ G (IsV (.str y))) (hl : y.length ≤ sizeLine) : Ev S n 0 (tFmt te) σ G (IsV (.str y)) := fun G1 H1 s0 s Q q => h G1 H1 s0 s _ fun v G2 H2 s2 e => .inl ⟨y, e, hl, q _ G2 H2 s2 rfl⟩
theorem ev_joined (h : EvJ S n ts Str.empty σ G out) : Ev S n 0 (fun σ H Q => tJs ts Str.empty σ H fun out H1 => Q (.str out) H1) σ G (IsV (.str out)) := fun G1 H1 s0 s Q q => h G1 H1 s0 s _ fun G2 H2 s2 => q _ G2 H2 s2 rfl
end
end L2.DS
/-! What a scale holds. -/
namespace L2.DS
open PySem PySem.Spec PyProof.Rows
def scF : List Str := ["label", "size", "never_at", "still_at", "depth", "worth_names", "worth_places", "product_table", "join_table"]
theorem lk_eq {f : Str} {v : V} {fs : List (Str × V)} : (putF f v fs).lookup f = some v := by rw [lookup_putF, if_pos rfl]
theorem lk_ne {f g : Str} {v : V} {fs : List (Str × V)} (h : ¬ g = f) : (putF f v fs).lookup g = fs.lookup g := by rw [lookup_putF, if_neg h]
theorem lk_off {f g : Str} {v : V} {fs : List (Str × V)} (h : f ∉ scF) (hg : g ∈ scF) : (putF g v fs).lookup f = fs.lookup f := lk_ne fun e => h (by rw [e]; exact hg)
theorem putF_len (f : Str) (v : V) : ∀ fs : List (Str × V), (putF f v fs).length ≤ fs.length + 1
  | [] => Nat.le_refl 1
  | (g, x) :: r => by
    unfold putF
    split
    · show r.length + 1 ≤ r.length + 1 + 1
      omega
    · have := putF_len f v r
      show (putF f v r).length + 1 ≤ r.length + 1 + 1
      omega
/-- a tuple of n things as R tells -/
def IsTN (m : Nat) (R : Nat → HR) : HR := fun v G => ∃ p ys, v = .ref p ∧ G p = some (.tup ys) ∧ ys.length = m ∧ ∀ i y, ys[i]? = some y → R i y G
instance (m) (R : Nat → HR) [∀ i, Mon (R i)] : Mon (IsTN m R) := ⟨fun s ⟨p, ys, e, h, l, r⟩ => ⟨p, ys, e, s _ _ h, l, fun i y z => Mon.mon s (r i y z)⟩⟩
theorem ev_tupLc {S : SR} {n k m : Nat} {te : TE} {σ : L2.St} {G F : Hp} {K : PySem.W.Frag} {R : Nat → HR} [∀ i, Mon (R i)] (st : Stab S) (h : Ev S n k te σ G (IsLN F m R)) : Ev S n (k + 0) (tCB (rTupQ K) (tCons te tNil)) σ G (IsTN m R) :=
  ev_cb (ea_cons h ea_nil) fun vs G2 s2 e => by
    obtain ⟨_, _, rfl, ⟨p, ys, rfl, _, hp, l, r⟩, e⟩ := e
    obtain rfl := (show _ = _ from e)
    intro n G1 H1 s0 s Q q
    refine c_tupN (K := K) st (SqL.of hp) n G1 H1 s0 s Q fun v G3 H3 s3 ⟨t, e, _, ht⟩ => ?_
    exact q v G3 H3 s3 ⟨t, ys, e, ht, l, fun i y z => Mon.mon (s0.trans s3.g) (r i y z)⟩
/-- a table of n rows of n places -/
def Tab (G : Hp) (p : Addr) (n : Nat) (th : Nat → Nat → Int) : Prop := IsTN n (fun i => IsTN n fun j => IsV (.int (th i j))) (.ref p) G
theorem Tab.mono {G G' : Hp} {p : Addr} {n : Nat} {th : Nat → Nat → Int} (h : Tab G p n th) (s : Same G G') : Tab G' p n th := Mon.mon s h
theorem tab_del {G : Hp} {v : V} {n : Nat} {th : Nat → Nat → Int} {x C dx : Addr} {fs : List (Str × V)} (h : IsTN n (fun i => IsTN n fun j => IsV (.int (th i j))) v G) (hx : G x = some (.ins C dx fs)) : IsTN n (fun i => IsTN n fun j => IsV (.int (th i j))) v (del G x) := by
  have k : ∀ {b : Addr} {ys : List V}, G b = some (.tup ys) → del G x b = some (.tup ys) := fun {b ys} e => by
    rw [del_ne (ne_of e hx (fun z => by cases z))]
    exact e
  obtain ⟨p, ys, e, hp, l, r⟩ := h
  refine ⟨p, ys, e, k hp, l, fun i y z => ?_⟩
  obtain ⟨q, zs, e2, hq, l2, r2⟩ := r i y z
  exact ⟨q, zs, e2, k hq, l2, r2⟩
/-- the row a of a table -/
theorem Tab.row {G : Hp} {p : Addr} {n : Nat} {th : Nat → Nat → Int} (h : Tab G p n th) : ∃ ys, G p = some (.tup ys) ∧ ys.length = n ∧ ∀ a < n, ∃ q zs, ys[a]? = some (.ref q) ∧ G q = some (.tup zs) ∧ zs.length = n ∧ ∀ b < n, zs[b]? = some (.int (th a b)) := by
  obtain ⟨p', ys, e, hp, l, r⟩ := h
  cases e
  refine ⟨ys, hp, l, fun a ha => ?_⟩
  have e1 : ys[a]? = some ys[a] := List.getElem?_eq_getElem (by omega)
  obtain ⟨q, zs, e2, hq, l2, r2⟩ := r a _ e1
  refine ⟨q, zs, by rw [e1, e2], hq, l2, fun b hb => ?_⟩
  have e3 : zs[b]? = some zs[b] := List.getElem?_eq_getElem (by omega)
  rw [e3, show zs[b] = V.int (th a b) from r2 b _ e3]
/-- the fields of a scale -/
structure ScIs (label : Str) (names : List Str) (nv sl dep : Int) (th jn : Nat → Nat → Int) (fs : List (Str × V)) (G : Hp) : Prop where
  lab : fs.lookup ("label" : Str) = some (.str label)
  siz : fs.lookup ("size" : Str) = some (.int (names.length : Nat))
  nev : fs.lookup ("never_at" : Str) = some (.int nv)
  sti : fs.lookup ("still_at" : Str) = some (.int sl)
  dep : fs.lookup ("depth" : Str) = some (.int dep)
  nam : ∃ p, fs.lookup ("worth_names" : Str) = some (.ref p) ∧ G p = some (.tup (names.map V.str))
  pla : ∃ p, fs.lookup ("worth_places" : Str) = some (.ref p) ∧ G p = some (.dK (plc names 0))
  pro : ∃ p, fs.lookup ("product_table" : Str) = some (.ref p) ∧ Tab G p names.length th
  joi : ∃ p, fs.lookup ("join_table" : Str) = some (.ref p) ∧ Tab G p names.length jn
theorem ScIs.mono {label : Str} {names : List Str} {nv sl dep : Int} {th jn : Nat → Nat → Int} {fs : List (Str × V)} {G G' : Hp} (h : ScIs label names nv sl dep th jn fs G) (s : Same G G') : ScIs label names nv sl dep th jn fs G' :=
  ⟨h.lab, h.siz, h.nev, h.sti, h.dep, let ⟨p, a, b⟩ := h.nam; ⟨p, a, s _ _ b⟩, let ⟨p, a, b⟩ := h.pla; ⟨p, a, s _ _ b⟩, let ⟨p, a, b⟩ := h.pro; ⟨p, a, b.mono s⟩, let ⟨p, a, b⟩ := h.joi; ⟨p, a, b.mono s⟩⟩
/-- what Scale.__init__ asks and leaves: PT, PJ tell of make_then, make_join -/
def PScI (K : PySem.W.Frag) (C0 : Addr) (PT PJ : List V → Hp → HR → Prop) : Addr → List (Str × V) → List V → Hp → OR → Prop := fun C fs rest G R => C = C0 ∧ ∃ (label : Str) (pn : Addr) (names : List Str) (nv sl dep : Int) (th jn : Nat → Nat → Int),
  rest = [.str label, .ref pn, .int nv, .int sl, .int dep] ∧ SqL K G pn (names.map V.str) ∧ names.length ≤ 100 ∧ names.Nodup ∧ fs.length ≤ 100 ∧ fs.lookup ("make_then" : Str) = none ∧ fs.lookup ("make_join" : Str) = none ∧
  (∀ x dx fs' G', Same G G' → G' x = some (.ins C dx fs') → (∀ f, f ∉ scF → fs'.lookup f = fs.lookup f) → ∀ a b : Nat, a < names.length → b < names.length → PT [.ref x, .int (a : Nat), .int (b : Nat)] G' (IsV (.int (th a b))) ∧ PJ [.ref x, .int (a : Nat), .int (b : Nat)] G' (IsV (.int (jn a b)))) ∧
  R = fun _ _ fs' G' => ScIs label names nv sl dep th jn fs' G' ∧ (∀ f, f ∉ scF → fs'.lookup f = fs.lookup f) ∧ fs'.length ≤ fs.length + 9
/-- tuple([tuple([self.m(a, b) for b in places]) for a in places]) -/
theorem ev_table {S : SR} (st : Stab S) {K : PySem.W.Frag} {x C dx pl : Addr} {fs : List (Str × V)} {nn n : Nat} {m : Str} {PX : List V → Hp → HR → Prop} {th : Nat → Nat → Int} {v1 v2 v3 v4 v5 u7 u8 u9 u10 : Option V} {G : Hp} {E : XK} (hx : G x = some (.ins C dx fs)) (hm : fs.lookup m = none)
    (hp : G pl = some (.lst ((List.range nn).map fun i => V.int (i : Nat)))) (hn : nn ≤ 100000) (hP : ∀ G', Same G G' → ∀ a b : Nat, a < nn → b < nn → PX [.ref x, .int (a : Nat), .int (b : Nat)] G' (IsV (.int (th a b)))) :
    Ev S n 0 (tCB (rTupQ K) (tCons (tLc (iList K (tVar 6)) (gName 9) tYes (tCB (rTupQ K) (tCons (tLc (iList K (tVar 6)) (gName 10) tYes (tMeth C m (spP PX) [] E (tVar 0) (tCons (tVar 9) (tCons (tVar 10) tNil))) [10]) tNil)) [9]) tNil))
      [some (.ref x), v1, v2, v3, v4, v5, some (.ref pl), u7, u8, u9, u10] G (IsTN nn fun i => IsTN nn fun j => IsV (.int (th i j))) := by
  have ll : ((List.range nn).map fun i => V.int (i : Nat)).length = nn := by rw [List.length_map, List.length_range]
  have at_ : ∀ {j : Nat} {v : V}, ((List.range nn).map fun i => V.int (i : Nat))[j]? = some v → j < nn ∧ v = .int (j : Nat) := fun {j v} e => by
    have hj : j < nn := by
      have := (List.getElem?_eq_some_iff.mp e).1
      omega
    rw [List.getElem?_map, List.getElem?_range hj] at e
    exact ⟨hj, (Option.some.inj e).symm⟩
  have h1 := ev_lcL (S := S) (n := n) (k := 0) (c1 := 0) (K := K) (i := 9) (vs := [9]) (el := tCB (rTupQ K) (tCons (tLc (iList K (tVar 6)) (gName 10) tYes (tMeth C m (spP PX) [] E (tVar 0) (tCons (tVar 9) (tCons (tVar 10) tNil))) [10]) tNil))
    (σ := [some (.ref x), v1, v2, v3, v4, v5, some (.ref pl), u7, u8, u9, u10]) (G := G) st (fun i => IsTN nn fun j => IsV (.int (th i j))) (ev_var (i := 6) rfl) (SqL.of hp) (by omega) (fun a y G2 ha s2 => ?_) (fun _ => rfl)
  · have h2 := ev_tupLc (K := K) st h1
    rw [ll] at h2
    exact Ev.wk st h2 (by simp)
  · obtain ⟨la, rfl⟩ := at_ ha
    have h3 := ev_lcL (S := S) (n := n + 0 + 0 * a) (k := 0) (c1 := 0) (K := K) (i := 10) (vs := [10]) (el := tMeth C m (spP PX) [] E (tVar 0) (tCons (tVar 9) (tCons (tVar 10) tNil)))
      (σ := (wipe [some (.ref x), v1, v2, v3, v4, v5, some (.ref pl), u7, u8, u9, u10] [9]).set 9 (some (.int (a : Nat)))) (G := G2) st (fun j => IsV (.int (th a j))) (ev_var (i := 6) rfl) (SqL.of (s2 _ _ hp)) (by omega) (fun b y G3 hb s3 => ?_) (fun _ => rfl)
    · have h4 := ev_tupLc (K := K) st h3
      rw [ll] at h4
      exact Ev.wk st h4 (by simp)
    · obtain ⟨lb, rfl⟩ := at_ hb
      exact ev_meth (RA := IsVs [.int (a : Nat), .int (b : Nat)]) st (ev_var rfl) ((s2.trans s3) _ _ hx) hm (ea_consV (ev_var rfl) (ea_consV (ev_var rfl) ea_nilV)) fun vs G4 s4 e => by
        obtain rfl : vs = _ := e
        exact hP G4 ((s2.trans s3).trans s4) a b la lb
/-- a scale stands at x -/
def ScAt (K : PySem.W.Frag) (label : Str) (names : List Str) (nv sl dep : Int) (th jn : Nat → Nat → Int) (x : Addr) (G : Hp) : Prop := ∃ C dx fs, G x = some (.ins C dx fs) ∧ Cls K C ∧ (∀ f ∈ scF, NoAttr K C f) ∧ ScIs label names nv sl dep th jn fs G
theorem ScAt.mono {K : PySem.W.Frag} {label : Str} {names : List Str} {nv sl dep : Int} {th jn : Nat → Nat → Int} {x : Addr} {G G' : Hp} (h : ScAt K label names nv sl dep th jn x G) (s : Same G G') : ScAt K label names nv sl dep th jn x G' :=
  let ⟨C, dx, fs, a, b, c, d⟩ := h
  ⟨C, dx, fs, s _ _ a, b, c, d.mono s⟩
/-- a product, a join of two places; whether a place lies within another; the name of a place -/
def PAt (K : PySem.W.Frag) (pick : (Nat → Nat → Int) → (Nat → Nat → Int) → Nat → Nat → V) : List V → Hp → HR → Prop := fun vs G R => ∃ (label : Str) (names : List Str) (nv sl dep : Int) (th jn : Nat → Nat → Int) (x : Addr) (a b : Nat), vs = [.ref x, .int (a : Nat), .int (b : Nat)] ∧ ScAt K label names nv sl dep th jn x G ∧ a < names.length ∧ b < names.length ∧ R = IsV (pick th jn a b)
def PName (K : PySem.W.Frag) : List V → Hp → HR → Prop := fun vs G R => ∃ (label : Str) (names : List Str) (nv sl dep : Int) (th jn : Nat → Nat → Int) (x : Addr) (a : Nat) (nm : Str), vs = [.ref x, .int (a : Nat)] ∧ ScAt K label names nv sl dep th jn x G ∧ names[a]? = some nm ∧ R = IsV (.str nm)
section
variable {S : SR} {K : PySem.W.Frag} {G : Hp} {σ : L2.St} {n k : Nat} {te : TE} {x C dx p : Addr} {fs : List (Str × V)} {nn : Nat} {th : Nat → Nat → Int} {a b i j : Nat}
theorem ev_tab (st : Stab S) (h : Ev S n k te σ G (IsV (.ref p))) (ht : Tab G p nn th) (ha : a < nn) (hb : b < nn) (e1 : σ[i]? = some (some (.int (a : Nat)))) (e2 : σ[j]? = some (some (.int (b : Nat)))) : Ev S n (k + 0 + 0) (tOp (rIxA K) (tOp (rIxA K) te (tVar i)) (tVar j)) σ G (IsV (.int (th a b))) := by
  obtain ⟨ys, hp, _, hr⟩ := ht.row
  obtain ⟨q, zs, e3, hq, _, hz⟩ := hr a ha
  exact ev_opV (ev_opV h (ev_var e1) (v_ixT st (SqT.of hp) (atI_nat e3))) (ev_var e2) (v_ixT st (SqT.of hq) (atI_nat (hz b hb)))
end
/-- a <= b <= c and the like -/
theorem ev_chain {S : SR} (st : Stab S) {n ka kb kc : Nat} {ta tb tc : TE} {r r' : R2} {σ : L2.St} {G : Hp} {x y z : V} {c d : Bool} (ha : Ev S n ka ta σ G (IsV x)) (hb : Ev S (n + ka) kb tb σ G (IsV y)) (hr : RV S r x y G (IsV (.bl c))) (hc : Ev S (n + ka + kb) kc tc σ G (IsV z)) (hr' : RV S r' y z G (IsV (.bl d))) :
    Ev S n (ka + kb + kc) (tChain r r' ta tb tc) σ G (IsV (.bl (c && d))) := fun G1 H1 s0 s Q q =>
  ha G1 H1 s0 s _ fun v G2 H2 s2 e => hb G2 H2 (s0.trans s2.g) s2.s _ fun w G3 H3 s3 e' => by
    obtain rfl : v = x := e
    obtain rfl : w = y := e'
    refine hr _ G3 H3 ((s0.trans s2.g).trans s3.g) s3.s _ fun u G4 H4 s4 e4 => ⟨c, e4, ?_⟩
    have t := (s2.trans s3).trans s4
    cases c with
    | false => exact iteF (q _ G4 H4 (t.wk st (by omega)) rfl)
    | true =>
      refine iteT (hc G4 H4 (s0.trans t.g) s4.s _ fun u2 G5 H5 s5 e5 => ?_)
      obtain rfl : u2 = z := e5
      exact hr' _ G5 H5 ((s0.trans t.g).trans s5.g) s5.s _ fun u3 G6 H6 s6 e6 => q u3 G6 H6 (((t.trans s5).trans s6).wk st (by omega)) e6
/-- d.get(k), the key there or not -/
theorem ev_dget {S : SR} (st : Stab S) {n ka kb : Nat} {td ty : TE} {σ : L2.St} {G : Hp} {a : Addr} {kvs : List (Key × V)} {k : Key} (h : Ev S n ka td σ G (IsV (.ref a))) (ha : G a = some (.dK kvs)) (hy : Ev S (n + ka) kb ty σ G (IsV (kV k))) : Ev S n (ka + kb) (tDGet1 td ty) σ G (IsV ((valV kvs k).getD .non)) := fun G1 H1 s0 s Q q =>
  h G1 H1 s0 s _ fun v G2 H2 s2 e => ⟨a, e, .inl ⟨kvs, .inl (st.sub s2.s _ _ (s2.g _ _ (s0 _ _ ha)))⟩, hy G2 H2 (s0.trans s2.g) s2.s _ fun w G3 H3 s3 e' => by
    obtain rfl : w = kV k := e'
    exact ⟨_, DGet.k (st.sub s3.s _ _ (s3.g _ _ (s2.g _ _ (s0 _ _ ha)))), q _ G3 H3 (s2.trans s3).up rfl⟩⟩
end L2.DS
/-! Scales of contents behind never. -/
namespace L2.DS
open PySem PySem.Spec PyProof.Rows
def wnF : List Str := "contents" :: scF
end L2.DS
/-! Scales of integers. -/
namespace L2.DS
open PySem PySem.Spec PyProof.Rows
def ordS (up : Bool) : Str := if up then "up" else "down"
def cthen (m i j : Int) : Int := if i + j > m then m else i + j
def ceit (up : Bool) (i j : Int) : Int := if decide (j < i) = up then i else j
def cth (m : Int) (a b : Nat) : Int := if a = 0 ∨ b = 0 then 0 else cthen m ((a : Int) - 1) ((b : Int) - 1) + 1
def cjn (up : Bool) (a b : Nat) : Int := if a = 0 ∨ b = 0 then (a : Int) + b else ceit up ((a : Int) - 1) ((b : Int) - 1) + 1
def cword (m i : Int) : Str := if i = m then "many" else toString i
def cwords (m : Nat) : List Str := (List.range (m + 1)).map fun i => cword (m : Nat) (i : Nat)
def clabel (m : Int) (up : Bool) : Str := ((((("(count " : Str) ++ (toString m : Str)) ++ (" " : Str)) ++ ordS up) ++ (")" : Str))
theorem cwords_nodup : ∀ m, m < 63 → (("never" : Str) :: cwords m).Nodup := by decide +kernel
theorem clabel_len : ∀ m : Nat, m < 63 → ∀ up, (clabel (m : Nat) up).length ≤ 100 ∧ (("(count " : Str) ++ (toString ((m : Nat) : Int) : Str)).length ≤ 100 ∧ ((("(count " : Str) ++ (toString ((m : Nat) : Int) : Str)) ++ (" " : Str)).length ≤ 100 ∧ (((("(count " : Str) ++ (toString ((m : Nat) : Int) : Str)) ++ (" " : Str)) ++ ordS up).length ≤ 100 := by decide +kernel
end L2.DS
/-! isinstance of an own error that has fields; methods whose errors a try takes. -/
/-! Names of worths and odd words. -/
namespace L2.DS
open PySem PySem.Spec PyProof.Rows
/-- what a stretch of statements leaves as it was -/
structure Fr (S : SR) (G H G' H' : Hp) : Prop where
  g : Same G G'
  k : Kp S H H'
  n : ∀ b o, G' b = some o → G b = some o ∨ H b = none
theorem Fr.refl {S : SR} (G H : Hp) : Fr S G H G H := ⟨Same.refl _, Kp.refl _, fun _ _ e => .inl e⟩
theorem Fr.trans {S : SR} {G H G1 H1 G2 H2 : Hp} (a : Fr S G H G1 H1) (b : Fr S G1 H1 G2 H2) : Fr S G H G2 H2 := ⟨a.g.trans b.g, a.k.trans b.k, fun c o e => by
  rcases b.n c o e with z | z
  · exact a.n c o z
  · exact .inr (a.k.v c z)⟩
theorem Fr.kp {S : SR} {G H G1 H1 H2 : Hp} (a : Fr S G H G1 H1) (b : Kp S H1 H2) : Fr S G H G1 H2 := ⟨a.g, a.k.trans b, a.n⟩
theorem Stp.fr {S : SR} {n : Nat} {G H G1 H1 : Hp} (s : Stp S n G H G1 H1) : Fr S G H G1 H1 := ⟨s.g, s.k, s.n⟩
theorem Fr.stp {S : SR} {n : Nat} {G H G1 H1 : Hp} (f : Fr S G H G1 H1) (s : S n G1 H1) : Stp S n G H G1 H1 := ⟨f.g, f.k, s, f.n⟩
def EvO (S : SR) (n k : Nat) (t : TO) (σ : L2.St) (G : Hp) (o : Option Int) : Prop := ∀ G1 H1, Same G G1 → S n G1 H1 → ∀ Q : Option Int → Hp → Prop, (∀ G2 H2, Stp S (n + k) G1 H1 G2 H2 → Q o H2) → t σ H1 Q
section
variable {S : SR} {n k ka kb kc : Nat} {te ta : TE} {t : TA} {tl th : TO} {σ : L2.St} {G : Hp} {K : PySem.W.Frag} {i : Int} {z : Str} {lo hi : Option Int} {p q : Addr} {xs ys : List V}
theorem eo_none : EvO S n 0 tNoPart σ G none := fun G1 H1 s0 s Q q => q G1 H1 (Stp.refl s)
theorem eo_some (h : Ev S n k te σ G (IsV (.int i))) : EvO S n k (tPart te) σ G (some i) := fun G1 H1 s0 s Q q => h G1 H1 s0 s _ fun v G2 H2 s2 e => ⟨i, e, q G2 H2 s2⟩
theorem rv_imp {r : R2} {x y : V} {R R' : HR} (h : RV S r x y G R) (i : ∀ v G', Same G G' → R v G' → R' v G') : RV S r x y G R' := fun n G1 H1 s0 s Q q => h n G1 H1 s0 s Q fun v G2 H2 s2 r => q v G2 H2 s2 (i v G2 (s0.trans s2.g) r)
/-- a + b, two lists -/
theorem v_cat (st : Stab S) (h1 : G p = some (.lst xs)) (h2 : G q = some (.lst ys)) (hl : xs.length + ys.length ≤ 100000) : RV S rAddA (.ref p) (.ref q) G (IsNew G (.lst (xs ++ ys))) := fun n G1 H1 s0 s Q k =>
  .inr ⟨p, q, xs, ys, rfl, rfl, st.sub s _ _ (s0 _ _ h1), st.sub s _ _ (s0 _ _ h2), Nat.le_trans hl (by decide), fun l hl => k (.ref l) _ _ (st.new s hl) ⟨l, rfl, s0.free ((st.sub s).free hl), upd_same⟩⟩
end
end L2.DS
/-! What the laws' own defs need. -/
namespace L2.DS
open PySem PySem.Spec PyProof.Rows
section
variable {S : SR} {n k : Nat} {te : TE} {tt : TT} {ts t1 t2 u tb : TS} {σ : L2.St} {G H : Hp} {R : HR} {P : Bool → Prop} {x : V} {nx bk ct : L2.St → Hp → Prop} {rt : VK} {i : Nat} {K : PySem.W.Frag}
/-- state = _law_source(script) -/
theorem q_source {p : Addr} {ns : List Int} {t : TA} {E : XK} {H0 : Hp} (h : ∀ Q : List V → Hp → Prop, Q [.ref p] H0 → t σ H0 Q) (hq : SqL K H0 p (ns.map V.int)) (hl : ns.length ≤ 100000)
    (hr : ∀ sa cl H', Src sa cl 0 H0 H' → u (Ends.mk nx rt bk ct) (σ.set i (some (.ref sa))) H') : tSeq (tAsg (tCall (sp_source K) [] E t) (gName i)) u (Ends.mk nx rt bk ct) σ H0 :=
  h _ ⟨p, ns, rfl, hq, hl, fun sa cl H' s a b c => hr sa cl H' ⟨s, a, b, c⟩⟩
end
/-- a scale of integers stands at x, of the class at C -/
def CsAt (C x : Addr) (t : Nat) (up : Bool) (G : Hp) : Prop := ∃ dx fs, G x = some (.ins C dx fs) ∧ ScIs (clabel (t : Nat) up) (("never" : Str) :: cwords t) 0 1 1 (cth (t : Nat)) (cjn up) fs G ∧ ∀ f, f ∉ wnF → f ≠ ("most" : Str) → f ≠ ("rising" : Str) → fs.lookup f = none
theorem CsAt.mono {C x : Addr} {t : Nat} {up : Bool} {G G' : Hp} (h : CsAt C x t up G) (s : Same G G') : CsAt C x t up G' :=
  let ⟨dx, fs, a, b, c⟩ := h
  ⟨dx, fs, s _ _ a, b.mono s, c⟩
theorem CsAt.of {C : Addr} {t : Nat} {up : Bool} {v : V} {G : Hp} (h : IsO C (fun _ _ fs' G' => ScIs (clabel (t : Nat) up) (("never" : Str) :: cwords t) 0 1 1 (cth (t : Nat)) (cjn up) fs' G' ∧ (∀ f, f ∉ wnF → f ≠ ("most" : Str) → f ≠ ("rising" : Str) → fs'.lookup f = none)) v G) : ∃ x, v = .ref x ∧ CsAt C x t up G := by
  obtain ⟨x, dx, fs, G', rfl, gx, s, a, b⟩ := h
  have s' : Same G' G := fun c o e => s c o (by rw [upd_ne (ne_of_none e gx)]; exact e)
  exact ⟨x, rfl, dx, fs, s _ _ upd_same, a.mono s', b⟩
theorem CsAt.sc {K : PySem.W.Frag} {C x : Addr} {t : Nat} {up : Bool} {G : Hp} (h : CsAt C x t up G) (hC : Cls K C) (hN : ∀ f ∈ scF, NoAttr K C f) : ScAt K (clabel (t : Nat) up) (("never" : Str) :: cwords t) 0 1 1 (cth (t : Nat)) (cjn up) x G :=
  let ⟨dx, fs, a, b, _⟩ := h
  ⟨C, dx, fs, a, hC, hN, b⟩
theorem cwords_short : ∀ t, t < 63 → ∀ nm ∈ (("never" : Str) :: cwords t), nm.length ≤ 10 := by decide +kernel
/-- what each law's own def promises -/
def sp_law (K : PySem.W.Frag) : Sp := fun vs H Q _ => ∃ (p : Addr) (ns : List Int), vs = [.ref p] ∧ SqL K H p (ns.map V.int) ∧ ns.length ≤ 63 ∧ ∀ H', Q (.bl true) H'
end L2.DS
/-! From what the top has written to what the proofs ask. -/
namespace L2.DS
open PySem PySem.Spec PyProof.Rows
theorem mk_funD {K : PySem.W.Frag} {x qual : Str} {st : Stmt} {f T : Addr} {oc : Value} {od an dT : Option Addr} {osl slT : Array (Option Value)} {kV doc pm cdv ct cT : Value} {v : V} {u : Value} {n : Nat}
    (l : K.lookup f = some ⟨oc, od, .func (PySem.W.fnOf x qual (defArgs st) (defBody st) (defScope st) (.ref T) kV doc pm an cdv ct), osl⟩) (c : PySem.W.codeIn K cdv qual = true) (k : PySem.W.keepIn K (.ref f) = true) (lT : K.lookup T = some ⟨cT, dT, .seq [u].toArray n, slT⟩) (r : RelV v u) :
    FunD K x qual (defArgs st) (defBody st) (defScope st) [v] [] f (PySem.W.fnOf x qual (defArgs st) (defBody st) (defScope st) (.ref T) kV doc pm an cdv ct) :=
  ⟨⟨oc, od, .ref T, kV, doc, pm, an, cdv, ct, osl, rfl, l, c, .inr ⟨by simp, T, _, [u], n, rfl, lT, rfl, .cons r .nil⟩, .inl rfl⟩, k⟩
section
variable {P : Program} {K : PySem.W.Frag} {x qual : Str} {st : Stmt} {f cda cc D : Addr} {oc : Value} {od an oc1 oc2 oD : Option Addr} {osl sl1 sl2 slD : Array (Option Value)} {kV doc pm ct c1 c2 cD : Value} {vs : Array Value} {file : Str} {tf : Tok} {cd : ClassData}
theorem mk_funS (l : K.lookup f = some ⟨oc, od, .func (PySem.W.fnX x qual (defArgs st) (defBody st) (defScope st) [("__class__", cc)] .none kV doc pm an (.ref cda) ct), osl⟩) (c : PySem.W.codeIn K (.ref cda) qual = true) (lc : K.lookup cda = some ⟨c1, oc1, .fields vs, sl1⟩) (hv : vs[2]? = some (.str file tf)) (hf : ((P.main.file : Str) == file) = true)
    (lx : K.lookup cc = some ⟨c2, oc2, .cell (some (.ref D)), sl2⟩) (lD : K.lookup D = some ⟨cD, oD, .cls cd, slD⟩) (k : PySem.W.keepIn K (.ref f) = true) (fi : PySem.W.fnIn K f = true) (ty : PySem.W.typeIn K (.ref f) = some (.type "function")) {kws : List (Str × V)} (hk : KwdV K kV kws) :
    FunSD P K x qual st [] kws f (PySem.W.fnX x qual (defArgs st) (defBody st) (defScope st) [("__class__", cc)] .none kV doc pm an (.ref cda) ct) D :=
  ⟨⟨oc, od, .none, kV, doc, pm, an, cda, ct, osl, cc, _, vs, file, tf, c2, oc2, sl2, rfl, l, c, lc, rfl, hv, hf, lx, .inl ⟨rfl, rfl⟩, hk⟩, ⟨_, _, lD, rfl⟩, k, fi, ty⟩
end
theorem kwd_none {K : PySem.W.Frag} {kV : Value} : KwdV K kV [] := .inl rfl
end L2.DS
/-! Own errors as values. -/
namespace L2.DS
open PySem PySem.Spec PyProof.Rows
/-- an error of the class at C stands at e, its dict at d (or none) -/
def ErO (C : Addr) (d : Option Addr) (e : Addr) : HO := .ext fun h => ∃ (oe : Obj) (vs : Array Value), h.get? e = some oe ∧ Zc (.ref C) d oe ∧ oe.data = .fields vs
/-! ### what evaluates to an error -/
def IsEr (C : Addr) (nm : Str) (v : V) : HR := fun u G => ∃ e dd, u = .ref e ∧ G e = some (ErO C (some dd) e) ∧ G dd = some (.xd [(nm, v)])
def IsEr0 (C : Addr) : HR := fun u G => ∃ e, u = .ref e ∧ G e = some (ErO C none e)
instance (C nm v) : Mon (IsEr C nm v) := ⟨fun s ⟨e, dd, a, b, c⟩ => ⟨e, dd, a, s _ _ b, s _ _ c⟩⟩
instance (C) : Mon (IsEr0 C) := ⟨fun s ⟨e, a, b⟩ => ⟨e, a, s _ _ b⟩⟩
/-- an error of the class at C, with a field or none -/
def IsErA (C : Addr) : HR := fun u G => ∃ e d, u = .ref e ∧ G e = some (ErO C d e) ∧ (d = none ∨ ∃ dd fs, d = some dd ∧ G dd = some (.xd fs))
theorem IsEr.any {C : Addr} {nm : Str} {v u : V} {G : Hp} (h : IsEr C nm v u G) : IsErA C u G := let ⟨e, dd, a, b, c⟩ := h; ⟨e, _, a, b, .inr ⟨dd, _, rfl, c⟩⟩
theorem IsEr0.any {C : Addr} {u : V} {G : Hp} (h : IsEr0 C u G) : IsErA C u G := let ⟨e, a, b⟩ := h; ⟨e, _, a, b, .inl rfl⟩
instance (C) : Mon (IsErA C) := ⟨fun s ⟨e, d, a, b, c⟩ => ⟨e, d, a, s _ _ b, c.imp id fun ⟨dd, fs, x, y⟩ => ⟨dd, fs, x, s _ _ y⟩⟩⟩
/-- a list of things as RA tells -/
def IsLX (RA : HRs) : HR := fun v G => ∃ p xs, v = .ref p ∧ G p = some (.lst xs) ∧ RA xs G
instance (RA) [Mons RA] : Mon (IsLX RA) := ⟨fun s ⟨p, xs, e, h, r⟩ => ⟨p, xs, e, s _ _ h, Mons.mon s r⟩⟩
/-- an error told by its class and its field -/
def IsErS (s : Addr × Option (Str × V)) : HR := fun u G => match s.2 with
  | none => IsEr0 s.1 u G
  | some p => IsEr s.1 p.1 p.2 u G
instance (s) : Mon (IsErS s) := ⟨fun {u G G'} t h => by
  obtain ⟨C, o⟩ := s
  cases o with
  | none => exact (Mon.mon t (show IsEr0 C u G from h) : IsEr0 C u G')
  | some p => exact (Mon.mon t (show IsEr C p.1 p.2 u G from h) : IsEr C p.1 p.2 u G')⟩
theorem IsErS.any {s : Addr × Option (Str × V)} {u : V} {G : Hp} (h : IsErS s u G) : IsErA s.1 u G := by
  obtain ⟨C, o⟩ := s
  cases o with
  | none => exact (show IsEr0 C u G from h).any
  | some p => exact (show IsEr C p.1 p.2 u G from h).any
def RE : List (Addr × Option (Str × V)) → HRs
  | [] => RNil
  | s :: r => RCons (IsErS s) (RE r)
theorem re_mon : ∀ {ss : List (Addr × Option (Str × V))} {vs : List V} {G G' : Hp}, Same G G' → RE ss vs G → RE ss vs G'
  | [], _, _, _, _, h => h
  | s :: r, _, _, _, t, ⟨v, w, e, h, h'⟩ => ⟨v, w, e, Mon.mon t h, re_mon t h'⟩
instance (ss) : Mons (RE ss) := ⟨re_mon⟩
section
variable {S : SR} {n k ka kb : Nat} {t ta : TA} {te : TE} {σ : L2.St} {G H : Hp} {K : PySem.W.Frag} {C e : Addr} {nm : Str} {v c : V} {cv : Value} {b : Bool} {RA RB : HRs} {p q : Addr} {xs ys : List V}
theorem ev_lstX (st : Stab S) [Mons RA] (h : EvA S n k t σ G RA) (hl : ∀ vs G', RA vs G' → vs.length ≤ 100000) : Ev S n k (tLst t) σ G (IsLX RA) := fun G1 H1 s0 s Q q =>
  h G1 H1 s0 s _ fun vs G2 H2 s2 e => ⟨Nat.le_trans (hl vs G2 e) (by decide), fun p hp => by
    have g := st.new (o := .lst vs) s2.s hp
    exact q (.ref p) _ _ (s2.trans g) ⟨p, vs, rfl, upd_same, Mons.mon g.g e⟩⟩
end
/-! ### texts and lists several times -/
def IsBl (L : List V) : HR := fun v G' => ∃ p, v = .ref p ∧ G' p = some (.lst L)
instance (L) : Mon (IsBl L) := ⟨fun s ⟨p, e, h⟩ => ⟨p, e, s _ _ h⟩⟩
end L2.DS
/-! Lists told thing by thing; comprehensions of two loops, over pairs. -/
namespace L2.DS
open PySem PySem.Spec PyProof.Rows
section
variable {α : Type} {R : α → HR}
/-- one thing behind the other, as R tells each -/
def RL (R : α → HR) : List α → HRs
  | [] => RNil
  | a :: r => RCons (R a) (RL R r)
theorem rl_mon [∀ a, Mon (R a)] : ∀ {ss : List α} {vs : List V} {G G' : Hp}, Same G G' → RL R ss vs G → RL R ss vs G'
  | [], _, _, _, _, h => h
  | s :: r, _, _, _, t, ⟨v, w, e, h, h'⟩ => ⟨v, w, e, Mon.mon t h, rl_mon t h'⟩
instance [∀ a, Mon (R a)] (ss : List α) : Mons (RL R ss) := ⟨rl_mon⟩
theorem rl_len : ∀ {ss : List α} {vs : List V} {G : Hp}, RL R ss vs G → vs.length = ss.length
  | [], _, _, h => by rw [show _ = [] from h]; rfl
  | s :: r, _, _, ⟨v, w, e, _, h⟩ => by rw [e, List.length_cons, List.length_cons, rl_len h]
theorem rl_app : ∀ {ss ts : List α} {vs ws : List V} {G : Hp}, RL R ss vs G → RL R ts ws G → RL R (ss ++ ts) (vs ++ ws) G
  | [], _, _, _, _, h, h' => by
    obtain rfl := (show _ = [] from h)
    exact h'
  | s :: r, _, _, _, _, ⟨v, w, e, a, b⟩, h' => ⟨v, w ++ _, by rw [e]; rfl, a, rl_app b h'⟩
theorem rl_one {a : α} {v : V} {G : Hp} (h : R a v G) : RL R [a] [v] G := ⟨v, [], rfl, h, rfl⟩
theorem rl_get : ∀ {ss : List α} {vs : List V} {G : Hp} {i : Nat} {s : α}, RL R ss vs G → ss[i]? = some s → ∃ v, vs[i]? = some v ∧ R s v G
  | [], _, _, i, s, _, e => by simp at e
  | t :: r, _, _, 0, s, ⟨v, w, e, a, b⟩, h => by
    cases h
    exact ⟨v, by rw [e]; rfl, a⟩
  | t :: r, _, _, i + 1, s, ⟨v, w, e, a, b⟩, h => by
    obtain ⟨u, h1, h2⟩ := rl_get (i := i) b h
    exact ⟨u, by rw [e]; exact h1, h2⟩
theorem rl_vals {g : α → V} : ∀ {ss : List α} {vs : List V} {G : Hp}, RL (fun a => IsV (g a)) ss vs G → vs = ss.map g
  | [], _, _, h => h
  | s :: r, _, _, ⟨v, w, e, a, b⟩ => by rw [e, show v = g s from a, rl_vals b]; rfl
/-- a list newly made -/
def IsNX (F : Hp) (RA : HRs) : HR := fun v G => ∃ p xs, v = .ref p ∧ F p = none ∧ G p = some (.lst xs) ∧ RA xs G
instance (F RA) [Mons RA] : Mon (IsNX F RA) := ⟨fun s ⟨p, xs, e, f, h, r⟩ => ⟨p, xs, e, f, s _ _ h, Mons.mon s r⟩⟩
/-- the list at D grows -/
def LcQ (S : SR) (G2 H2 : Hp) (n : Nat) (D : Addr) (R : α → HR) (ss : List α) (J : Hp) : Prop := ∃ G3 acc, Stp S n G2 H2 G3 J ∧ G3 D = none ∧ J D = some (.lst acc) ∧ RL R ss acc G3
variable {S : SR} {n k c1 : Nat} {te el : TE} {σ : L2.St} {G : Hp} {K : PySem.W.Frag}
theorem lcq_start (st : Stab S) {G2 H2 : Hp} {D : Addr} (a : S n G2 H2) (hD : H2 D = none) : LcQ S G2 H2 n D R [] (upd H2 D (.lst [])) := by
  have gD : G2 D = none := (st.sub a).free hD
  exact ⟨G2, [], ⟨Same.refl _, kp_new (Kp.refl H2) hD, st.chg a hD a gD, fun _ _ h => .inl h⟩, gD, upd_same, rfl⟩
theorem lcq_end (st : Stab S) [∀ a, Mon (R a)] {G1 H1 G2 H2 H : Hp} {D : Addr} {ss : List α} {Q : VK} (a : Stp S n G1 H1 G2 H2) (hD : H2 D = none) (h : LcQ S G2 H2 n D R ss H)
    (q : ∀ v G' H', Stp S n G1 H1 G' H' → IsNX G1 (RL R ss) v G' → Q v H') : Q (.ref D) H := by
  obtain ⟨G3, acc, s3, c, d, r⟩ := h
  have t := a.trans s3
  have g4 : Same G3 (upd G3 D (.lst acc)) := fun y o z => by
    rw [upd_ne (ne_of_none z c)]
    exact z
  refine q (.ref D) _ H ⟨t.g.trans g4, t.k, st.pub a.s hD s3.s c d, fun b o e => ?_⟩ ⟨D, acc, rfl, t.g.free c, upd_same, rl_mon g4 r⟩
  by_cases hb : b = D
  · rw [hb]
    exact .inr (a.k.v D hD)
  · rw [upd_ne hb] at e
    exact t.n b o e
/-- one more thing -/
theorem lcq_step (st : Stab S) [∀ a, Mon (R a)] {G2 H2 J : Hp} {D : Addr} {ss : List α} {x : α} {Nx : Hp → Prop} (a : S n G2 H2) (hD : H2 D = none) (h : LcQ S G2 H2 n D R ss J) (hl : ss.length < 100000)
    (hs : ∀ G', Same G2 G' → Ev S n 0 el σ G' (R x)) (hN : ∀ J', LcQ S G2 H2 n D R (ss ++ [x]) J' → Nx J') :
    el σ J fun y H4 => ∃ acc, H4 D = some (.lst acc) ∧ acc.length < sizeLine ∧ Nx (upd H4 D (.lst (acc ++ [y]))) := by
  obtain ⟨G3, acc, s3, c, d, r⟩ := h
  refine hs G3 s3.g G3 J (Same.refl _) s3.s _ fun y G4 J4 s4 ry => ?_
  have d4 : J4 D = some (.lst acc) := s4.k.k D _ (st.fre a hD) d
  have c4 : G4 D = none := by
    cases e : G4 D with
    | none => rfl
    | some o =>
      rcases s4.n D o e with q | q
      · rw [c] at q
        cases q
      · rw [d] at q
        cases q
  have t : Stp S n G2 H2 G4 J4 := s3.trans s4
  have ll := rl_len r
  refine ⟨acc, d4, Nat.lt_of_lt_of_le (show acc.length < 100000 by omega) (by decide), hN _ ⟨G4, acc ++ [y], ⟨t.g, kp_new t.k hD, st.chg a hD t.s c4, t.n⟩, c4, upd_same, rl_app (rl_mon s4.g r) (rl_one ry)⟩⟩
theorem lcq_move (st : Stab S) [∀ a, Mon (R a)] {G2 H2 J G3 G4 H4 : Hp} {D : Addr} {ss : List α} {acc : List V} (a : S n G2 H2) (hD : H2 D = none) (s3 : Stp S n G2 H2 G3 J) (c : G3 D = none) (d : J D = some (.lst acc)) (r : RL R ss acc G3) (s4 : Stp S n G3 J G4 H4) : LcQ S G2 H2 n D R ss H4 := by
  have c4 : G4 D = none := by
    cases e : G4 D with
    | none => rfl
    | some o =>
      rcases s4.n D o e with q | q
      · rw [c] at q
        cases q
      · rw [d] at q
        cases q
  exact ⟨G4, acc, s3.trans s4, c4, s4.k.k D _ (st.fre a hD) d, rl_mon s4.g r⟩
/-- [el for x in xs], any target -/
theorem ev_lcG (st : Stab S) [∀ a, Mon (R a)] {g : TG} {vs : List Nat} {p : Addr} {xs : List V} {ss : List α} {σf : Nat → L2.St} (e : Ev S n k te σ G (IsV (.ref p))) (hq : SqL K G p xs) (hx : xs.length = ss.length) (hl : xs.length ≤ 100000)
    (hg : ∀ j x G' J, xs[j]? = some x → Same G G' → Same G' J → ∀ Q : L2.St → Hp → Prop, Q (σf j) J → g x (wipe σ vs) J Q) (hw : ∀ j, wipe (σf j) vs = wipe σ vs)
    (hs : ∀ j x s G', xs[j]? = some x → ss[j]? = some s → Same G G' → Ev S (n + k) 0 el (σf j) G' (R s)) : Ev S n k (tLc (iList K te) g tYes el vs) σ G (IsNX G (RL R ss)) := fun G1 H1 s0 s Q q =>
  e G1 H1 s0 s _ fun v G2 H2 s2 ev => ⟨p, ev, ⟨xs, Same.seq (s0.trans (s2.g.trans (st.sub s2.s))) hq⟩, fun D hD =>
    lc_list (K := K) (a := p) (xs := xs) (fun j J => j ≤ xs.length ∧ LcQ S G2 H2 (n + k) D R (ss.take j) J) ⟨Nat.zero_le _, lcq_start st s2.s hD⟩ (fun j J _ ⟨_, G3, acc, a, _⟩ => ((s0.trans s2.g).trans (a.g.trans (st.sub a.s))).seq hq)
      (fun j x J hx' ⟨_, h⟩ => by
        have hj : j < xs.length := (List.getElem?_eq_some_iff.mp hx').1
        obtain ⟨G3, acc, a, b⟩ := id h
        refine hg j x G3 J hx' ((s0.trans s2.g).trans a.g) (st.sub a.s) _ ⟨hw j, tYes_run (iteT ?_)⟩
        have hsj : ss[j]? = some ss[j] := List.getElem?_eq_getElem (by omega)
        refine lcq_step (x := ss[j]) (Nx := fun J => j + 1 ≤ xs.length ∧ LcQ S G2 H2 (n + k) D R (ss.take (j + 1)) J) st s2.s hD h (by rw [List.length_take]; omega) (fun G' g' => hs j x _ G' hx' hsj ((s0.trans s2.g).trans g')) fun J' h' => ⟨hj, ?_⟩
        rw [List.take_succ_eq_append_getElem (by omega)]
        exact h')
      fun J ⟨_, h⟩ => by
        rw [hx, List.take_length] at h
        exact lcq_end st s2 hD h fun v G' H' a ⟨p, xs, e, f, r⟩ => q v G' H' a ⟨p, xs, e, s0.free f, r⟩⟩
end
end L2.DS
/-! Scales of spans. -/
namespace L2.DS
open PySem PySem.Spec PyProof.Rows
/-- the tuple of two whole numbers -/
def IsPr (s : Int × Int) : HR := fun v G => ∃ p, v = .ref p ∧ G p = some (.tup [.int s.1, .int s.2])
instance (s) : Mon (IsPr s) := ⟨fun t ⟨p, e, h⟩ => ⟨p, e, t _ _ h⟩⟩
def spansL (m : Nat) : List (Int × Int) := (List.range (m + 1)).flatMap fun a => (List.range (((m : Int) + 1) - (a : Nat)).toNat).map fun t => (((a : Nat) : Int), ((a : Nat) : Int) + (t : Nat))
def scut (m : Int) (a b : Int × Int) : Int × Int := (if a.1 + b.1 > m then m else a.1 + b.1, if a.2 + b.2 > m then m else a.2 + b.2)
def seit (a b : Int × Int) : Int × Int := (if a.1 < b.1 then a.1 else b.1, if a.2 > b.2 then a.2 else b.2)
/-- the place of a span behind never -/
def spl (m : Nat) (s : Int × Int) : Nat := (spansL m).idxOf s + 1
def sth (m : Nat) (a b : Nat) : Int := if a = 0 ∨ b = 0 then 0 else (spl m (scut m ((spansL m).getD (a - 1) (0, 0)) ((spansL m).getD (b - 1) (0, 0))) : Nat)
def sjn (m : Nat) (a b : Nat) : Int := if a = 0 ∨ b = 0 then (a : Int) + b else (spl m (seit ((spansL m).getD (a - 1) (0, 0)) ((spansL m).getD (b - 1) (0, 0))) : Nat)
def sword (m : Int) (s : Int × Int) : Str := (cword m s.1 ++ ("to" : Str)) ++ cword m s.2
def swords (m : Nat) : List Str := (spansL m).map (sword (m : Nat))
def slabel (m : Int) : Str := (("(span " : Str) ++ (toString m : Str)) ++ (")" : Str)
/-- data of a pair -/
def prd (s : Int × Int) : PyData := .tuple [.int s.1, .int s.2]
theorem prd_eqv (a b : Int × Int) : PyData.eqv (prd a) (prd b) = decide (a = b) := by
  obtain ⟨a1, a2⟩ := a
  obtain ⟨b1, b2⟩ := b
  simp only [prd, PyData.eqv, PyData.eqvAll]
  by_cases h : ((a1, a2) : Int × Int) = (b1, b2)
  · cases h
    simp
  · rw [decide_eq_false h]
    by_cases h1 : a1 = b1
    · subst h1
      have h2 : ¬ a2 = b2 := fun z => h (by rw [z])
      simp [h2]
    · simp [h1]
theorem dp_pr {K : PySem.W.Frag} {G : Hp} {s : Int × Int} {v : V} (h : IsPr s v G) : Dp K G v (prd s) := by
  obtain ⟨p, rfl, h⟩ := h
  exact .tup (SqT.of h) (.cons (.int _) (.cons (.int _) .nil))
theorem dp_prs {K : PySem.W.Frag} {G : Hp} : ∀ {ss : List (Int × Int)} {vs : List V}, RL IsPr ss vs G → DpAll K G vs (ss.map prd)
  | [], _, h => by rw [show _ = [] from h]; exact .nil
  | s :: r, _, ⟨v, w, e, a, b⟩ => by rw [e]; exact .cons (dp_pr a) (dp_prs b)
end L2.DS
/-! Growing lists told thing by thing; loops with free invariants; l.index. -/
namespace L2.DS
open PySem PySem.Spec PyProof.Rows
section
variable {α : Type} {R : α → HR} {S : SR} {n n0 k : Nat} {te : TE} {t : TA} {tb u : TS} {σ : L2.St} {G H G1 H1 J : Hp} {nx bk ct : L2.St → Hp → Prop} {rt : VK} {i j : Nat} {K : PySem.W.Frag} {D p : Addr} {ss : List α} {x : α} {xs : List V}
/-- x = [..], a list that shall grow -/
theorem q_newX (st : Stab S) [∀ a, Mon (R a)] (s : S n G H) (e : EvA S n k t σ G (RL R ss)) (hl : ss.length ≤ 100000)
    (h : ∀ D G1 H1 J, Stp S (n + k) G H G1 H1 → H1 D = none → LcQ S G1 H1 (n + k) D R ss J → u (Ends.mk nx rt bk ct) (σ.set i (some (.ref D))) J) :
    tSeq (tAsg (tLst t) (gName i)) u (Ends.mk nx rt bk ct) σ H := e G H (Same.refl _) s _ fun ws G1 H1 s1 ev => by
  refine ⟨by rw [rl_len ev]; exact Nat.le_trans hl (by decide), fun D hD => ?_⟩
  have gD : G1 D = none := (st.sub s1.s).free hD
  exact h D G1 H1 _ s1 hD ⟨G1, ws, ⟨Same.refl _, kp_new (Kp.refl H1) hD, st.chg s1.s hD s1.s gD, fun _ _ h => .inl h⟩, gD, upd_same, ev⟩
theorem LcQ.sub (st : Stab S) (h : LcQ S G1 H1 n D R ss J) : ∃ G3, Same G1 G3 ∧ S n G3 J := by
  obtain ⟨G3, acc, s3, _⟩ := h
  exact ⟨G3, s3.g, s3.s⟩
/-- the list is done -/
theorem LcQ.pub (st : Stab S) [∀ a, Mon (R a)] (a : S n0 G1 H1) (hn : n0 ≤ n) (hD : H1 D = none) (h : LcQ S G1 H1 n D R ss J) : ∃ G', Stp S n G1 H1 G' J ∧ IsNX G1 (RL R ss) (.ref D) G' :=
  lcq_end (Q := fun v H => ∃ G', Stp S n G1 H1 G' H ∧ IsNX G1 (RL R ss) v G') st (Stp.refl (st.wk a hn)) hD h fun v G' H' s r => ⟨G', s, r⟩
/-- for x in range(m), any invariant -/
theorem q_forI1 {m : Int} {ta : TA} (s : S n G H) (e : EvA S n k ta σ G (IsVs [.int m])) (h1 : -(2 ^ 62) ≤ m) (h2 : m < 2 ^ 62) (Pv : Nat → L2.St → Hp → Prop) (h0 : ∀ G' H', Stp S (n + k) G H G' H' → Pv 0 σ H')
    (hs : ∀ (j : Nat) σ' J, (j : Int) < m → Pv j σ' J → tb (Ends.mk (Pv (j + 1)) rt (u (Ends.mk nx rt bk ct)) (Pv (j + 1))) (σ'.set i (some (.int j))) J)
    (hd : ∀ σ' J, Pv m.toNat σ' J → u (Ends.mk nx rt bk ct) σ' J) : tSeq (tFor (iRng1 ta) (gName i) tb) u (Ends.mk nx rt bk ct) σ H := by
  refine e G H (Same.refl _) s _ fun v G1 H1 s1 ev => ⟨m, ev, h1, h2, for_range (lo := 0) (n := m.toNat) Pv (h0 _ _ s1) (fun j τ J hx hp => ?_) hd⟩
  show tb _ (τ.set i (some (.int (0 + j)))) J
  rw [Int.zero_add]
  exact hs j τ J (by omega) hp
/-- a method of a list -/
theorem ev_bmL {r : V → List V → Hp → VK → Prop} {Rr : HR} {RA : HRs} {ka kb : Nat} {to : TE} (st : Stab S) (h : Ev S n ka to σ G (IsV (.ref p))) (hp : SqL K G p xs) (ha : EvA S (n + ka) kb t σ G RA) (hr : ∀ vs G', Same G G' → RA vs G' → RC S (r (.ref p)) vs G' Rr) : Ev S n (ka + kb) (tBM K "list" r to t) σ G Rr := fun G1 H1 s0 s Q q =>
  h G1 H1 s0 s _ fun v G2 H2 s2 e => by
    obtain rfl : v = .ref p := e
    refine ⟨.inl ⟨rfl, xs, ((s0.trans s2.g).trans (st.sub s2.s)).seq hp⟩, ha G2 H2 (s0.trans s2.g) s2.s _ fun vs G3 H3 s3 e3 => ?_⟩
    exact hr vs G3 ((s0.trans s2.g).trans s3.g) e3 _ G3 H3 (Same.refl _) s3.s Q fun w G4 H4 s4 e4 => q w G4 H4 ((s2.trans s3).trans s4).up e4
theorem c_indexD (st : Stab S) {y : V} {d z : PyData} {ds : List PyData} {j : Nat} (hs : Dp K G (.ref p) (.list ds)) (hx : Dp K G y d) (sl : SeqAt.shaped (.list ds) = true) (sd : SeqAt.shaped d = true) (hz : ds[j]? = some z) (he : PyData.eqv z d = true) (hno : ∀ (m : Nat) (z' : PyData), m < j → ds[m]? = some z' → PyData.eqv z' d = false) :
    RC S (rIndexD K (.ref p)) [y] G (IsV (.int (j : Nat))) := rc_val (fun H s Q q => ⟨p, y, d, ds, j, z, rfl, rfl, dp_mon s hs, dp_mon s hx, sl, sd, hz, he, hno, q⟩) st
theorem v_neD (st : Stab S) {y z : V} {d e : PyData} (h1 : Dp K G y d) (h2 : Dp K G z e) (s1 : SeqAt.shaped d = true) (s2 : SeqAt.shaped e = true) : RV S (rNeA K) y z G (IsV (.bl (!PyData.eqv d e))) :=
  rv_r (rv_val (fun H s Q k => ⟨_, _, dp_mon s h1, dp_mon s h2, s1, s2, k⟩) st)
end
end L2.DS
/-! Spans as the law tells them: lists, the empty one is never. -/
namespace L2.DS
open PySem PySem.Spec PyProof.Rows
abbrev OS := Option (Int × Int)
def lsv : OS → List V
  | none => [] | some s => [.int s.1, .int s.2]
def IsLs (o : OS) : HR := fun v G => ∃ p, v = .ref p ∧ G p = some (.lst (lsv o))
instance (o) : Mon (IsLs o) := ⟨fun t ⟨p, e, h⟩ => ⟨p, e, t _ _ h⟩⟩
def lspans (m : Nat) : List OS := none :: (spansL m).map some
def lpl (m : Nat) (o : OS) : Nat := (lspans m).idxOf o
end L2.DS
/-! A scale of any family, made and asked. -/
namespace L2.DS
open PySem PySem.Spec PyProof.Rows
def metF : List Str := ["then_at", "join_at", "within_at", "name_at", "at_name"]
/-- a scale of the class at C stands at x -/
def ScC (C x : Addr) (label : Str) (names : List Str) (nv sl dep : Int) (th jn : Nat → Nat → Int) (G : Hp) : Prop := ∃ dx fs, G x = some (.ins C dx fs) ∧ ScIs label names nv sl dep th jn fs G ∧ ∀ f ∈ metF, fs.lookup f = none
section
variable {C x : Addr} {label : Str} {names : List Str} {nv sl dep : Int} {th jn : Nat → Nat → Int} {G G' : Hp} {K : PySem.W.Frag}
theorem ScC.mono (h : ScC C x label names nv sl dep th jn G) (s : Same G G') : ScC C x label names nv sl dep th jn G' :=
  let ⟨dx, fs, a, b, c⟩ := h
  ⟨dx, fs, s _ _ a, b.mono s, c⟩
theorem ScC.sc (h : ScC C x label names nv sl dep th jn G) (hC : Cls K C) (hN : ∀ f ∈ scF, NoAttr K C f) : ScAt K label names nv sl dep th jn x G :=
  let ⟨dx, fs, a, b, _⟩ := h
  ⟨C, dx, fs, a, hC, hN, b⟩
theorem ScC.of {R : OR} {v : V} (h : IsO C R v G) (i : ∀ a b fs' G', R a b fs' G' → ScIs label names nv sl dep th jn fs' G' ∧ ∀ f ∈ metF, fs'.lookup f = none) : ∃ x, v = .ref x ∧ ScC C x label names nv sl dep th jn G := by
  obtain ⟨x, dx, fs, G', rfl, gx, s, a⟩ := h
  have s' : Same G' G := fun c o e => s c o (by rw [upd_ne (ne_of_none e gx)]; exact e)
  obtain ⟨b, c⟩ := i _ _ _ _ a
  exact ⟨x, rfl, dx, fs, s _ _ upd_same, b.mono s', c⟩
variable {S : SR} {n k ka kb : Nat} {ta tb : TE} {σ : L2.St} {i : Nat} {P : Program} {w : World} {mg : Str → Option Value} {base : Heap}
end
end L2.DS
/-! Loops whose turns leave the heap; comprehensions with tests; readings of several kinds; bits. -/
namespace L2.DS
open PySem PySem.Spec PyProof.Rows
section
variable {α : Type} {R : α → HR} {S : SR} {n n0 k c1 : Nat} {te el : TE} {tt : TT} {t ta : TA} {tb u : TS} {σ : L2.St} {G H G1 H1 J : Hp} {nx bk ct : L2.St → Hp → Prop} {rt : VK} {i j : Nat} {K : PySem.W.Frag} {D p : Addr} {ss : List α} {x : α} {xs : List V} {vs : List Nat} {g : TG}
theorem et_yes : EvT S n 0 tYes σ G (fun c => c = true) := fun G1 H1 _ s Q q => tYes_run (q true G1 H1 (Stp.refl s) rfl)
theorem Stp.go {H' : Hp} (a : Stp S n0 G H G J) (k : Kp S J H') (s : S n G H') : Stp S n G H G H' := ⟨Same.refl _, a.k.trans k, s, fun _ _ h => .inl h⟩
theorem Stp.go0 {H' : Hp} (k : Kp S H H') (s : S n G H') : Stp S n G H G H' := ⟨Same.refl _, k, s, fun _ _ h => .inl h⟩
/-- for x in range(m): the turns change locals alone -/
theorem q_forP {m : Int} (st : Stab S) (s : S n G H) (e : EvA S n k ta σ G (IsVs [.int m])) (h1 : -(2 ^ 62) ≤ m) (h2 : m < 2 ^ 62) (Pv : Nat → L2.St → Prop) (h0 : Pv 0 σ)
    (hs : ∀ (j : Nat) σ' J, (j : Int) < m → Pv j σ' → Stp S (n + k) G H G J → tb (Ends.mk (fun τ J => Pv (j + 1) τ ∧ Stp S (n + k) G H G J) rt (u (Ends.mk nx rt bk ct)) (fun τ J => Pv (j + 1) τ ∧ Stp S (n + k) G H G J)) (σ'.set i (some (.int j))) J)
    (hd : ∀ σ' J, Pv m.toNat σ' → Stp S (n + k) G H G J → u (Ends.mk nx rt bk ct) σ' J) : tSeq (tFor (iRng1 ta) (gName i) tb) u (Ends.mk nx rt bk ct) σ H := by
  refine e G H (Same.refl _) s _ fun v G1 H1 s1 ev => ⟨m, ev, h1, h2, for_range (lo := 0) (n := m.toNat) (fun j τ J => Pv j τ ∧ Stp S (n + k) G H G J) ⟨h0, Stp.go0 s1.k (st.anti s s1.s s1.g)⟩ (fun j τ J hx hp => ?_) fun τ J hp => hd τ J hp.1 hp.2⟩
  show tb _ (τ.set i (some (.int (0 + j)))) J
  rw [Int.zero_add]
  exact hs j τ J (by omega) hp.1 hp.2
/-- for .. in xs, any target: the turns change locals alone -/
theorem q_forPL (st : Stab S) (s : S n G H) (e : Ev S n k te σ G (IsV (.ref p))) (hq : SqL K G p xs) (Pv : Nat → L2.St → Prop) (h0 : Pv 0 σ)
    (hs : ∀ (j : Nat) x σ' J, xs[j]? = some x → Pv j σ' → Stp S (n + k) G H G J → g x σ' J fun σ2 J2 => tb (Ends.mk (fun τ J => Pv (j + 1) τ ∧ Stp S (n + k) G H G J) rt (u (Ends.mk nx rt bk ct)) (fun τ J => Pv (j + 1) τ ∧ Stp S (n + k) G H G J)) σ2 J2)
    (hd : ∀ σ' J, Pv xs.length σ' → Stp S (n + k) G H G J → u (Ends.mk nx rt bk ct) σ' J) : tSeq (tFor (iList K te) g tb) u (Ends.mk nx rt bk ct) σ H := by
  refine e G H (Same.refl _) s _ fun v G1 H1 s1 ev => ?_
  have z := st.anti s s1.s s1.g
  refine ⟨p, ev, ⟨xs, Same.seq (st.sub z) hq⟩, for_list (K := K) (a := p) (xs := xs) (fun j τ J => Pv j τ ∧ Stp S (n + k) G H G J) ⟨h0, Stp.go0 s1.k z⟩ (fun j τ J _ hp => (st.sub hp.2.s).seq hq) (fun j x τ J hx hp => hs j x τ J hx hp.1 hp.2) fun τ J hp => hd τ J hp.1 hp.2⟩
/-- for .. in e, e a list that is made for it: G2 tells what stands behind it -/
theorem q_forPX {RA : HRs} [Mons RA] (st : Stab S) (s : S n G H) (e : Ev S n k te σ G (IsLX RA)) (Pv : Nat → L2.St → Prop) (h0 : Pv 0 σ)
    (hb : ∀ p xs G2 H2, Stp S (n + k) G H G2 H2 → G2 p = some (.lst xs) → RA xs G2 →
    (∀ (j : Nat) x σ' J, xs[j]? = some x → Pv j σ' → Stp S (n + k) G2 H2 G2 J → g x σ' J fun σ2 J2 => tb (Ends.mk (fun τ J => Pv (j + 1) τ ∧ Stp S (n + k) G2 H2 G2 J) rt (u (Ends.mk nx rt bk ct)) (fun τ J => Pv (j + 1) τ ∧ Stp S (n + k) G2 H2 G2 J)) σ2 J2) ∧
    ∀ σ' J, Pv xs.length σ' → Stp S (n + k) G2 H2 G2 J → u (Ends.mk nx rt bk ct) σ' J) : tSeq (tFor (iList K te) g tb) u (Ends.mk nx rt bk ct) σ H := by
  refine e G H (Same.refl _) s _ fun v G1 H1 s1 ev => ?_
  obtain ⟨p, xs, rfl, gp, ra⟩ := ev
  obtain ⟨hs, hd⟩ := hb p xs G1 H1 s1 gp ra
  have hq : SqL K G1 p xs := SqL.of gp
  refine ⟨p, rfl, ⟨xs, Same.seq (st.sub s1.s) hq⟩, for_list (K := K) (a := p) (xs := xs) (fun j τ J => Pv j τ ∧ Stp S (n + k) G1 H1 G1 J) ⟨h0, Stp.refl s1.s⟩ (fun j τ J _ hp => (st.sub hp.2.s).seq hq) (fun j x τ J hx hp => hs j x τ J hx hp.1 hp.2) fun τ J hp => hd τ J hp.1 hp.2⟩
/-- a turn of a comprehension with a test -/
theorem lcq_test (st : Stab S) [∀ a, Mon (R a)] {G2 H2 J : Hp} {D : Addr} {ss : List α} {x : α} {b : Bool} {Nx : Hp → Prop} (a : S n G2 H2) (hD : H2 D = none) (h : LcQ S G2 H2 n D R ss J) (hl : ss.length < 100000)
    (ht : ∀ G', Same G2 G' → EvT S n 0 tt σ G' (fun c => c = b)) (hs : b = true → ∀ G', Same G2 G' → Ev S n 0 el σ G' (R x)) (hN : ∀ J', LcQ S G2 H2 n D R (if b then ss ++ [x] else ss) J' → Nx J') :
    tt σ J fun b H3 => if b = true then el σ H3 fun y H4 => ∃ acc, H4 D = some (.lst acc) ∧ acc.length < sizeLine ∧ Nx (upd H4 D (.lst (acc ++ [y]))) else Nx H3 := by
  obtain ⟨G3, acc, s3, c, d, r⟩ := id h
  refine ht G3 s3.g G3 J (Same.refl _) s3.s _ fun c' G4 H4 s4 e => ?_
  have e : c' = b := e
  subst e
  have h4 : LcQ S G2 H2 n D R ss H4 := lcq_move st a hD s3 c d r s4
  cases c' with
  | true => exact iteT (lcq_step st a hD h4 hl (hs rfl) hN)
  | false => exact iteF (hN _ h4)
theorem filt_step {b : Nat → Bool} {sj : Nat → α} (j : Nat) : ((List.range (j + 1)).filter b).map sj = if b j then ((List.range j).filter b).map sj ++ [sj j] else ((List.range j).filter b).map sj := by
  rw [List.range_succ, List.filter_append, List.map_append]
  by_cases h : b j
  · rw [if_pos h, List.filter_cons_of_pos h]
    rfl
  · rw [if_neg h, List.filter_cons_of_neg h]
    simp
theorem filt_len {b : Nat → Bool} {sj : Nat → α} (j : Nat) : (((List.range j).filter b).map sj).length ≤ j := by
  rw [List.length_map]
  have := List.length_filter_le b (List.range j)
  rw [List.length_range] at this
  exact this
/-- [el for .. in xs if tt], any target -/
theorem ev_lcF (st : Stab S) [∀ a, Mon (R a)] {b : Nat → Bool} {sj : Nat → α} {σf : Nat → L2.St} (e : Ev S n k te σ G (IsV (.ref p))) (hq : SqL K G p xs) (hl : xs.length ≤ 100000)
    (hg : ∀ j x G' J, xs[j]? = some x → Same G G' → Same G' J → ∀ Q : L2.St → Hp → Prop, Q (σf j) J → g x (wipe σ vs) J Q) (hw : ∀ j, wipe (σf j) vs = wipe σ vs)
    (ht : ∀ j x G', xs[j]? = some x → Same G G' → EvT S (n + k) 0 tt (σf j) G' (fun c => c = b j))
    (hs : ∀ j x G', xs[j]? = some x → b j = true → Same G G' → Ev S (n + k) 0 el (σf j) G' (R (sj j))) : Ev S n k (tLc (iList K te) g tt el vs) σ G (IsNX G (RL R (((List.range xs.length).filter b).map sj))) := fun G1 H1 s0 s Q q =>
  e G1 H1 s0 s _ fun v G2 H2 s2 ev => ⟨p, ev, ⟨xs, Same.seq (s0.trans (s2.g.trans (st.sub s2.s))) hq⟩, fun D hD =>
    lc_list (K := K) (a := p) (xs := xs) (fun j J => LcQ S G2 H2 (n + k) D R (((List.range j).filter b).map sj) J) (lcq_start st s2.s hD) (fun j J _ ⟨G3, acc, a, _⟩ => ((s0.trans s2.g).trans (a.g.trans (st.sub a.s))).seq hq)
      (fun j x J hx' h => by
        have hj : j < xs.length := (List.getElem?_eq_some_iff.mp hx').1
        obtain ⟨G3, acc, a, _⟩ := id h
        refine hg j x G3 J hx' ((s0.trans s2.g).trans a.g) (st.sub a.s) _ ⟨hw j, ?_⟩
        have hll := filt_len (b := b) (sj := sj) j
        refine lcq_test (b := b j) (x := sj j) (Nx := fun J => LcQ S G2 H2 (n + k) D R (((List.range (j + 1)).filter b).map sj) J) st s2.s hD h (by omega) (fun G' g' => ht j x G' hx' ((s0.trans s2.g).trans g')) (fun hb G' g' => hs j x G' hx' hb ((s0.trans s2.g).trans g')) fun J' h' => ?_
        rw [filt_step]
        exact h')
      fun J h => by
        refine lcq_end st s2 hD h fun v G' H' s' r => q v G' H' s' ?_
        obtain ⟨p', ys, e1, e2, e3, e4⟩ := r
        exact ⟨p', ys, e1, s0.free e2, e3, e4⟩⟩
/-- [el for x in range(m) if tt] -/
theorem ev_lcFR (st : Stab S) [∀ a, Mon (R a)] {m : Int} {b : Nat → Bool} {sj : Nat → α} {σf : Nat → L2.St} (e : EvA S n k ta σ G (IsVs [.int m])) (h1 : -(2 ^ 62) ≤ m) (hl : m ≤ 100000)
    (hg : ∀ j J, ∀ Q : L2.St → Hp → Prop, Q (σf j) J → g (.int (j : Nat)) (wipe σ vs) J Q) (hw : ∀ j, wipe (σf j) vs = wipe σ vs)
    (ht : ∀ (j : Nat) G', (j : Int) < m → Same G G' → EvT S (n + k) 0 tt (σf j) G' (fun c => c = b j))
    (hs : ∀ (j : Nat) G', (j : Int) < m → b j = true → Same G G' → Ev S (n + k) 0 el (σf j) G' (R (sj j))) : Ev S n k (tLc (iRng1 ta) g tt el vs) σ G (IsNX G (RL R (((List.range m.toNat).filter b).map sj))) := fun G1 H1 s0 s Q q =>
  e G1 H1 s0 s _ fun v G2 H2 s2 ev => ⟨m, ev, h1, by omega, fun D hD =>
    lc_range (lo := 0) (n := m.toNat) (fun j J => LcQ S G2 H2 (n + k) D R (((List.range j).filter b).map sj) J) (lcq_start st s2.s hD)
      (fun j J hx' h => by
        show g (.int (0 + (j : Nat))) _ _ _
        rw [Int.zero_add]
        refine hg j J _ ⟨hw j, ?_⟩
        have hll := filt_len (b := b) (sj := sj) j
        refine lcq_test (b := b j) (x := sj j) (Nx := fun J => LcQ S G2 H2 (n + k) D R (((List.range (j + 1)).filter b).map sj) J) st s2.s hD h (by omega) (fun G' g' => ht j G' (by omega) ((s0.trans s2.g).trans g')) (fun hb G' g' => hs j G' (by omega) hb ((s0.trans s2.g).trans g')) fun J' h' => ?_
        rw [filt_step]
        exact h')
      fun J h => by
        refine lcq_end st s2 hD h fun v G' H' s' r => q v G' H' s' ?_
        obtain ⟨p', ys, e1, e2, e3, e4⟩ := r
        exact ⟨p', ys, e1, s0.free e2, e3, e4⟩⟩
/-- values alone -/
theorem isNX_V {F : Hp} {f : α → V} {v : V} (h : IsNX F (RL (fun a => IsV (f a)) ss) v G) : IsNew F (.lst (ss.map f)) v G := by
  obtain ⟨p, xs, e, a, b, r⟩ := h
  rw [rl_vals r] at b
  exact ⟨p, e, a, b⟩
theorem filt_true {m : Nat} {sj : Nat → α} : ((List.range m).filter fun _ => true).map sj = (List.range m).map sj := by
  rw [List.filter_eq_self.mpr fun _ _ => rfl]
/-- [el for x in range(m)], values -/
theorem ev_lcV (st : Stab S) {m : Int} {f : Nat → V} (e : EvA S n k ta σ G (IsVs [.int m])) (h1 : -(2 ^ 62) ≤ m) (hl : m ≤ 100000) (hw : ∀ x : V, wipe ((wipe σ vs).set i (some x)) vs = wipe σ vs)
    (hs : ∀ (j : Nat) G', (j : Int) < m → Same G G' → Ev S (n + k) 0 el ((wipe σ vs).set i (some (.int j))) G' (IsV (f j))) : Ev S n k (tLc (iRng1 ta) (gName i) tYes el vs) σ G (IsNew G (.lst ((List.range m.toNat).map f))) := by
  refine (ev_lcFR (R := fun v : V => IsV v) (b := fun _ => true) (sj := f) (σf := fun j => (wipe σ vs).set i (some (.int j))) st e h1 hl (fun j J Q q => q) (fun j => hw _) (fun j G' _ _ => et_yes) (fun j G' hj _ s' => hs j G' hj s')).imp fun v G' _ h => ?_
  rw [filt_true] at h
  have z := isNX_V (f := fun v : V => v) h
  rw [List.map_id'] at z
  exact z
/-- [el for x in xs], values -/
theorem ev_lcVL (st : Stab S) {f : V → V} (e : Ev S n k te σ G (IsV (.ref p))) (hq : SqL K G p xs) (hl : xs.length ≤ 100000) (hw : ∀ x : V, wipe ((wipe σ vs).set i (some x)) vs = wipe σ vs)
    (hs : ∀ (j : Nat) x G', xs[j]? = some x → Same G G' → Ev S (n + k) 0 el ((wipe σ vs).set i (some x)) G' (IsV (f x))) : Ev S n k (tLc (iList K te) (gName i) tYes el vs) σ G (IsNew G (.lst (xs.map f))) := by
  refine (ev_lcF (R := fun v : V => IsV v) (b := fun _ => true) (sj := fun j => f (xs.getD j .non)) (σf := fun j => (wipe σ vs).set i (some (xs.getD j .non))) st e hq hl (fun j x G' J hx _ _ Q q => ?_) (fun j => hw _) (fun j x G' _ _ => et_yes) (fun j x G' hx _ s' => ?_)).imp fun v G' _ h => ?_
  · have e : xs.getD j .non = x := by rw [List.getD_eq_getElem?_getD, hx]; rfl
    rw [e] at q
    exact q
  · have e : xs.getD j .non = x := by rw [List.getD_eq_getElem?_getD, hx]; rfl
    rw [e]
    exact hs j x G' hx s'
  · rw [filt_true] at h
    have z := isNX_V (f := fun v : V => v) h
    rw [List.map_id'] at z
    have e : (List.range xs.length).map (fun j => f (xs.getD j .non)) = xs.map f := by
      refine List.ext_getElem? fun j => ?_
      rw [List.getElem?_map, List.getElem?_map]
      by_cases hj : j < xs.length
      · rw [List.getElem?_range hj, List.getElem?_eq_getElem hj]
        show some (f (xs.getD j .non)) = _
        rw [List.getD_eq_getElem?_getD, List.getElem?_eq_getElem hj]
        rfl
      · rw [List.getElem?_eq_none (by rw [List.length_range]; omega), List.getElem?_eq_none (by omega)]
        rfl
    rw [e] at z
    exact z
/-- [el for x in e], values, e newly made -/
theorem ev_lcVX (st : Stab S) {f : V → V} (e : Ev S n k te σ G (IsL K xs)) (hl : xs.length ≤ 100000) (hw : ∀ x : V, wipe ((wipe σ vs).set i (some x)) vs = wipe σ vs)
    (hs : ∀ (j : Nat) x G', xs[j]? = some x → Same G G' → Ev S (n + k) 0 el ((wipe σ vs).set i (some x)) G' (IsV (f x))) : Ev S n (k + 0) (tLc (iList K te) (gName i) tYes el vs) σ G (IsNew G (.lst (xs.map f))) := fun G1 H1 s0 s Q q =>
  e G1 H1 s0 s _ fun v G2 H2 s2 ⟨p, ev, hp⟩ => by
    subst ev
    exact ⟨p, rfl, ⟨xs, Same.seq (st.sub s2.s) hp⟩, fun D hD =>
      lc_list (K := K) (a := p) (xs := xs) (fun j J => LcQ S G2 H2 (n + k) D (fun v : V => IsV v) ((xs.take j).map f) J) (lcq_start st s2.s hD) (fun j J _ ⟨G3, acc, a, _⟩ => (a.g.trans (st.sub a.s)).seq hp)
        (fun j x J hx' h => by
          have hj : j < xs.length := (List.getElem?_eq_some_iff.mp hx').1
          obtain ⟨G3, acc, a, _⟩ := id h
          refine ⟨hw x, tYes_run (iteT ?_)⟩
          refine lcq_step (x := f x) (Nx := fun J => LcQ S G2 H2 (n + k) D (fun v : V => IsV v) ((xs.take (j + 1)).map f) J) st s2.s hD h (by rw [List.length_map, List.length_take]; omega) (fun G' g' => hs j x G' hx' ((s0.trans s2.g).trans g')) fun J' h' => ?_
          rw [List.take_succ_eq_append_getElem hj, List.map_append]
          have e : xs[j] = x := by rw [List.getElem?_eq_getElem hj] at hx'; exact Option.some.inj hx'
          rw [e]
          exact h')
        fun J h => by
          rw [List.take_length] at h
          refine lcq_end st s2 hD h fun v G' H' s' r => q v G' H' s' ?_
          obtain ⟨p', ys, e1, e2, e3, e4⟩ := r
          rw [rl_vals (g := fun v : V => v) e4, List.map_id'] at e3
          exact ⟨p', e1, s0.free e2, e3⟩⟩
theorem ev_eq {y z : V} (h : y = z) (e : Ev S n k te σ G (IsV y)) : Ev S n k te σ G (IsV z) := h ▸ e
theorem map_get {β : Type} {f : α → β} {xs : List α} {j : Nat} {y : β} (h : (xs.map f)[j]? = some y) : ∃ hj : j < xs.length, y = f xs[j] := by
  rw [List.getElem?_map] at h
  cases e : xs[j]? with
  | none => rw [e] at h; cases h
  | some x =>
    rw [e] at h
    obtain ⟨hj, hx⟩ := List.getElem?_eq_some_iff.mp e
    exact ⟨hj, by rw [hx]; exact (Option.some.inj h).symm⟩
end
/-! ### readings of one of two kinds -/
/-! ### bits -/
section
variable {S : SR} {n k : Nat} {te ta : TE} {σ : L2.St} {K : PySem.W.Frag} {G : Hp} {i j : Int}
theorem v_shl (st : Stab S) (h : CPow i j) : RV S (rI CPow fun i j => .int (i * 2 ^ j.toNat)) (.int i) (.int j) G (IsV (.int (i * 2 ^ j.toNat))) := rv_I st h
theorem v_shr (st : Stab S) (h : 0 ≤ j) : RV S (rI (fun _ j => 0 ≤ j) fun i j => .int (i / 2 ^ j.toNat)) (.int i) (.int j) G (IsV (.int (i / 2 ^ j.toNat))) := rv_I st h
theorem v_band (st : Stab S) : RV S (rI0 fun i j => .int (Builtin.bitAnd i j)) (.int i) (.int j) G (IsV (.int (Builtin.bitAnd i j))) := rv_I0 st
theorem v_bor (st : Stab S) : RV S (rI0 fun i j => .int (Builtin.bitOr i j)) (.int i) (.int j) G (IsV (.int (Builtin.bitOr i j))) := rv_I0 st
end
/-! ### str.join -/
def rJoinK (K : PySem.W.Frag) : V → List V → Hp → VK → Prop := fun x xs H Q => ∃ a p, ∃ ys : List Str, x = .str a ∧ xs = [.ref p] ∧ (SqL K H p (ys.map V.str) ∨ SqT K H p (ys.map V.str)) ∧ (ys.map (·.length)).sum + ys.length * a.length ≤ 16777216 ∧ Q (.str (Txt.join a ys)) H
theorem pe_joinK {X : Cx} (K : PySem.W.Frag) {o e : Expr} {to te : TE} {apos pos : Pos} (ho : PE X o to) (he : PE X e te) (hs : starEach [e] X.env = [(false, eval e X.env)] := by rfl) (hbase : attributeBase o "join" X.env (eval o X.env) = eval o X.env := by rfl) (hline : (apos.endLine == pos.line) = true := by rfl) (hK : X.K = K := by rfl) :
    PE X (.Call (.Attribute o "join" apos) [e] [] pos) (tM1 (rJoinK K) to te) := by
  subst hK
  exact pe_join ho he hs hbase hline
section
variable {S : SR} {n k ka kb : Nat} {to te : TE} {σ : L2.St} {K : PySem.W.Frag} {G : Hp} {a : Str} {ys : List Str}
theorem ev_join (st : Stab S) (ho : Ev S n ka to σ G (IsV (.str a))) (he : Ev S (n + ka) kb te σ G (IsL K (ys.map V.str))) (hl : (ys.map (·.length)).sum + ys.length * a.length ≤ 16777216) : Ev S n (ka + kb) (tM1 (rJoinK K) to te) σ G (IsV (.str (Txt.join a ys))) := fun G1 H1 s0 s Q q =>
  ho G1 H1 s0 s _ fun v G2 H2 s2 e => ⟨⟨a, e⟩, he G2 H2 (s0.trans s2.g) s2.s _ fun w G3 H3 s3 ⟨p, e', hp⟩ => by
    obtain rfl : v = _ := e
    subst e'
    exact ⟨a, p, ys, rfl, rfl, .inl ((st.sub s3.s).seq hp), hl, q _ G3 H3 (s2.trans s3).up rfl⟩⟩
end
/-- a scale of the class at C -/
def IsSc (C : Addr) (label : Str) (names : List Str) (nv sl dep : Int) (th jn : Nat → Nat → Int) : HR := fun v G => ∃ x, v = .ref x ∧ ScC C x label names nv sl dep th jn G
instance (C label names nv sl dep th jn) : Mon (IsSc C label names nv sl dep th jn) := ⟨fun s ⟨x, e, h⟩ => ⟨x, e, h.mono s⟩⟩
end L2.DS
/-! Scales of sets and of relations; bits as the law tells them. -/
namespace L2.DS
open PySem PySem.Spec PyProof.Rows
/-- digits_of(number, width) -/
def digs : Nat → Int → Str
  | 0, _ => ("" : Str)
  | w + 1, n => (toString (Builtin.bitAnd (n / 2 ^ w) 1) : Str) ++ digs w n
theorem bit1 (x : Int) (h : 0 ≤ x) : Builtin.bitAnd x 1 = x % 2 := by
  unfold Builtin.bitAnd
  rw [decide_eq_true h]
  show ((x.toNat &&& 1 : Nat) : Int) = _
  rw [Nat.and_one_is_mod]
  omega
def joinS (may : Bool) : Str := if may then "may" else "must"
/-- scales of sets -/
def tth (a b : Nat) : Int := if a = 0 ∨ b = 0 then 0 else Builtin.bitOr ((a : Int) - 1) ((b : Int) - 1) + 1
def teit (may : Bool) (x y : Int) : Int := if may then Builtin.bitOr x y else Builtin.bitAnd x y
def tjn (may : Bool) (a b : Nat) : Int := if a = 0 ∨ b = 0 then (a : Int) + b else teit may ((a : Int) - 1) ((b : Int) - 1) + 1
def twords (c : Nat) : List Str := (List.range (2 ^ c)).map fun i => digs c (i : Nat)
def tlabel (c : Int) (may : Bool) : Str := (((("(set " : Str) ++ (toString c : Str)) ++ (" " : Str)) ++ joinS may) ++ (")" : Str)
theorem twords_nodup : ∀ c, c < 6 → (("never" : Str) :: twords c).Nodup := by decide +kernel
theorem tlabel_len : ∀ c : Nat, c < 6 → ∀ may, (("(set " : Str) ++ (toString ((c : Nat) : Int) : Str)).length ≤ 100 ∧ ((("(set " : Str) ++ (toString ((c : Nat) : Int) : Str)) ++ (" " : Str)).length ≤ 100 ∧ (((("(set " : Str) ++ (toString ((c : Nat) : Int) : Str)) ++ (" " : Str)) ++ joinS may).length ≤ 100 ∧ (tlabel (c : Nat) may).length ≤ 100 := by decide +kernel
theorem bor_lt : ∀ c, c < 6 → ∀ x, x < 2 ^ c → ∀ y, y < 2 ^ c → 0 ≤ Builtin.bitOr (x : Nat) (y : Nat) ∧ Builtin.bitOr (x : Nat) (y : Nat) < 2 ^ c := by decide +kernel
theorem band_lt : ∀ c, c < 6 → ∀ x, x < 2 ^ c → ∀ y, y < 2 ^ c → 0 ≤ Builtin.bitAnd (x : Nat) (y : Nat) ∧ Builtin.bitAnd (x : Nat) (y : Nat) < 2 ^ c := by decide +kernel
/-! scales of relations -/
def arr (s : Nat) (p : Int) : List (Int × Int) := ((List.range (s * s)).filter fun c => decide (Builtin.bitAnd (p / 2 ^ (((s : Int) * s - 1 - (c : Nat)).toNat)) 1 = 1)).map fun c => (((c : Nat) : Int) / (s : Nat), ((c : Nat) : Int) % (s : Nat))
def wput (s : Nat) (f : Int) (p q : Int × Int) : Int := if p.2 = q.1 then Builtin.bitOr f (1 * 2 ^ (((s : Int) * s - 1 - p.1 * s - q.2).toNat)) else f
def wth (s a b : Nat) : Int := (arr s a).foldl (fun f p => (arr s b).foldl (fun f q => wput s f p q) f) 0
def wjn (a b : Nat) : Int := Builtin.bitOr (a : Nat) (b : Nat)
def wwords (s : Nat) : List Str := (List.range (2 ^ (s * s))).map fun i => digs (s * s) (i : Nat)
def wstill (s : Nat) : Int := ((List.range s).map fun k => (1 * 2 ^ (((s : Int) * s - 1 - (k : Nat) * ((s : Int) + 1)).toNat) : Int)).sum
def wlabel (s : Int) : Str := (("(watch " : Str) ++ (toString s : Str)) ++ (")" : Str)
theorem wwords_nodup : ∀ s, s < 3 → (wwords s).Nodup := by decide +kernel
theorem wlabel_len : ∀ s : Nat, s < 3 → (("(watch " : Str) ++ (toString ((s : Nat) : Int) : Str)).length ≤ 100 ∧ (wlabel (s : Nat)).length ≤ 100 := by decide +kernel
/-! the law's own bits -/
end L2.DS
/-! Tables: texts sign by sign, all and any, dicts of places; lists that are changed behind what stands. -/
namespace L2.DS
open PySem PySem.Spec PyProof.Rows
/-! ### texts -/
theorem lc_str {x : Str} {g : TG} {tt : TT} {te : TE} {vs : List Nat} {σ : L2.St} {H1 : Hp} {D : Addr} {Qd : Hp → Prop} (Pv : Nat → Hp → Prop) (h0 : Pv 0 (upd H1 D (.lst [])))
    (hs : ∀ (i : Nat) c H, x.cps[i]? = some c → Pv i H → g (.str ⟨#[c]⟩) (wipe σ vs) H fun σ2 H2 => wipe σ2 vs = wipe σ vs ∧ tt σ2 H2 fun b H3 =>
      if b = true then te σ2 H3 fun y H4 => ∃ acc, H4 D = some (.lst acc) ∧ acc.length < sizeLine ∧ Pv (i + 1) (upd H4 D (.lst (acc ++ [y]))) else Pv (i + 1) H3) (hd : ∀ H, Pv x.cps.size H → Qd H) :
    ∃ W : Nat → Nat → Hp → Prop, (∃ m, W 0 m (upd H1 D (.lst []))) ∧ ∀ i m H, W i m H →
      ((Its x).stop i H ∧ Qd H) ∨ ((Its x).go i H ∧ ∃ Nx : Hp → Prop, (∀ H', Nx H' → ∃ m', m' < m ∧ W (i + 1) m' H') ∧ ∀ v H', (Its x).yld i H v H' → g v (wipe σ vs) H' fun σ2 H2 => wipe σ2 vs = wipe σ vs ∧ tt σ2 H2 fun b H3 =>
        if b = true then te σ2 H3 fun y H4 => ∃ acc, H4 D = some (.lst acc) ∧ acc.length < sizeLine ∧ Nx (upd H4 D (.lst (acc ++ [y]))) else Nx H3) := by
  refine ⟨fun i m H => m = x.cps.size - i ∧ i ≤ x.cps.size ∧ Pv i H, ⟨x.cps.size, by simp, Nat.zero_le _, h0⟩, ?_⟩
  rintro i m H ⟨rfl, hi, p⟩
  by_cases hlt : i < x.cps.size
  · refine .inr ⟨hlt, Pv (i + 1), fun H' p' => ⟨x.cps.size - (i + 1), by omega, rfl, hlt, p'⟩, fun v H' y => ?_⟩
    obtain ⟨rfl, c, hc, rfl⟩ := y
    exact hs i c _ hc p
  · have e : i = x.cps.size := by omega
    subst e
    exact .inl ⟨Nat.le_refl _, hd H p⟩
section
variable {S : SR} {n k ka kb : Nat} {te el ta : TE} {t : TA} {σ : L2.St} {G : Hp} {K : PySem.W.Frag} {i j : Nat} {z : Str} {vs : List Nat} {p : Addr} {xs : List V}
/-- [el for c in z], values -/
theorem ev_lcS (st : Stab S) {f : Nat → V} (e : Ev S n k te σ G (IsV (.str z))) (hl : z.length ≤ 100000) (hw : ∀ x : V, wipe ((wipe σ vs).set i (some x)) vs = wipe σ vs)
    (hs : ∀ c G', c ∈ z.cps.toList → Same G G' → Ev S (n + k) 0 el ((wipe σ vs).set i (some (.str ⟨#[c]⟩))) G' (IsV (f c))) : Ev S n k (tLc (iStr te) (gName i) tYes el vs) σ G (IsNew G (.lst (z.cps.toList.map f))) := fun G1 H1 s0 s Q q =>
  e G1 H1 s0 s _ fun v G2 H2 s2 ev => ⟨z, ev, fun D hD =>
    lc_str (x := z) (fun j J => LcQ S G2 H2 (n + k) D (fun v : V => IsV v) ((z.cps.toList.take j).map f) J) (lcq_start st s2.s hD)
      (fun j c J hc h => by
        have hj : j < z.cps.size := (Array.getElem?_eq_some_iff.mp hc).1
        have hcl : z.cps.toList[j]? = some c := by rw [Array.getElem?_toList]; exact hc
        refine ⟨hw _, tYes_run (iteT ?_)⟩
        refine lcq_step (x := f c) (Nx := fun J => LcQ S G2 H2 (n + k) D (fun v : V => IsV v) ((z.cps.toList.take (j + 1)).map f) J) st s2.s hD h (by rw [List.length_map, List.length_take]; have : z.cps.toList.length = z.length := rfl; have : z.cps.size = z.length := rfl; omega) (fun G' g' => hs c G' (List.mem_of_getElem? hcl) ((s0.trans s2.g).trans g')) fun J' h' => ?_
        rw [List.take_succ, hcl, List.map_append]
        exact h')
      fun J h => by
        rw [show z.cps.size = z.cps.toList.length from rfl, List.take_length] at h
        refine lcq_end st s2 hD h fun v G' H' s' r => q v G' H' s' ?_
        obtain ⟨p', ys, e1, e2, e3, e4⟩ := r
        rw [rl_vals (g := fun v : V => v) e4, List.map_id'] at e3
        exact ⟨p', e1, s0.free e2, e3⟩⟩
theorem v_inS (st : Stab S) {y : Str} : RV S (fun x y H Q => ∃ i j, x = .str i ∧ y = .str j ∧ Q (.bl (!(Builtin.Str.occurrences j i 0 j.length 1).isEmpty)) H) (.str y) (.str z) G (IsV (.bl (!(Builtin.Str.occurrences z y 0 z.length 1).isEmpty))) := rv_val (fun H _ Q q => ⟨y, z, rfl, rfl, q⟩) st
theorem c_all (st : Stab S) {bs : List Bool} (h : SqL K G p (bs.map V.bl)) : RC S (rAll K) [.ref p] G (IsV (.bl (bs.all id))) := rc_val (fun H s Q q => ⟨p, bs, rfl, s.seq h, q⟩) st
theorem c_any (st : Stab S) {bs : List Bool} (h : SqL K G p (bs.map V.bl)) : RC S (rAny K) [.ref p] G (IsV (.bl (bs.any id))) := rc_val (fun H s Q q => ⟨p, bs, rfl, s.seq h, q⟩) st
theorem c_lenD (st : Stab S) {kvs : List (Key × V)} (h : G p = some (.dK kvs)) : RC S (rLenA K) [.ref p] G (IsV (.int kvs.length)) := rc_val (fun H s Q q => .inr (.inr ⟨p, kvs, rfl, s _ _ h, q⟩)) st
theorem v_inD (st : Stab S) {neg : Bool} {kvs : List (Key × V)} {key : Key} (h : G p = some (.dK kvs)) : RV S (rInA K neg) (kV key) (.ref p) G (IsV (.bl (if neg then !(valV kvs key).isSome else (valV kvs key).isSome))) := rv_r (rv_val (fun H s Q q => ⟨p, _, rfl, DGet.k (s _ _ h), q⟩) st)
theorem c_listN (st : Stab S) (hq : SqL K G p xs) : RC S (rListQ K) [.ref p] G (IsNew G (.lst xs)) := fun n G1 H1 s0 s Q q =>
  ⟨p, xs, rfl, .inl ((s0.trans (st.sub s)).seq hq), fun l hl => q (.ref l) _ _ (st.new s hl) ⟨l, rfl, (s0.trans (st.sub s)).free hl, upd_same⟩⟩
end
section
variable {S : SR} {n k : Nat} {te : TE} {tb u : TS} {σ : L2.St} {G H : Hp} {nx bk ct : L2.St → Hp → Prop} {rt : VK} {K : PySem.W.Frag} {g : TG}
/-- for .. in e, e a list that is made for it, any invariant -/
theorem q_forIX {RA : HRs} [Mons RA] (st : Stab S) (s : S n G H) (e : Ev S n k te σ G (IsLX RA)) (Pv : Addr → Nat → L2.St → Hp → Prop)
    (hb : ∀ p xs G2 H2, Stp S (n + k) G H G2 H2 → G2 p = some (.lst xs) → RA xs G2 → (∀ j τ J, Pv p j τ J → SqL K J p xs) ∧ Pv p 0 σ H2 ∧
    (∀ (j : Nat) x σ' J, xs[j]? = some x → Pv p j σ' J → g x σ' J fun σ2 J2 => tb (Ends.mk (fun τ J => Pv p (j + 1) τ J) rt (u (Ends.mk nx rt bk ct)) (fun τ J => Pv p (j + 1) τ J)) σ2 J2) ∧
    ∀ σ' J, Pv p xs.length σ' J → u (Ends.mk nx rt bk ct) σ' J) : tSeq (tFor (iList K te) g tb) u (Ends.mk nx rt bk ct) σ H := by
  refine e G H (Same.refl _) s _ fun v G1 H1 s1 ev => ?_
  obtain ⟨p, xs, rfl, gp, ra⟩ := ev
  obtain ⟨hh, h0, hs, hd⟩ := hb p xs G1 H1 s1 gp ra
  exact ⟨p, rfl, ⟨xs, hh _ _ _ h0⟩, for_list (K := K) (a := p) (xs := xs) (fun j τ J => Pv p j τ J) h0 (fun j τ J _ hp => hh _ _ _ hp) (fun j x τ J hx hp => hs j x τ J hx hp) fun τ J hp => hd τ J hp⟩
end
/-! ### name = {..} on one line -/
section
variable {X : Cx} {i : Nat} {yn : Str} {yp cp sp0 : Pos} {ek ev eg ei : Expr} {fs : List Expr} {sc : Scope} {own : List (Str × Nat)} {wi : TI} {g : TG} {tt : TT} {tk tv : TE}
theorem sw_dc {l : Nat} {env : Env} {gs : List Comprehension} (h1 : env.scope.kind = .function) (h2 : env.scope.names.lookup yn = some .local) (h3 : (yp.line == cp.line) = true)
    (h4 : (sc.names.any fun (n, k) => n == yn && (k == .local || k == .cell)) = false) : swapsWith (.DictComp ek ev gs sc cp) (some (.Name yn yp)) l env = pure true := by
  have a1 : env.kindOf yn = some .local := h2
  have a2 : env.blockKind = .function := by unfold Env.blockKind; rw [h1]; rfl
  unfold swapsWith
  simp only [a2, a1, h4, Expr.pos, h3]
  rfl
theorem ps_setDc (cm : X.calm = true) (nd : X.N.Nodup) (hy : X.N[i]? = some yn) (hl : X.env.scope.names.lookup yn = some .local) (sw : swapsWith (.DictComp ek ev [⟨eg, ei, fs, 0⟩] sc cp) (some (.Name yn yp)) sp0.line X.env = pure true) (hi : PI X eg ei wi) (ok : BlkOk X.N X.env.scope sc own)
    (hg : ∀ (u : Shared) (J : Hp) (C : Addr) (cl : List (Str × Addr)) (fp : List Addr), PG (X.blk u J sc (compEnvC sc cl C X.env) fp) eg g) (ht : ∀ (u : Shared) (J : Hp) (C : Addr) (cl : List (Str × Addr)) (fp : List Addr), PTs (X.blk u J sc (compEnvC sc cl C X.env) fp) fs tt)
    (hk : ∀ (u : Shared) (J : Hp) (C : Addr) (cl : List (Str × Addr)) (fp : List Addr), PE (X.blk u J sc (compEnvC sc cl C X.env) fp) ek tk) (hv : ∀ (u : Shared) (J : Hp) (C : Addr) (cl : List (Str × Addr)) (fp : List Addr), PE (X.blk u J sc (compEnvC sc cl C X.env) fp) ev tv)
    (hs : ∀ x, foldedSetIterable ei X.env x = pure x := by intro _; rfl) : PS X (.Assign [.Name yn yp] (.DictComp ek ev [⟨eg, ei, fs, 0⟩] sc cp) sp0) (tAsg (tDc wi g tt tk tv (own.map (·.2))) (gName i)) := by
  constructor
  intro qs u σ J Ed I h
  have h : tDc wi g tt tk tv (own.map (·.2)) σ J (fun x J1 => gName i x σ J1 Ed.nx) := h
  rw [exec_Assign_Name_used _ _ _ _ sw]
  refine wpAny_bind (wpAny_standAt (wpAny_bind ?_))
  refine wpAny_bind (thn (dc_core (use := some (assign (.Name yn yp) X.env)) (Qf := fun _ z => SP X qs Ed .next z) cm nd I hi ok hg ht hk hv hs h fun L C z m J' I' q hn f => ?_) fun _ z hq => wpAny_pure (wpAny_pure hq))
  refine wpAny_assign_Name (store_ok2 (v := V.ref L) I' nd hy (.inl hl) rfl (fun z2 I2 ⟨a, sb, ha⟩ => ?_) (.inr hl))
  obtain ⟨f0, f1, f2, f3, f4, f5⟩ := f
  have ne : C ≠ a := ha.elim (fun z => by rw [z]; exact f1) fun z e => f4 yn a z e.symm
  exact ⟨m, hn.sameBut sb ne, fun z3 sb3 => ⟨_, J', I2.turned (t' := z2.toks) (fun b o hb e => (sb3.2 b hb).trans e) f0 f1 f3 f4 f5, q⟩⟩
end
section
variable {α : Type} {R : α → HR} {S : SR} {n n0 k : Nat} {t : TA} {u : TS} {σ : L2.St} {G1 H1 J : Hp} {nx bk ct : L2.St → Hp → Prop} {rt : VK} {j : Nat} {K : PySem.W.Frag} {D : Addr} {ss : List α} {x : α}
/-- p.append(x): all else stays -/
theorem q_appX2 (st : Stab S) [∀ a, Mon (R a)] (a : S n0 G1 H1) (hD : H1 D = none) (h : LcQ S G1 H1 n D R ss J) (hl : ss.length < 100000) (hv : σ[j]? = some (some (.ref D))) (e : ∀ G', Same G1 G' → EvA S n k t σ G' (RL R [x]))
    (hN : ∀ J', LcQ S G1 H1 (n + k) D R (ss ++ [x]) J' → (∀ b o, ¬ S.m b → b ≠ D → J b = some o → J' b = some o) → u (Ends.mk nx rt bk ct) σ J') : tSeq (tDrop (tBM K "list" rAppend (tVar j) t)) u (Ends.mk nx rt bk ct) σ J := by
  obtain ⟨G3, acc, s3, c, d, r⟩ := h
  refine ⟨_, hv, .inl ⟨rfl, _, SqL.of d⟩, e G3 s3.g G3 J (Same.refl _) s3.s _ fun ws G4 H4 s4 ev => ?_⟩
  obtain ⟨y, _, rfl, ry, rn⟩ := ev
  obtain rfl := (show _ = [] from rn)
  have d4 : H4 D = some (.lst acc) := s4.k.k D _ (st.fre a hD) d
  have c4 : G4 D = none := by
    cases e : G4 D with
    | none => rfl
    | some o =>
      rcases s4.n D o e with q | q
      · rw [c] at q
        cases q
      · rw [d] at q
        cases q
  have t := s3.trans s4
  have la := rl_len r
  exact ⟨D, acc, y, rfl, rfl, d4, Nat.lt_of_lt_of_le (show acc.length < 100000 by omega) (by decide), hN _ ⟨G4, acc ++ [y], ⟨t.g, kp_new t.k hD, st.chg a hD t.s c4, t.n⟩, c4, upd_same, rl_app (rl_mon s4.g r) ⟨y, [], rfl, ry, rfl⟩⟩ fun b o hb ne e => by
    rw [upd_ne ne]
    exact s4.k.k b o hb e⟩
theorem LcQ.step2 (st : Stab S) [∀ a, Mon (R a)] (a : S n0 G1 H1) (hD : H1 D = none) (h : LcQ S G1 H1 n D R ss J) : ∃ G3, Same G1 G3 ∧ S n G3 J ∧ ∀ {m G4 H4}, Stp S m G3 J G4 H4 → LcQ S G1 H1 m D R ss H4 ∧ G4 D = none := by
  obtain ⟨G3, acc, s3, c, d, r⟩ := h
  refine ⟨G3, s3.g, s3.s, fun {m G4 H4} s4 => ?_⟩
  have c4 : G4 D = none := by
    cases e : G4 D with
    | none => rfl
    | some o =>
      rcases s4.n D o e with q | q
      · rw [c] at q
        cases q
      · rw [d] at q
        cases q
  exact ⟨⟨G4, acc, s3.trans s4, c4, s4.k.k D _ (st.fre a hD) d, rl_mon s4.g r⟩, c4⟩
end
/-! ### all that stands but some lists -/
noncomputable def cut (G : Hp) (X : Addr → Prop) : Hp := fun b => open Classical in if X b then none else G b
theorem cut_in {G : Hp} {X : Addr → Prop} {b : Addr} (h : X b) : cut G X b = none := if_pos h
theorem cut_out {G : Hp} {X : Addr → Prop} {b : Addr} (h : ¬ X b) : cut G X b = G b := if_neg h
theorem cut_same {G : Hp} {X : Addr → Prop} : Same (cut G X) G := fun b o e => by
  by_cases h : X b
  · rw [cut_in h] at e
    cases e
  · rw [cut_out h] at e
    exact e
def LstX (G : Hp) (X : Addr → Prop) : Prop := ∀ b, X b → ∃ xs, G b = some (.lst xs)
theorem LstX.keep {G : Hp} {X : Addr → Prop} (h : LstX G X) {b : Addr} {o : HO} (e : G b = some o) (n : ∀ xs, o ≠ .lst xs) : cut G X b = some o := by
  rw [cut_out]
  · exact e
  · intro z
    obtain ⟨xs, hx⟩ := h b z
    rw [hx] at e
    exact n xs (Option.some.inj e).symm
theorem tab_cut {G : Hp} {X : Addr → Prop} {p : Addr} {n : Nat} {th : Nat → Nat → Int} (hX : LstX G X) (h : Tab G p n th) : Tab (cut G X) p n th := by
  obtain ⟨p', ys, e, hp, l, r⟩ := h
  refine ⟨p', ys, e, hX.keep hp (fun _ z => by cases z), l, fun i y z => ?_⟩
  obtain ⟨q, zs, e2, hq, l2, r2⟩ := r i y z
  exact ⟨q, zs, e2, hX.keep hq (fun _ z => by cases z), l2, r2⟩
theorem ScC.cut {C x : Addr} {label : Str} {names : List Str} {nv sl dep : Int} {th jn : Nat → Nat → Int} {G : Hp} {X : Addr → Prop} (hX : LstX G X) (h : ScC C x label names nv sl dep th jn G) : ScC C x label names nv sl dep th jn (DS.cut G X) := by
  obtain ⟨dx, fs, a, b, c⟩ := h
  refine ⟨dx, fs, hX.keep a (fun _ z => by cases z), ⟨b.lab, b.siz, b.nev, b.sti, b.dep, ?_, ?_, ?_, ?_⟩, c⟩
  · obtain ⟨p, e, g⟩ := b.nam
    exact ⟨p, e, hX.keep g (fun _ z => by cases z)⟩
  · obtain ⟨p, e, g⟩ := b.pla
    exact ⟨p, e, hX.keep g (fun _ z => by cases z)⟩
  · obtain ⟨p, e, g⟩ := b.pro
    exact ⟨p, e, tab_cut hX g⟩
  · obtain ⟨p, e, g⟩ := b.joi
    exact ⟨p, e, tab_cut hX g⟩
theorem src_cut {st cl : Addr} {n : Nat} {G H : Hp} {X : Addr → Prop} (h : Src st cl n G H) : Src st cl n (cut G X) H := by
  obtain ⟨a, b, c, d⟩ := h
  have k : ∀ {b : Addr}, G b = none → cut G X b = none := fun {b} e => by
    by_cases z : X b
    · exact cut_in z
    · rw [cut_out z]; exact e
  exact ⟨cut_same.trans a, k b, k c, d⟩
/-! ### statements that change a list -/
end L2.DS
/-! Scales of tables: what the tables tell. -/
namespace L2.DS
open PySem PySem.Spec PyProof.Rows
def signsL : Str := "abcdefghijklmnopqrstuvwxyz0123456789"
def sgn (c : Nat) : Bool := !(Builtin.Str.occurrences signsL ⟨#[c]⟩ 0 signsL.length 1).isEmpty
def okNm (nm : Str) : Bool := (decide ((1 : Int) ≤ nm.length) && decide ((nm.length : Int) ≤ 12)) && (nm.cps.toList.map sgn).all id
theorem okNm_len {nm : Str} (h : okNm nm = true) : 1 ≤ nm.length ∧ nm.length ≤ 12 := by
  unfold okNm at h
  rw [Bool.and_eq_true, Bool.and_eq_true] at h
  have h1 := of_decide_eq_true h.1.1
  have h2 := of_decide_eq_true h.1.2
  omega
def joinR (rows : List (List Str)) : Str := Txt.join (" " : Str) (rows.map fun r => Txt.join (" " : Str) r)
def tbLab (names : List Str) (never still : Str) (joins products : List (List Str)) : Str :=
  ("(table (" : Str) ++ Txt.join (" " : Str) names ++ (") " : Str) ++ (never ++ (" " : Str) ++ still) ++ (" (" : Str) ++ joinR joins ++ (") (" : Str) ++ joinR products ++ ("))" : Str)
structure TbOk (names : List Str) (joins products : List (List Str)) (never still : Str) : Prop where
  l1 : 1 ≤ names.length
  l2 : names.length ≤ 16
  nd : names.Nodup
  ok : ∀ nm ∈ names, okNm nm = true
  nv : never ∈ names
  sl : still ∈ names
  jl : joins.length = names.length
  jr : ∀ r ∈ joins, r.length = names.length ∧ ∀ e ∈ r, e ∈ names
  pl : products.length = names.length
  pr : ∀ r ∈ products, r.length = names.length ∧ ∀ e ∈ r, e ∈ names
def idxT (names : List Str) (rows : List (List Str)) (a b : Nat) : Int := ((names.idxOf ((rows.getD a []).getD b ("" : Str)) : Nat) : Int)
/-- a list of texts, of places -/
def IsSR (row : List Str) : HR := fun v G => ∃ p, v = .ref p ∧ G p = some (.lst (row.map V.str))
instance (row) : Mon (IsSR row) := ⟨fun s ⟨p, e, h⟩ => ⟨p, e, s _ _ h⟩⟩
def IsIR (names row : List Str) : HR := fun v G => ∃ p, v = .ref p ∧ G p = some (.lst (row.map fun e => V.int (names.idxOf e : Nat)))
instance (names row) : Mon (IsIR names row) := ⟨fun s ⟨p, e, h⟩ => ⟨p, e, s _ _ h⟩⟩
def TabS (G : Hp) (p : Addr) (rows : List (List Str)) : Prop := ∃ vs, G p = some (.lst vs) ∧ RL IsSR rows vs G
theorem TabS.mono {G G' : Hp} {p : Addr} {rows : List (List Str)} (h : TabS G p rows) (s : Same G G') : TabS G' p rows := let ⟨vs, a, b⟩ := h; ⟨vs, s _ _ a, rl_mon s b⟩
def TabI (names : List Str) (G : Hp) (p : Addr) (rows : List (List Str)) : Prop := ∃ vs, G p = some (.lst vs) ∧ RL (IsIR names) rows vs G
theorem TabI.mono {names : List Str} {G G' : Hp} {p : Addr} {rows : List (List Str)} (h : TabI names G p rows) (s : Same G G') : TabI names G' p rows := let ⟨vs, a, b⟩ := h; ⟨vs, s _ _ a, rl_mon s b⟩
theorem idx_get {names : List Str} {e : Str} (h : e ∈ names) : names[names.idxOf e]? = some e := by
  have hj : names.idxOf e < names.length := List.idxOf_lt_length_iff.mpr h
  rw [List.getElem?_eq_getElem hj, List.getElem_idxOf hj]
/-! lengths -/
theorem join_len (ys : List Str) (L : Nat) (h : ∀ y ∈ ys, y.length ≤ L) : (ys.map (·.length)).sum + ys.length * 1 ≤ ys.length * (L + 1) ∧ (Txt.join (" " : Str) ys).length ≤ ys.length * (L + 1) := by
  have h1 : (ys.map (·.length)).sum + ys.length * 1 ≤ ys.length * (L + 1) := by
    induction ys with
    | nil => simp
    | cons y r ih =>
      have := ih fun z hz => h z (List.mem_cons_of_mem _ hz)
      have hy := h y List.mem_cons_self
      simp only [List.map_cons, List.sum_cons, List.length_cons, Nat.succ_mul]
      omega
  refine ⟨h1, ?_⟩
  have h2 := StrLaws.join_length_le (" " : Str) ys
  have e : (" " : Str).length = 1 := by decide +kernel
  rw [e] at h2
  show (Builtin.Str.glued (" " : Str) ys).length ≤ _
  rw [StrLaws.glued_eq_join]
  omega
theorem rows_len {names : List Str} {rows : List (List Str)} (hn : ∀ nm ∈ names, okNm nm = true) (h2 : names.length ≤ 16) (hl : rows.length = names.length) (hr : ∀ r ∈ rows, r.length = names.length ∧ ∀ e ∈ r, e ∈ names) : ∀ r ∈ rows, (r.map (·.length)).sum + r.length * 1 ≤ 208 ∧ (Txt.join (" " : Str) r).length ≤ 208 := by
  intro r hr'
  obtain ⟨a, b⟩ := hr r hr'
  have j := join_len r 12 fun y hy => (okNm_len (hn y (b y hy))).2
  omega
theorem joinR_len {names : List Str} {rows : List (List Str)} (hn : ∀ nm ∈ names, okNm nm = true) (h2 : names.length ≤ 16) (hl : rows.length = names.length) (hr : ∀ r ∈ rows, r.length = names.length ∧ ∀ e ∈ r, e ∈ names) :
    ((rows.map fun r => Txt.join (" " : Str) r).map (·.length)).sum + (rows.map fun r => Txt.join (" " : Str) r).length * 1 ≤ 16777216 ∧ (joinR rows).length ≤ 3344 := by
  have j := join_len (rows.map fun r => Txt.join (" " : Str) r) 208 fun y hy => by
    obtain ⟨r, hr', rfl⟩ := List.mem_map.mp hy
    exact (rows_len hn h2 hl hr r hr').2
  rw [List.length_map] at j ⊢
  unfold joinR
  omega
theorem names_join {names : List Str} (hn : ∀ nm ∈ names, okNm nm = true) (h2 : names.length ≤ 16) : (names.map (·.length)).sum + names.length * 1 ≤ 16777216 ∧ (Txt.join (" " : Str) names).length ≤ 208 := by
  have j := join_len names 12 fun y hy => (okNm_len (hn y hy)).2
  omega
/-! promises -/
def PIsN : List V → Hp → HR → Prop := fun vs _ R => ∃ nm : Str, vs = [.str nm] ∧ nm.length ≤ 1000 ∧ R = IsV (.bl (okNm nm))
def PTp : List V → Hp → HR → Prop := fun vs G R => ∃ (pd pt : Addr) (names : List Str) (rows : List (List Str)), vs = [.ref pd, .ref pt] ∧ G pd = some (.dK (plc names 0)) ∧ names.Nodup ∧ names.length ≤ 100 ∧ TabS G pt rows ∧ rows.length = names.length ∧ (∀ r ∈ rows, r.length = names.length ∧ ∀ e ∈ r, e ∈ names) ∧
  R = fun v G' => ∃ p, v = .ref p ∧ TabI names G' p rows
def PTbM (C0 : Addr) (fld : Str) : List V → Hp → HR → Prop := fun vs G R => ∃ (x dx p : Addr) (fs : List (Str × V)) (names : List Str) (rows : List (List Str)) (a b : Nat), vs = [.ref x, .int (a : Nat), .int (b : Nat)] ∧ G x = some (.ins C0 dx fs) ∧ fs.lookup fld = some (.ref p) ∧ TabI names G p rows ∧ a < rows.length ∧ (∀ r ∈ rows, b < r.length) ∧ R = IsV (.int (idxT names rows a b))
def tbF : List Str := ["written_joins", "written_products"]
def PTbI (C0 : Addr) : Addr → List (Str × V) → List V → Hp → OR → Prop := fun C fs rest G R => C = C0 ∧ fs = [] ∧ ∃ (pn pj pp : Addr) (names : List Str) (joins products : List (List Str)) (never still : Str),
  rest = [.ref pn, .ref pj, .ref pp, .str never, .str still] ∧ G pn = some (.lst (names.map V.str)) ∧ TabS G pj joins ∧ TabS G pp products ∧ TbOk names joins products never still ∧
  R = fun _ _ fs' G' => ScIs (tbLab names never still joins products) names (names.idxOf never : Nat) (names.idxOf still : Nat) 1 (idxT names products) (idxT names joins) fs' G' ∧ (∀ f, f ∉ scF → f ∉ tbF → fs'.lookup f = none)
end L2.DS
/-! The laws' own tables: drawn names, their places, data of tables. -/
namespace L2.DS
open PySem PySem.Spec PyProof.Rows
/-! names that are drawn -/
/-- a row of names -/
def IsRw (names : List Str) : HR := fun v G => ∃ row : List Str, IsSR row v G ∧ row.length = names.length ∧ ∀ e ∈ row, e ∈ names
instance (names) : Mon (IsRw names) := ⟨fun s ⟨row, a, b⟩ => ⟨row, Mon.mon s a, b⟩⟩
/-- rows newly made -/
def IsSRn (F : Hp) (row : List Str) : HR := IsNew F (.lst (row.map V.str))
instance (F row) : Mon (IsSRn F row) := inferInstanceAs (Mon (IsNew _ _))
/-! tables as data -/
theorem dp_strs {K : PySem.W.Frag} {G : Hp} : ∀ xs : List Str, DpAll K G (xs.map V.str) (xs.map PyData.str)
  | [] => .nil
  | a :: r => .cons (.str a) (dp_strs r)
end L2.DS
/-! Scales of any of some classes; defs with a star parameter; pairs of ranges. -/
namespace L2.DS
open PySem PySem.Spec PyProof.Rows
/-- o.m(..), o of one of some classes -/
def tMethA (Cs : List Addr) (m : Str) (sp : Sp) (dvs : List V) (E : XK) (ta : TE) (t : TA) : TE := fun σ H Q => ∃ C ∈ Cs, tMeth C m sp dvs E ta t σ H Q
section
variable {X : Cx} {CX : CXT} {k : Nat} {ps : List Str} {dvs : List V} {sp : Sp} {E : XK} {x m : Str} {Cs : List Addr} {e o : Expr} {es : List Expr} {t : TA} {ta : TE} {p pos apos : Pos}
theorem pe_methA {pl : Sem Bool} (c : ∀ C ∈ Cs, Method X.prog X.w X.K X.mg X.base C m CX k ps dvs sp) (hr : Room k X.A) (hx : Passes CX X E) (ho : PE X o ta) (ha : PA X (e :: es) t)
    (hst : starEach (e :: es) X.env = (false, eval e X.env) :: starEach es X.env := by rfl) (hpl : (backTo pos (starEach es X.env)).any (·.1) = false := by rfl)
    (ht : eval (.Call (.Attribute o m apos) (e :: es) [] pos) X.env = (do
      let ov ← eval o X.env
      standAt apos.atName
      let (f, first) ← holding [ov] (getMethod ov m pl)
      callWith pos f first (backTo pos (starEach (e :: es) X.env)) (backToKw pos (keywordEach [] X.env))) := by rfl) :
    PE X (.Call (.Attribute o m apos) (e :: es) [] pos) (tMethA Cs m sp dvs E ta t) :=
  ⟨fun pins s σ H Q I ⟨C, hC, q⟩ => (pe_methC (c C hC) hr hx ho ha hst hpl ht).run pins s σ H Q I q⟩
/-- a def of the top with a star parameter, by its name -/
def CalleeR (P : Program) (w : World) (K : PySem.W.Frag) (mg : Str → Option Value) (base : Heap) (x : Str) (CX : CXT) (k : Nat) (sp : Sp) : Prop :=
  ∃ f : Addr, mg x = some (.ref f) ∧ PySem.W.keepIn K (.ref f) = true ∧ FnR P w K mg base CX k f sp
theorem pe_callRC (c : CalleeR X.prog X.w X.K X.mg X.base x CX k sp) (hr : Room k X.A) (hx : Passes CX X E) (ha : PA X (e :: es) t) (hg : Gl X x := by rfl) (hdb : (x == ("__debug__" : Str)) = false := by decide)
    (he : starEach (e :: es) X.env = (false, eval e X.env) :: starEach es X.env := by rfl) (hpl : (backTo pos (starEach es X.env)).any (·.1) = false := by rfl) : PE X (.Call (.Name x p) (e :: es) [] pos) (tCall sp [] E t) := by
  obtain ⟨f, hm, hk, F⟩ := c
  constructor
  intro pn u τ J Qv I h
  refine wpAny_Call_Name_kw (ld_glob I hg hm (PySem.W.callWith_K (h₀ := X.base) I.ok.mod.kin hk (thn (ha.run pos pn u τ J _ I h) fun us u1 ⟨vs, J1, I1, r, z⟩ => ⟨I1.kIn, ?_⟩) he hpl) hdb)
  have z : sp (vs ++ []) J1 Qv E := z
  rw [List.append_nil] at z
  exact wpAny_call (run_fnR F hr hx I1 r z)
end
/-! ### scales -/
structure SD where
  label : Str
  names : List Str
  nv : Int
  sl : Int
  dep : Int
  th : Nat → Nat → Int
  jn : Nat → Nat → Int
structure ClsOk (K : PySem.W.Frag) (C : Addr) : Prop where
  c : Cls K C
  n : ∀ f ∈ scF, NoAttr K C f
def ScD (K : PySem.W.Frag) (Cs : List Addr) (d : SD) (x : Addr) (G : Hp) : Prop := ∃ C ∈ Cs, ClsOk K C ∧ ScC C x d.label d.names d.nv d.sl d.dep d.th d.jn G
theorem ScD.mono {K : PySem.W.Frag} {Cs : List Addr} {d : SD} {x : Addr} {G G' : Hp} (h : ScD K Cs d x G) (s : Same G G') : ScD K Cs d x G' := let ⟨C, a, b, c⟩ := h; ⟨C, a, b, c.mono s⟩
def IsScD (K : PySem.W.Frag) (Cs : List Addr) (d : SD) : HR := fun v G => ∃ x, v = .ref x ∧ ScD K Cs d x G
instance (K Cs d) : Mon (IsScD K Cs d) := ⟨fun s ⟨x, e, h⟩ => ⟨x, e, h.mono s⟩⟩
section
variable {S : SR} {n k ka kb : Nat} {te ta tb : TE} {t : TA} {σ : L2.St} {G : Hp} {K : PySem.W.Frag} {Cs : List Addr} {d : SD} {x : Addr} {E : XK}
theorem ev_sF (st : Stab S) (h : ScD K Cs d x G) (e : Ev S n k te σ G (IsV (.ref x))) :
    Ev S n k (tFld K te "size") σ G (IsV (.int (d.names.length : Nat))) ∧ Ev S n k (tFld K te "never_at") σ G (IsV (.int d.nv)) ∧ Ev S n k (tFld K te "still_at") σ G (IsV (.int d.sl)) ∧ Ev S n k (tFld K te "label") σ G (IsV (.str d.label)) ∧ Ev S n k (tFld K te "depth") σ G (IsV (.int d.dep)) := by
  obtain ⟨C, _, hk, dx, fs, hx, hI, _⟩ := h
  exact ⟨ev_fld st e hx hk.c (hk.n _ (by decide)) hI.siz, ev_fld st e hx hk.c (hk.n _ (by decide)) hI.nev, ev_fld st e hx hk.c (hk.n _ (by decide)) hI.sti, ev_fld st e hx hk.c (hk.n _ (by decide)) hI.lab, ev_fld st e hx hk.c (hk.n _ (by decide)) hI.dep⟩
/-- then_at, join_at, within_at -/
theorem ev_sAt (st : Stab S) {m : Str} {pk : (Nat → Nat → Int) → (Nat → Nat → Int) → Nat → Nat → V} {a b : Nat} (h : ScD K Cs d x G) (hm : m ∈ metF) (e : Ev S n k te σ G (IsV (.ref x))) (ea : EvA S (n + k) ka t σ G (IsVs [.int (a : Nat), .int (b : Nat)])) (ha : a < d.names.length) (hb : b < d.names.length) :
    Ev S n (k + ka) (tMethA Cs m (spP (PAt K pk)) [] E te t) σ G (IsV (pk d.th d.jn a b)) := by
  obtain ⟨C, hC, hk, hs⟩ := h
  have hsc := hs.sc hk.c hk.n
  obtain ⟨dx, fs, hx, hI, hoff⟩ := hs
  have z := ev_meth (S := S) (n := n) (E := E) (R := IsV (pk d.th d.jn a b)) (P := PAt K pk) (dvs := []) st e hx (hoff _ hm) ea fun vs G9 s9 ev => by
    obtain rfl := (show vs = _ from ev)
    exact ⟨_, _, _, _, _, _, _, x, a, b, rfl, hsc.mono s9, ha, hb, rfl⟩
  exact fun G1 H1 s0 s Q q => ⟨C, hC, z G1 H1 s0 s Q q⟩
theorem ev_sNm (st : Stab S) {a : Nat} {nm : Str} (h : ScD K Cs d x G) (e : Ev S n k te σ G (IsV (.ref x))) (ea : EvA S (n + k) ka t σ G (IsVs [.int (a : Nat)])) (ha : d.names[a]? = some nm) : Ev S n (k + ka) (tMethA Cs "name_at" (spP (PName K)) [] E te t) σ G (IsV (.str nm)) := by
  obtain ⟨C, hC, hk, hs⟩ := h
  have hsc := hs.sc hk.c hk.n
  obtain ⟨dx, fs, hx, hI, hoff⟩ := hs
  have z := ev_meth (S := S) (n := n) (E := E) (R := IsV (.str nm)) (P := PName K) (dvs := []) st e hx (hoff "name_at" (by decide)) ea fun vs G9 s9 ev => by
    obtain rfl := (show vs = _ from ev)
    exact ⟨_, _, _, _, _, _, _, x, a, nm, rfl, hsc.mono s9, ha, rfl⟩
  exact fun G1 H1 s0 s Q q => ⟨C, hC, z G1 H1 s0 s Q q⟩
end
/-! ### a, b = f(..) -/
section
variable {S : SR} {n k : Nat} {te : TE} {u : TS} {σ : L2.St} {G H : Hp} {nx bk ct : L2.St → Hp → Prop} {rt : VK} {i j : Nat} {K : PySem.W.Frag} {x y : V}
theorem q_asg2 (st : Stab S) (s : S n G H) (e : Ev S n k te σ G (fun v G' => ∃ p, v = .ref p ∧ G' p = some (.tup [x, y]))) (h : ∀ G' H', Stp S (n + k) G H G' H' → u (Ends.mk nx rt bk ct) ((σ.set i (some x)).set j (some y)) H') : tSeq (tAsg te (gTup K 2 (gCons (gName i) (gCons (gName j) gNil)))) u (Ends.mk nx rt bk ct) σ H :=
  e G H (Same.refl _) s _ fun v G' H' s1 r => by
    obtain ⟨p, rfl, g⟩ := r
    exact ⟨p, _, rfl, SqT.of (st.sub s1.s _ _ g), rfl, _, _, rfl, _, _, rfl, rfl, h G' H' s1⟩
end
/-! ### [el for i in range(m) for j in range(c)] -/
section
variable {α : Type} {R : α → HR} {S : SR} {n k : Nat} {el : TE} {σ : L2.St} {G : Hp} {K : PySem.W.Frag}
theorem ev_lc2R1 (st : Stab S) [∀ a, Mon (R a)] {ta tb : TA} {i j : Nat} {vs vs1 : List Nat} {m c : Nat} {f : Nat → Nat → α} {σa : Nat → L2.St} {σb : Nat → Nat → L2.St} (e : EvA S n k ta σ G (IsVs [.int (m : Nat)])) (hm : m ≤ 300) (hc : c ≤ 300)
    (ea : ∀ a, (wipe σ vs).set i (some (.int (a : Nat))) = σa a) (eb : ∀ a b, (wipe (σa a) vs1).set j (some (.int (b : Nat))) = σb a b) (hw : ∀ a, wipe (σa a) vs = wipe σ vs) (hw1 : ∀ a b, wipe (σb a b) vs1 = wipe (σa a) vs1)
    (hi1 : ∀ a G', a < m → Same G G' → EvA S (n + k) 0 tb (σa a) G' (IsVs [.int (c : Nat)])) (hs : ∀ (a b : Nat) G', a < m → b < c → Same G G' → Ev S (n + k) 0 el (σb a b) G' (R (f a b))) :
    Ev S n k (tLc2 (iRng1 ta) (gName i) tYes (iRng1 tb) (gName j) tYes el vs vs1) σ G (IsNX G (RL R ((List.range m).flatMap fun a => (List.range c).map fun t => f a t))) := fun G1 H1 s0 s Q q => by
  refine e G1 H1 s0 s _ fun v G2 H2 s2 ev => ⟨(m : Nat), ev, by omega, by omega, fun D hD => ?_⟩
  have row : ∀ a, ((List.range c).map fun t => f a t).length = c := fun a => by rw [List.length_map, List.length_range]
  have tot : ∀ t, ((List.range t).flatMap fun a => (List.range c).map fun t => f a t).length ≤ 300 * t := by
    intro t
    induction t with
    | zero => exact Nat.le_refl 0
    | succ t ih =>
      rw [List.range_succ, List.flatMap_append, List.length_append, List.flatMap_cons, List.flatMap_nil, List.append_nil, row]
      omega
  refine ⟨fun t mm J => mm = m - t ∧ t ≤ m ∧ LcQ S G2 H2 (n + k) D R ((List.range t).flatMap fun a => (List.range c).map fun t => f a t) J, ⟨m, by omega, by omega, lcq_start st s2.s hD⟩, ?_⟩
  rintro t mm J ⟨rfl, ht, h⟩
  by_cases hlt : t < m
  · refine .inr ⟨show t < ((m : Nat) : Int).toNat by omega, fun J' => LcQ S G2 H2 (n + k) D R ((List.range (t + 1)).flatMap fun a => (List.range c).map fun t => f a t) J', fun J' h' => ⟨m - (t + 1), by omega, rfl, hlt, h'⟩, ?_⟩
    rintro x J' ⟨rfl, rfl⟩
    show wipe ((wipe σ vs).set i (some (.int (0 + (t : Nat))))) vs = _ ∧ tYes ((wipe σ vs).set i (some (.int (0 + (t : Nat))))) J' _
    rw [Int.zero_add, ea t]
    refine ⟨hw t, tYes_run (iteT ?_)⟩
    obtain ⟨G3, acc, a3, c3, d3, r3⟩ := id h
    refine hi1 t G3 hlt ((s0.trans s2.g).trans a3.g) G3 _ (Same.refl _) a3.s _ fun v4 G4 H4 s4 e4 => ?_
    refine ⟨(c : Nat), e4, by omega, by omega, ?_⟩
    have hmv := lcq_move (n := n + k) st s2.s hD a3 c3 d3 r3 s4
    have tt := tot t
    have esp : ((List.range (t + 1)).flatMap fun a => (List.range c).map fun t => f a t) = ((List.range t).flatMap fun a => (List.range c).map fun t => f a t) ++ (List.range c).map fun u => f t u := by
      rw [List.range_succ, List.flatMap_append, List.flatMap_cons, List.flatMap_nil, List.append_nil]
    rw [esp]
    generalize ((List.range t).flatMap fun a => (List.range c).map fun t => f a t) = sp at hmv tt
    refine ⟨fun u kk J' => kk = c - u ∧ u ≤ c ∧ LcQ S G2 H2 (n + k) D R (sp ++ (List.range u).map fun u => f t u) J', ⟨c, by omega, by omega, by simpa using hmv⟩, ?_⟩
    rintro u kk J' ⟨rfl, hu, h'⟩
    by_cases hlu : u < c
    · refine .inr ⟨show u < ((c : Nat) : Int).toNat by omega, fun J'' => LcQ S G2 H2 (n + k) D R (sp ++ (List.range (u + 1)).map fun u => f t u) J'', fun J'' h'' => ⟨c - (u + 1), by omega, rfl, hlu, h''⟩, ?_⟩
      rintro x J'' ⟨rfl, rfl⟩
      show wipe ((wipe (σa t) vs1).set j (some (.int (0 + (u : Nat))))) vs1 = _ ∧ tYes ((wipe (σa t) vs1).set j (some (.int (0 + (u : Nat))))) J'' _
      rw [Int.zero_add, eb]
      refine ⟨hw1 t _, tYes_run (iteT ?_)⟩
      refine lcq_step (x := f t u) (Nx := fun J'' => LcQ S G2 H2 (n + k) D R (sp ++ (List.range (u + 1)).map fun u => f t u) J'') st s2.s hD h' (by rw [List.length_append, List.length_map, List.length_range]; omega) (fun G' g' => hs t u G' hlt hlu ((s0.trans s2.g).trans g')) fun J3 h3 => ?_
      rw [List.range_succ, List.map_append, ← List.append_assoc]
      exact h3
    · have e : u = c := by omega
      refine .inl ⟨show ((c : Nat) : Int).toNat ≤ u by omega, ?_⟩
      rw [e] at h'
      exact h'
  · have e : m = t := by omega
    subst e
    refine .inl ⟨show ((m : Nat) : Int).toNat ≤ m by omega, ?_⟩
    exact lcq_end st s2 hD h fun v G' H' a ⟨p, xs, e, f, r⟩ => q v G' H' a ⟨p, xs, e, s0.free f, r⟩
end
/-! ### defs with a star parameter -/
theorem okStar {P : Program} {w : World} {K : PySem.W.Frag} {mg : Str → Option Value} {base : Heap} {x qual : Str} {stm : Stmt} {f : Addr} {fd : FuncData} {N ps : List Str} {pv : Str} {k : Nat} {sp0 : Sp} (F : Fun K x qual stm f fd) (S : FnScope N (ps ++ [pv]) (defScope stm))
    (hb : ∀ (kV doc pm : Value) (an : Option Addr) (cdv ct : Value) (us rest : List Value), us.length = ps.length → bindArgs (PySem.W.fnOf x qual (defArgs stm) (defBody stm) (defScope stm) .none kV doc pm an cdv ct) ⟨us ++ rest, []⟩ = (newTuple rest >>= fun t => pure (ps.zip us ++ [(pv, t)])))
    (hbody : ∀ (cdv : Value) (A : Around) (outer : List Env) (s : Shared) (H : Hp) (vs : List V) (Q : VK) (E : XK), Room k (A.deeper (envOfC qual (defScope stm) s.heap.objs.size f cdv)) → sp0 vs H Q E →
      ∃ t, PSs (cxOf CX0 P w K mg base N qual (defScope stm) f cdv A outer s H E).nox (defBody stm) t ∧ t { nx := fun _ H' => Q .non H', rt := Q } (start N vs) H) :
    FnR P w K mg base CX0 (k + 1) f (fun vs H Q E => ∃ ws rest, vs = ws ++ rest ∧ ws.length = ps.length ∧ rest.length ≤ sizeLine ∧ ∀ p, H p = none → sp0 (ws ++ [V.ref p]) (upd H p (.tup rest)) Q E) := by
  obtain ⟨oc, od, kV, doc, pm, an, cdv, ct, osl, rfl, lk, hcd⟩ := F.ex
  refine StX.fn_star lk hcd S StX.cxUp_none (hb kV doc pm an cdv ct) fun A outer s H vs Q E hr hsp => ?_
  obtain ⟨t, h, q⟩ := hbody cdv A outer s H vs Q E hr hsp
  exact ⟨t, h.nox, q⟩
section
variable {S : SR} {n k : Nat} {te : TE} {tb u : TS} {σ : L2.St} {G H : Hp} {nx bk ct : L2.St → Hp → Prop} {rt : VK} {K : PySem.W.Frag} {g : TG} {p : Addr} {xs : List V}
/-- for .. in a tuple: the turns change locals alone -/
theorem q_forPT (st : Stab S) (s : S n G H) (e : Ev S n k te σ G (IsV (.ref p))) (hq : SqT K G p xs) (Pv : Nat → L2.St → Prop) (h0 : Pv 0 σ)
    (hs : ∀ (j : Nat) x σ' J, xs[j]? = some x → Pv j σ' → Stp S (n + k) G H G J → g x σ' J fun σ2 J2 => tb (Ends.mk (fun τ J => Pv (j + 1) τ ∧ Stp S (n + k) G H G J) rt (u (Ends.mk nx rt bk ct)) (fun τ J => Pv (j + 1) τ ∧ Stp S (n + k) G H G J)) σ2 J2)
    (hd : ∀ σ' J, Pv xs.length σ' → Stp S (n + k) G H G J → u (Ends.mk nx rt bk ct) σ' J) : tSeq (tFor (iTup K te) g tb) u (Ends.mk nx rt bk ct) σ H := by
  refine e G H (Same.refl _) s _ fun v G1 H1 s1 ev => ?_
  have z := st.anti s s1.s s1.g
  refine ⟨p, ev, ⟨xs, same_t (st.sub z) hq⟩, for_tup (K := K) (a := p) (xs := xs) (fun j τ J => Pv j τ ∧ Stp S (n + k) G H G J) ⟨h0, Stp.go0 s1.k z⟩ (fun j τ J _ hp => same_t (st.sub hp.2.s) hq) (fun j x τ J hx hp => hs j x τ J hx hp.1 hp.2) fun τ J hp => hd τ J hp.1 hp.2⟩
end
end L2.DS
/-! Scales of pairs, turned scales. -/
namespace L2.DS
open PySem PySem.Spec PyProof.Rows
/-- the depth above some scales -/
def depL (ds : List SD) : Int := ds.foldl (fun m d => if d.dep ≥ m then d.dep + 1 else m) 1
def pairNames (d1 d2 : SD) : List Str := (List.range d1.names.length).flatMap fun a => (List.range d2.names.length).map fun b => ("<" : Str) ++ d1.names.getD a ("" : Str) ++ ("/" : Str) ++ d2.names.getD b ("" : Str) ++ (">" : Str)
def pairSD (d1 d2 : SD) : SD where
  label := ("(pair " : Str) ++ d1.label ++ (" " : Str) ++ d2.label ++ (")" : Str)
  names := pairNames d1 d2
  nv := d1.nv * d2.names.length + d2.nv
  sl := d1.sl * d2.names.length + d2.sl
  dep := depL [d1, d2]
  th := fun a b => d1.th (a / d2.names.length) (b / d2.names.length) * d2.names.length + d2.th (a % d2.names.length) (b % d2.names.length)
  jn := fun a b => d1.jn (a / d2.names.length) (b / d2.names.length) * d2.names.length + d2.jn (a % d2.names.length) (b % d2.names.length)
def turnSD (d : SD) : SD where
  label := ("(turned " : Str) ++ d.label ++ (")" : Str)
  names := d.names
  nv := d.nv
  sl := d.sl
  dep := depL [d]
  th := fun a b => d.th b a
  jn := d.jn
/-- what is known of a scale beside what it holds -/
structure SdOk (d : SD) : Prop where
  nd : d.names.Nodup
  l1 : 1 ≤ d.names.length
  l2 : d.names.length ≤ 64
  sh : ∀ nm ∈ d.names, nm.length ≤ 100000
  ll : d.label.length ≤ 1000000
  nv : 0 ≤ d.nv ∧ d.nv < d.names.length
  sl : 0 ≤ d.sl ∧ d.sl < d.names.length
  th : ∀ a b, a < d.names.length → b < d.names.length → 0 ≤ d.th a b ∧ d.th a b < d.names.length
  jn : ∀ a b, a < d.names.length → b < d.names.length → 0 ≤ d.jn a b ∧ d.jn a b < d.names.length
theorem flat_len {α : Type} (f : Nat → Nat → α) (c : Nat) : ∀ m, ((List.range m).flatMap fun a => (List.range c).map fun b => f a b).length = m * c := by
  intro m
  induction m with
  | zero => simp
  | succ m ih => rw [List.range_succ, List.flatMap_append, List.length_append, ih, List.flatMap_cons, List.flatMap_nil, List.append_nil, List.length_map, List.length_range, Nat.succ_mul]
theorem flat_get {α : Type} (f : Nat → Nat → α) (c : Nat) : ∀ m a b, a < m → b < c → ((List.range m).flatMap fun a => (List.range c).map fun b => f a b)[a * c + b]? = some (f a b) := by
  intro m
  induction m with
  | zero => intro a b h; omega
  | succ m ih =>
    intro a b ha hb
    rw [List.range_succ, List.flatMap_append, List.flatMap_cons, List.flatMap_nil, List.append_nil]
    have hl := flat_len f c m
    by_cases h : a < m
    · have : a * c + b < m * c := by
        have : (a + 1) * c ≤ m * c := Nat.mul_le_mul_right c (by omega)
        rw [Nat.succ_mul] at this
        omega
      rw [List.getElem?_append_left (by rw [hl]; exact this)]
      exact ih a b h hb
    · have e : a = m := by omega
      subst e
      rw [List.getElem?_append_right (by rw [hl]; omega), hl, Nat.add_sub_cancel_left, List.getElem?_map, List.getElem?_range hb]
      rfl
theorem pairNames_len (d1 d2 : SD) : (pairNames d1 d2).length = d1.names.length * d2.names.length := flat_len _ _ _
theorem getD_names {d : SD} {a : Nat} (h : a < d.names.length) : d.names[a]? = some (d.names.getD a ("" : Str)) := by
  rw [List.getD_eq_getElem?_getD, List.getElem?_eq_getElem h]
  rfl
theorem getD_mem {d : SD} {a : Nat} (h : a < d.names.length) : d.names.getD a ("" : Str) ∈ d.names := List.mem_of_getElem? (getD_names h)
/-- the pairs of places -/
def pairsL (n1 n2 : Nat) : List (Int × Int) := (List.range n1).flatMap fun a => (List.range n2).map fun b => (((a : Nat) : Int), ((b : Nat) : Int))
theorem pairs_idx {n1 n2 a b : Nat} (ha : a < n1) (hb : b < n2) : (pairsL n1 n2).idxOf (((a : Nat) : Int), ((b : Nat) : Int)) = a * n2 + b := by
  have hg : (pairsL n1 n2)[a * n2 + b]? = some (((a : Nat) : Int), ((b : Nat) : Int)) := flat_get _ _ _ _ _ ha hb
  obtain ⟨hlt, hge⟩ := List.getElem?_eq_some_iff.mp hg
  have hl : (pairsL n1 n2).length = n1 * n2 := flat_len _ _ _
  have nd : (pairsL n1 n2).Nodup := by
    unfold List.Nodup
    rw [List.pairwise_iff_getElem]
    intro i j hi hj hij e
    have key : ∀ k (hk : k < (pairsL n1 n2).length), (pairsL n1 n2)[k] = (((k / n2 : Nat) : Int), ((k % n2 : Nat) : Int)) := fun k hk => by
      have hk' : k < n1 * n2 := by omega
      have hn2 : 0 < n2 := by omega
      have h1 : k / n2 < n1 := Nat.div_lt_of_lt_mul (by rw [Nat.mul_comm]; exact hk')
      have h2 : k % n2 < n2 := Nat.mod_lt _ hn2
      have hg2 := flat_get (fun a b => (((a : Nat) : Int), ((b : Nat) : Int))) n2 n1 (k / n2) (k % n2) h1 h2
      have e2 : k / n2 * n2 + k % n2 = k := by rw [Nat.mul_comm]; exact Nat.div_add_mod k n2
      rw [e2] at hg2
      exact (List.getElem?_eq_some_iff.mp hg2).2
    rw [key i hi, key j hj] at e
    have e1 : i / n2 = j / n2 := by exact_mod_cast (Prod.mk.inj e).1
    have e2 : i % n2 = j % n2 := by exact_mod_cast (Prod.mk.inj e).2
    have a1 := Nat.div_add_mod i n2
    have a2 := Nat.div_add_mod j n2
    rw [e1, e2] at a1
    omega
  rw [← hge, nd.idxOf_getElem _ hlt]
/-! promises -/
def PDep (K : PySem.W.Frag) (Cs : List Addr) : List V → Hp → HR → Prop := fun vs G R => ∃ (size : Int) (p : Addr) (xs : List V) (ds : List SD), vs = [.int size, .ref p] ∧ G p = some (.tup xs) ∧ RL (IsScD K Cs) ds xs G ∧ size ≤ 64 ∧ depL ds ≤ 10 ∧ R = IsV (.int (depL ds))
def PDepC (K : PySem.W.Frag) (Cs : List Addr) : List V → Hp → HR → Prop := fun vs G R => ∃ (size : Int) (xs : List V) (ds : List SD), vs = .int size :: xs ∧ xs.length ≤ 100 ∧ RL (IsScD K Cs) ds xs G ∧ size ≤ 64 ∧ depL ds ≤ 10 ∧ R = IsV (.int (depL ds))
def PHalf : List V → Hp → HR → Prop := fun vs G R => ∃ (a n : Nat), vs = [.int (a : Nat), .int (n : Nat)] ∧ 0 < n ∧ n < 1000 ∧ R = fun v G' => ∃ p, v = .ref p ∧ G' p = some (.tup [.int ((a / n : Nat)), .int ((a % n : Nat))])
/-- make_then, make_join of a pair -/
def PPrM (K : PySem.W.Frag) (Cs : List Addr) (C0 : Addr) (pk : SD → Nat → Nat → Int) : List V → Hp → HR → Prop := fun vs G R => ∃ (x dx l r : Addr) (fs : List (Str × V)) (d1 d2 : SD) (a b : Nat), vs = [.ref x, .int (a : Nat), .int (b : Nat)] ∧ G x = some (.ins C0 dx fs) ∧ fs.lookup ("left" : Str) = some (.ref l) ∧ fs.lookup ("right" : Str) = some (.ref r) ∧
  ScD K Cs d1 l G ∧ ScD K Cs d2 r G ∧ SdOk d1 ∧ SdOk d2 ∧ a < d1.names.length * d2.names.length ∧ b < d1.names.length * d2.names.length ∧ R = IsV (.int (pk (pairSD d1 d2) a b))
def PTuM (K : PySem.W.Frag) (Cs : List Addr) (C0 : Addr) (pk : SD → Nat → Nat → Int) : List V → Hp → HR → Prop := fun vs G R => ∃ (x dx l : Addr) (fs : List (Str × V)) (d : SD) (a b : Nat), vs = [.ref x, .int (a : Nat), .int (b : Nat)] ∧ G x = some (.ins C0 dx fs) ∧ fs.lookup ("inner" : Str) = some (.ref l) ∧
  ScD K Cs d l G ∧ a < d.names.length ∧ b < d.names.length ∧ R = IsV (.int (pk (turnSD d) a b))
def ScI (d : SD) (fs : List (Str × V)) (G : Hp) : Prop := ScIs d.label d.names d.nv d.sl d.dep d.th d.jn fs G
def PPrI (K : PySem.W.Frag) (Cs : List Addr) (C0 : Addr) : Addr → List (Str × V) → List V → Hp → OR → Prop := fun C fs rest G R => C = C0 ∧ fs = [] ∧ ∃ (l r : Addr) (d1 d2 : SD), rest = [.ref l, .ref r] ∧ ScD K Cs d1 l G ∧ ScD K Cs d2 r G ∧ SdOk d1 ∧ SdOk d2 ∧ d1.names.length * d2.names.length ≤ 64 ∧ depL [d1, d2] ≤ 10 ∧ (pairNames d1 d2).Nodup ∧
  R = fun _ _ fs' G' => ScI (pairSD d1 d2) fs' G' ∧ (∀ f, f ∉ scF → f ≠ ("left" : Str) → f ≠ ("right" : Str) → fs'.lookup f = none) ∧ fs'.lookup ("left" : Str) = some (.ref l) ∧ fs'.lookup ("right" : Str) = some (.ref r)
def PTuI (K : PySem.W.Frag) (Cs : List Addr) (C0 : Addr) : Addr → List (Str × V) → List V → Hp → OR → Prop := fun C fs rest G R => C = C0 ∧ fs = [] ∧ ∃ (l : Addr) (d : SD), rest = [.ref l] ∧ ScD K Cs d l G ∧ SdOk d ∧ depL [d] ≤ 10 ∧
  R = fun _ _ fs' G' => ScI (turnSD d) fs' G' ∧ (∀ f, f ∉ scF → f ≠ ("inner" : Str) → fs'.lookup f = none) ∧ fs'.lookup ("inner" : Str) = some (.ref l)
theorem lay_prL : ∀ ss : List (Int × Int), PyData.canLayAll0 (ss.map prd) = true ∧ PyData.depthAll (ss.map prd) ≤ 1 := by
  intro ss
  induction ss with
  | nil => simp [PyData.canLayAll0, PyData.depthAll]
  | cons s r ih => simp [PyData.canLayAll0, PyData.canLay0, PyData.depthAll, PyData.depth, prd, ih.1, ih.2]
/-- l.index of a pair -/
theorem idx_prL {K : PySem.W.Frag} {G : Hp} {S : SR} {p : Addr} {ss : List (Int × Int)} {ws : List V} {s : Int × Int} {y : V} (st : Stab S) (h : SqL K G p ws) (hw : RL IsPr ss ws G) (hs : s ∈ ss) (hy : IsPr s y G) : RC S (rIndexD K (.ref p)) [y] G (IsV (.int (ss.idxOf s : Nat))) := by
  have hj : ss.idxOf s < ss.length := List.idxOf_lt_length_iff.mpr hs
  refine c_indexD (z := prd s) (d := prd s) (ds := ss.map prd) st (.lst h (dp_prs hw)) (dp_pr hy) ?_ (by simp [SeqAt.shaped, prd, PyData.canLay0, PyData.canLayAll0, PyData.depth, PyData.depthAll]) ?_ (by rw [prd_eqv]; simp) (fun k z hk hz => ?_)
  · unfold SeqAt.shaped
    rw [Bool.and_eq_true]
    refine ⟨by simp only [PyData.canLay0]; exact (lay_prL ss).1, decide_eq_true ?_⟩
    have := (lay_prL ss).2
    show PyData.depthAll (ss.map prd) + 1 ≤ 64
    omega
  · rw [List.getElem?_map, List.getElem?_eq_getElem hj, List.getElem_idxOf hj]
    rfl
  · obtain ⟨hk', rfl⟩ := map_get hz
    rw [prd_eqv, decide_eq_false]
    have h0 := List.not_of_lt_findIdx (p := fun x => x == s) (xs := ss) hk
    intro e
    rw [e] at h0
    simp at h0
theorem pairs_mem {n1 n2 a b : Nat} (ha : a < n1) (hb : b < n2) : (((a : Nat) : Int), ((b : Nat) : Int)) ∈ pairsL n1 n2 := List.mem_of_getElem? (flat_get (fun a b => (((a : Nat) : Int), ((b : Nat) : Int))) n2 n1 a b ha hb)
end L2.DS
/-! The law's own rows of pairs and turned scales. -/
namespace L2.DS
open PySem PySem.Spec PyProof.Rows
/-- a table of whole numbers -/
def IsIRow (n : Nat) (f : Nat → Int) : HR := fun v G => ∃ q, v = .ref q ∧ G q = some (.lst ((List.range n).map fun b => V.int (f b)))
instance (n f) : Mon (IsIRow n f) := ⟨fun s ⟨q, e, h⟩ => ⟨q, e, s _ _ h⟩⟩
def TabN (G : Hp) (p : Addr) (n : Nat) (f : Nat → Nat → Int) : Prop := ∃ vs, G p = some (.lst vs) ∧ RL (fun a => IsIRow n (f a)) (List.range n) vs G
theorem TabN.mono {G G' : Hp} {p : Addr} {n : Nat} {f : Nat → Nat → Int} (h : TabN G p n f) (s : Same G G') : TabN G' p n f := let ⟨vs, a, b⟩ := h; ⟨vs, s _ _ a, rl_mon s b⟩
theorem TabN.at {G : Hp} {p : Addr} {n : Nat} {f : Nat → Nat → Int} (h : TabN G p n f) : ∃ vs, G p = some (.lst vs) ∧ vs.length = n ∧ ∀ a, a < n → ∃ q, vs[a]? = some (.ref q) ∧ G q = some (.lst ((List.range n).map fun b => V.int (f a b))) := by
  obtain ⟨vs, hp, rl⟩ := h
  have lv := rl_len rl
  rw [List.length_range] at lv
  refine ⟨vs, hp, lv, fun a ha => ?_⟩
  obtain ⟨u, hu, q, rfl, hq⟩ := rl_get rl (List.getElem?_range ha)
  exact ⟨q, hu, hq⟩
theorem rowAt {n : Nat} {f : Nat → Int} {b : Nat} (hb : b < n) : atI ((List.range n).map fun b => V.int (f b)) ((b : Nat) : Int) = some (.int (f b)) := atI_nat (by rw [List.getElem?_map, List.getElem?_range hb]; rfl)
/-- the rows of a scale as the law holds them -/
def RowsAt (G : Hp) (p : Addr) (d : SD) : Prop := ∃ pn pj pp, G p = some (.lst [.ref pn, .ref pj, .ref pp, .int d.nv, .int d.sl]) ∧ G pn = some (.lst (d.names.map V.str)) ∧ TabN G pj d.names.length d.jn ∧ TabN G pp d.names.length d.th
theorem RowsAt.mono {G G' : Hp} {p : Addr} {d : SD} (h : RowsAt G p d) (s : Same G G') : RowsAt G' p d := let ⟨a, b, c, h1, h2, h3, h4⟩ := h; ⟨a, b, c, s _ _ h1, s _ _ h2, h3.mono s, h4.mono s⟩
def IsRows (d : SD) : HR := fun v G => ∃ p, v = .ref p ∧ RowsAt G p d
instance (d) : Mon (IsRows d) := ⟨fun s ⟨p, e, h⟩ => ⟨p, e, h.mono s⟩⟩
def rnames (sign : Str) (m : Nat) : List Str := (List.range m).map fun k => sign ++ (toString (((m : Nat) : Int) - (k : Nat)) : Str)
/-- rows drawn for m names -/
structure RowOk (sign : Str) (m : Nat) (d : SD) : Prop where
  nm : d.names = rnames sign m
  nv : 0 ≤ d.nv ∧ d.nv < m
  sl : 0 ≤ d.sl ∧ d.sl < m
  th : ∀ a b, a < m → b < m → 0 ≤ d.th a b ∧ d.th a b < m
  jn : ∀ a b, a < m → b < m → 0 ≤ d.jn a b ∧ d.jn a b < m
def pairN (l1 l2 : List Str) : List Str := (List.range l1.length).flatMap fun a => (List.range l2.length).map fun b => ("<" : Str) ++ l1.getD a ("" : Str) ++ ("/" : Str) ++ l2.getD b ("" : Str) ++ (">" : Str)
/-- two scales' rows told alike -/
structure Tells (ds dr : SD) (turned : Bool) : Prop where
  nm : ds.names = dr.names
  nv : ds.nv = dr.nv
  sl : ds.sl = dr.sl
  th : ∀ a b, a < dr.names.length → b < dr.names.length → ds.th a b = if turned then dr.th b a else dr.th a b
  jn : ∀ a b, a < dr.names.length → b < dr.names.length → ds.jn a b = dr.jn a b
theorem SdOk.turn {d : SD} (o : SdOk d) (h : d.label.length ≤ 900000) : SdOk (turnSD d) := by
  refine ⟨o.nd, o.l1, o.l2, o.sh, ?_, o.nv, o.sl, fun a b ha hb => o.th b a hb ha, o.jn⟩
  show (("(turned " : Str) ++ d.label ++ (")" : Str)).length ≤ _
  have c1 : ("(turned " : Str).length = 8 ∧ (")" : Str).length = 1 := by decide +kernel
  rw [Str.length_append, Str.length_append]
  omega
theorem pairs_bd {n1 n2 : Nat} {u v : Int} (u0 : 0 ≤ u) (u1 : u < n1) (v0 : 0 ≤ v) (v1 : v < n2) : 0 ≤ u * n2 + v ∧ u * n2 + v < ((n1 * n2 : Nat) : Int) := by
  obtain ⟨a, rfl⟩ : ∃ a : Nat, u = (a : Nat) := ⟨u.toNat, by omega⟩
  obtain ⟨b, rfl⟩ : ∃ b : Nat, v = (b : Nat) := ⟨v.toNat, by omega⟩
  have ha : a < n1 := by omega
  have hb : b < n2 := by omega
  have e : ((a : Nat) : Int) * ((n2 : Nat) : Int) + ((b : Nat) : Int) = ((a * n2 + b : Nat) : Int) := by rw [Int.natCast_add, Int.natCast_mul]
  rw [e]
  have : (a + 1) * n2 ≤ n1 * n2 := Nat.mul_le_mul_right n2 (by omega)
  rw [Nat.succ_mul] at this
  omega
theorem SdOk.pair {d1 d2 : SD} (o1 : SdOk d1) (o2 : SdOk d2) (h64 : d1.names.length * d2.names.length ≤ 64) (nd : (pairNames d1 d2).Nodup) (sh : ∀ nm ∈ pairNames d1 d2, nm.length ≤ 100000) (h1 : d1.label.length ≤ 400000) (h2 : d2.label.length ≤ 400000) : SdOk (pairSD d1 d2) := by
  have hl : (pairSD d1 d2).names.length = d1.names.length * d2.names.length := pairNames_len d1 d2
  have b1 : ∀ {c : Nat}, c < d1.names.length * d2.names.length → c / d2.names.length < d1.names.length := fun h => Nat.div_lt_of_lt_mul (by rw [Nat.mul_comm]; exact h)
  have b2 : ∀ {c : Nat}, c % d2.names.length < d2.names.length := Nat.mod_lt _ o2.l1
  refine ⟨nd, ?_, by rw [hl]; exact h64, sh, ?_, ?_, ?_, fun a b ha hb => ?_, fun a b ha hb => ?_⟩
  · rw [hl]
    exact Nat.mul_pos o1.l1 o2.l1
  · show (("(pair " : Str) ++ d1.label ++ (" " : Str) ++ d2.label ++ (")" : Str)).length ≤ _
    have c1 : ("(pair " : Str).length = 6 ∧ (" " : Str).length = 1 ∧ (")" : Str).length = 1 := by decide +kernel
    rw [Str.length_append, Str.length_append, Str.length_append, Str.length_append]
    omega
  · rw [hl]
    exact pairs_bd o1.nv.1 o1.nv.2 o2.nv.1 o2.nv.2
  · rw [hl]
    exact pairs_bd o1.sl.1 o1.sl.2 o2.sl.1 o2.sl.2
  · rw [hl] at ha hb ⊢
    have t1 := o1.th _ _ (b1 ha) (b1 hb)
    have t2 := o2.th _ _ (b2 (c := a)) (b2 (c := b))
    exact pairs_bd t1.1 t1.2 t2.1 t2.2
  · rw [hl] at ha hb ⊢
    have t1 := o1.jn _ _ (b1 ha) (b1 hb)
    have t2 := o2.jn _ _ (b2 (c := a)) (b2 (c := b))
    exact pairs_bd t1.1 t1.2 t2.1 t2.2
/-! the table scale made of rows -/
def rowsS (names : List Str) (f : Nat → Nat → Int) : List (List Str) := (List.range names.length).map fun a => (List.range names.length).map fun b => names.getD (f a b).toNat ("" : Str)
theorem rowsS_ok {names : List Str} {f : Nat → Nat → Int} (h : ∀ a b, a < names.length → b < names.length → 0 ≤ f a b ∧ f a b < names.length) : (rowsS names f).length = names.length ∧ ∀ r ∈ rowsS names f, r.length = names.length ∧ ∀ e ∈ r, e ∈ names := by
  unfold rowsS
  refine ⟨by rw [List.length_map, List.length_range], fun r hr => ?_⟩
  obtain ⟨a, ha, rfl⟩ := List.mem_map.mp hr
  have ha := List.mem_range.mp ha
  refine ⟨by rw [List.length_map, List.length_range], fun e he => ?_⟩
  obtain ⟨b, hb, rfl⟩ := List.mem_map.mp he
  have hb := List.mem_range.mp hb
  have := h a b ha hb
  have hi : (f a b).toNat < names.length := by omega
  rw [List.getD_eq_getElem?_getD, List.getElem?_eq_getElem hi]
  exact List.getElem_mem hi
theorem idx_getD {names : List Str} (nd : names.Nodup) {i : Nat} (h : i < names.length) : names.getD i ("" : Str) ∈ names ∧ names.idxOf (names.getD i ("" : Str)) = i := by
  have e : names.getD i ("" : Str) = names[i] := by rw [List.getD_eq_getElem?_getD, List.getElem?_eq_getElem h]; rfl
  rw [e]
  exact ⟨List.getElem_mem h, nd.idxOf_getElem i h⟩
theorem idxT_rows {names : List Str} {f : Nat → Nat → Int} (nd : names.Nodup) (h : ∀ a b, a < names.length → b < names.length → 0 ≤ f a b ∧ f a b < names.length) {a b : Nat} (ha : a < names.length) (hb : b < names.length) : idxT names (rowsS names f) a b = f a b := by
  unfold idxT rowsS
  have := h a b ha hb
  have e : (((List.range names.length).map fun a => (List.range names.length).map fun b => names.getD (f a b).toNat ("" : Str)).getD a []).getD b ("" : Str) = names.getD (f a b).toNat ("" : Str) := by
    rw [List.getD_eq_getElem?_getD, List.getD_eq_getElem?_getD, List.getElem?_map, List.getElem?_range ha]
    show (((List.range names.length).map fun b => names.getD (f a b).toNat ("" : Str))[b]?).getD _ = _
    rw [List.getElem?_map, List.getElem?_range hb]
    rfl
  rw [e, (idx_getD nd (show (f a b).toNat < names.length by omega)).2]
  omega
/-! promises -/
/-- rows drawn -/
def IsTabl (sign : Str) : HR := fun v G => ∃ (m : Nat) (d : SD), 1 ≤ m ∧ m < 5 ∧ IsRows d v G ∧ RowOk sign m d
instance (sign) : Mon (IsTabl sign) := ⟨fun s ⟨m, d, a, b, h, o⟩ => ⟨m, d, a, b, Mon.mon s h, o⟩⟩
theorem rl_of_get {α : Type} {R : α → HR} {G : Hp} : ∀ {ss : List α} {ys : List V}, ys.length = ss.length → (∀ (i : Nat) s y, ss[i]? = some s → ys[i]? = some y → R s y G) → RL R ss ys G
  | [], ys, h, _ => by
    cases ys with
    | nil => rfl
    | cons a r => cases h
  | s :: r, ys, h, hr => by
    cases ys with
    | nil => cases h
    | cons y ys => exact ⟨y, ys, rfl, hr 0 s y rfl rfl, rl_of_get (by simpa using h) fun i s' y' a b => hr (i + 1) s' y' a b⟩
def IsRI (m : Nat) : HR := fun v G => ∃ fr : Nat → Int, IsIRow m fr v G ∧ ∀ b, b < m → 0 ≤ fr b ∧ fr b < m
instance (m) : Mon (IsRI m) := ⟨fun s ⟨fr, a, b⟩ => ⟨fr, Mon.mon s a, b⟩⟩
theorem tabN_of {m : Nat} {ys : List V} {G : Hp} (hl : ys.length = m) (h : ∀ (i : Nat) y, ys[i]? = some y → IsRI m y G) : ∃ f : Nat → Nat → Int, RL (fun a => IsIRow m (f a)) (List.range m) ys G ∧ ∀ a b, a < m → b < m → 0 ≤ f a b ∧ f a b < m := by
  have z : ∀ i : Nat, ∃ fr : Nat → Int, ∀ y, ys[i]? = some y → IsIRow m fr y G ∧ ∀ b, b < m → 0 ≤ fr b ∧ fr b < m := fun i => by
    cases e : ys[i]? with
    | none => exact ⟨fun _ => 0, fun y hy => by cases hy⟩
    | some y =>
      obtain ⟨fr, a, b⟩ := h i y e
      exact ⟨fr, fun y' hy => by cases hy; exact ⟨a, b⟩⟩
  refine ⟨fun i => Classical.choose (z i), rl_of_get (by rw [List.length_range]; exact hl) fun i s y hs hy => ?_, fun a b ha hb => ?_⟩
  · have hi : i < m := by
      have := (List.getElem?_eq_some_iff.mp hs).1
      rw [List.length_range] at this
      exact this
    rw [List.getElem?_range hi] at hs
    obtain rfl := Option.some.inj hs
    exact (Classical.choose_spec (z i) y hy).1
  · have e : ys[a]? = some ys[a] := List.getElem?_eq_getElem (by omega)
    exact (Classical.choose_spec (z a) _ e).2 b hb
/-- a row of drawn whole numbers -/
theorem ri_of {m : Nat} {p : Addr} {ys : List V} {G : Hp} (hp : G p = some (.lst ys)) (hl : ys.length = m) (h : ∀ (i : Nat) y, ys[i]? = some y → IsI (fun r => 0 ≤ r ∧ r < m) y G) : IsRI m (.ref p) G := by
  refine ⟨fun i => match ys[i]? with | some (.int r) => r | _ => 0, ⟨p, rfl, ?_⟩, fun b hb => ?_⟩
  · rw [hp]
    refine congrArg (fun z => some (HO.lst z)) (List.ext_getElem? fun j => ?_)
    rw [List.getElem?_map]
    by_cases hj : j < m
    · rw [List.getElem?_range hj]
      have e : ys[j]? = some ys[j] := List.getElem?_eq_getElem (by omega)
      obtain ⟨r, _, hr⟩ := h j _ e
      rw [e, hr]
      show _ = some (V.int (match ys[j]? with | some (.int r) => r | _ => 0))
      rw [e, hr]
    · rw [List.getElem?_eq_none (by omega), List.getElem?_eq_none (by rw [List.length_range]; omega)]
      rfl
  · have e : ys[b]? = some ys[b] := List.getElem?_eq_getElem (by omega)
    obtain ⟨r, hr, he⟩ := h b _ e
    show 0 ≤ (match ys[b]? with | some (.int r) => r | _ => 0) ∧ (match ys[b]? with | some (.int r) => r | _ => 0) < _
    rw [e, he]
    exact hr
section
variable {S : SR} {n ka kb : Nat} {t tk : TA} {σ : L2.St} {G : Hp} {R : OR} {C : Addr} {E : XK} {zs : List V} {m1 m2 : Nat} {gV : List V → List V → List V} {RA : HRs}
/-- C(.., k = v), the positional arguments as RA tells -/
theorem ev_makeKR (st : Stab S) [Mons RA] {P : Addr → List (Str × V) → List V → Hp → OR → Prop} (h : EvA S n ka t σ G RA) (hk : EvA S (n + ka) kb tk σ G (IsVs zs)) (l1 : ∀ vs G', RA vs G' → vs.length = m1) (l2 : zs.length = m2)
    (hp : ∀ vs G', Same G G' → RA vs G' → ∃ rest, (∀ x, gV (.ref x :: vs) zs = .ref x :: rest) ∧ P C [] rest G' R) : Ev S n (ka + kb) (tMakeK C m1 m2 (spI P) gV E t tk) σ G (IsO C R) := fun G1 H1 s0 s Q q =>
  h G1 H1 s0 s _ fun vs G2 H2 s2 e => hk G2 H2 (s0.trans s2.g) s2.s _ fun us G3 H3 s3 e' => by
    obtain rfl : us = zs := e'
    have e3 := Mons.mon (R := RA) s3.g e
    obtain ⟨rest, hg, hP⟩ := hp vs G3 ((s0.trans s2.g).trans s3.g) e3
    refine ⟨l1 vs G2 e, l2, fun x dx hx hd nd => ?_⟩
    obtain ⟨a, b⟩ := made_start (C := C) (x := x) (dx := dx) st s3.s hx hd
    refine ⟨x, C, dx, [], rest, G3, R, hg x, upd_same, a, b, hP, fun fs' G' H' w r => ⟨rfl, ?_⟩⟩
    exact q (.ref x) _ H' ((s2.trans s3).trans (made_stp st s3.s hx hd nd w)).up ⟨x, dx, fs', G', rfl, w.2.1, Same.refl _, r⟩
end
theorem Tells.pair {d1 d2 e1 e2 : SD} (h1 : Tells e1 d1 false) (h2 : Tells e2 d2 false) (l2 : 0 < d2.names.length) : Tells (pairSD e1 e2) (pairSD d1 d2) false := by
  have hl : (pairSD d1 d2).names.length = d1.names.length * d2.names.length := pairNames_len d1 d2
  have n2 : e2.names.length = d2.names.length := by rw [h2.nm]
  have b1 : ∀ {c : Nat}, c < d1.names.length * d2.names.length → c / d2.names.length < d1.names.length := fun h => Nat.div_lt_of_lt_mul (by rw [Nat.mul_comm]; exact h)
  have b2 : ∀ {c : Nat}, c % d2.names.length < d2.names.length := Nat.mod_lt _ l2
  refine ⟨?_, ?_, ?_, fun a b ha hb => ?_, fun a b ha hb => ?_⟩
  · show pairNames e1 e2 = pairNames d1 d2
    unfold pairNames
    rw [h1.nm, h2.nm]
  · show e1.nv * e2.names.length + e2.nv = d1.nv * d2.names.length + d2.nv
    rw [h1.nv, h2.nv, n2]
  · show e1.sl * e2.names.length + e2.sl = d1.sl * d2.names.length + d2.sl
    rw [h1.sl, h2.sl, n2]
  · rw [hl] at ha hb
    show e1.th (a / e2.names.length) (b / e2.names.length) * e2.names.length + e2.th (a % e2.names.length) (b % e2.names.length) = d1.th (a / d2.names.length) (b / d2.names.length) * d2.names.length + d2.th (a % d2.names.length) (b % d2.names.length)
    rw [n2, h1.th _ _ (b1 ha) (b1 hb), h2.th _ _ b2 b2]
    rfl
  · rw [hl] at ha hb
    show e1.jn (a / e2.names.length) (b / e2.names.length) * e2.names.length + e2.jn (a % e2.names.length) (b % e2.names.length) = d1.jn (a / d2.names.length) (b / d2.names.length) * d2.names.length + d2.jn (a % d2.names.length) (b % d2.names.length)
    rw [n2, h1.jn _ _ (b1 ha) (b1 hb), h2.jn _ _ b2 b2]
theorem Tells.turn {ds dr : SD} {t : Bool} (h : Tells ds dr t) : Tells (turnSD ds) dr (!t) := by
  refine ⟨h.nm, h.nv, h.sl, fun a b ha hb => ?_, h.jn⟩
  show ds.th b a = _
  rw [h.th b a hb ha]
  cases t <;> rfl
section
variable {K : PySem.W.Frag} {Cs : List Addr} {C : Addr} {G : Hp} {v : V} {d d1 d2 : SD} {l r : Addr}
theorem ScI.to {fs : List (Str × V)} {x dx : Addr} (hCs : C ∈ Cs) (hC : ClsOk K C) (hx : G x = some (.ins C dx fs)) (h : ScI d fs G) (hm : ∀ f ∈ metF, fs.lookup f = none) : ScD K Cs d x G := ⟨C, hCs, hC, dx, fs, hx, h, hm⟩
theorem ScI.mono' {fs : List (Str × V)} {G G' : Hp} (h : ScI d fs G) (s : Same G G') : ScI d fs G' := ScIs.mono h s
end
theorem depL1 {d : SD} (h : 1 ≤ d.dep) : depL [d] = d.dep + 1 := by
  unfold depL
  simp [h]
theorem depL2 {d1 d2 : SD} (h1 : d1.dep = 1) (h2 : d2.dep = 1) : depL [d1, d2] = 2 := by
  unfold depL
  simp [h1, h2]
end L2.DS
/-! Scales of heaps. -/
namespace L2.DS
open PySem PySem.Spec PyProof.Rows
/-- the places that a number tells -/
def bitsOf (n : Nat) (a : Nat) : List Nat := (List.range n).filter fun k => decide (Builtin.bitAnd (((a : Nat) : Int) / 2 ^ k) 1 = 1)
def heapName (names : List Str) (a : Nat) : Str := ("{" : Str) ++ Txt.join ("," : Str) ((bitsOf names.length a).map fun k => names.getD k ("" : Str)) ++ ("}" : Str)
def heapNames (names : List Str) : List Str := (List.range (2 ^ names.length)).map (heapName names)
/-- the sets of all products -/
def hth (n : Nat) (th : Nat → Nat → Int) (a b : Nat) : Int := (bitsOf n a).foldl (fun f k => (bitsOf n b).foldl (fun f l => Builtin.bitOr f (1 * 2 ^ (th k l).toNat)) f) 0
def heapSD (d : SD) : SD where
  label := ("(heap " : Str) ++ d.label ++ (")" : Str)
  names := heapNames d.names
  nv := 0
  sl := 1 * 2 ^ d.sl.toNat
  dep := depL [d]
  th := hth d.names.length d.th
  jn := fun a b => Builtin.bitOr (a : Nat) (b : Nat)
theorem heapNames_len (names : List Str) : (heapNames names).length = 2 ^ names.length := by unfold heapNames; rw [List.length_map, List.length_range]
theorem bits_lt {n a k : Nat} (h : k ∈ bitsOf n a) : k < n := List.mem_range.mp (List.mem_filter.mp h).1
theorem bits_len (n a : Nat) : (bitsOf n a).length ≤ n := by
  have := List.length_filter_le (fun k => decide (Builtin.bitAnd (((a : Nat) : Int) / 2 ^ k) 1 = 1)) (List.range n)
  rw [List.length_range] at this
  exact this
/-! bits -/
theorem bor_nat (x y : Nat) : Builtin.bitOr (x : Nat) (y : Nat) = ((x ||| y : Nat) : Int) := by
  have e : ∀ z : Nat, decide ((0 : Int) ≤ Builtin.bitNot (z : Nat)) = false := fun z => by
    unfold Builtin.bitNot
    exact decide_eq_false (by omega)
  have e2 : ∀ z : Nat, (Builtin.bitNot (Builtin.bitNot ((z : Nat) : Int))).toNat = z := fun z => by
    unfold Builtin.bitNot
    omega
  unfold Builtin.bitOr Builtin.bitAnd
  rw [e, e]
  show Builtin.bitNot (Builtin.bitNot ((((Builtin.bitNot (Builtin.bitNot ((x : Nat) : Int))).toNat ||| (Builtin.bitNot (Builtin.bitNot ((y : Nat) : Int))).toNat : Nat)) : Int)) = _
  rw [e2, e2]
  unfold Builtin.bitNot
  omega
theorem band_bit (a k : Nat) : decide (Builtin.bitAnd (((a : Nat) : Int) / 2 ^ k) 1 = 1) = a.testBit k := by
  have e : ((a : Nat) : Int) / 2 ^ k = ((a / 2 ^ k : Nat) : Int) := by
    rw [Int.natCast_ediv, Int.natCast_pow]
    rfl
  rw [e, bit1 _ (Int.natCast_nonneg _)]
  rw [Nat.testBit_eq_decide_div_mod_eq]
  rw [decide_eq_decide]
  omega
/-- what a list of places makes up -/
def orL (L : List Nat) : Nat := L.foldl (fun f k => f ||| 2 ^ k) 0
theorem orL_acc : ∀ (L : List Nat) (f i : Nat), (L.foldl (fun f k => f ||| 2 ^ k) f).testBit i = (f.testBit i || decide (i ∈ L)) := by
  intro L
  induction L with
  | nil => intro f i; simp
  | cons k r ih =>
    intro f i
    rw [List.foldl_cons, ih, Nat.testBit_or, Nat.testBit_two_pow]
    by_cases h : i = k
    · subst h
      simp
    · have h' : ¬ k = i := fun e => h e.symm
      simp [h, h']
theorem orL_bit (L : List Nat) (i : Nat) : (orL L).testBit i = decide (i ∈ L) := by
  unfold orL
  rw [orL_acc]
  simp
/-- products -/
def prodL (n : Nat) (th : Nat → Nat → Int) (a b : Nat) : List Nat := (bitsOf n a).flatMap fun k => (bitsOf n b).map fun l => (th k l).toNat
theorem bor_fold (L : List Nat) : ∀ f : Nat, L.foldl (fun (f : Int) i => Builtin.bitOr f (1 * 2 ^ i)) (f : Nat) = ((L.foldl (fun f i => f ||| 2 ^ i) f : Nat) : Int) := by
  induction L with
  | nil => intro f; rfl
  | cons i r ih =>
    intro f
    have e : (1 : Int) * 2 ^ i = ((2 ^ i : Nat) : Int) := by rw [Int.one_mul, Int.natCast_pow]; rfl
    rw [List.foldl_cons, List.foldl_cons, e, bor_nat, ih]
theorem hth_is (n : Nat) (th : Nat → Nat → Int) (a b : Nat) : hth n th a b = ((orL (prodL n th a b) : Nat) : Int) := by
  unfold hth prodL orL
  have h : ∀ (A : List Nat) (f : Nat), A.foldl (fun (f : Int) k => (bitsOf n b).foldl (fun f l => Builtin.bitOr f (1 * 2 ^ (th k l).toNat)) f) (f : Nat) = (((A.flatMap fun k => (bitsOf n b).map fun l => (th k l).toNat).foldl (fun f k => f ||| 2 ^ k) f : Nat) : Int) := by
    intro A
    induction A with
    | nil => intro f; rfl
    | cons k r ih =>
      intro f
      have e : (bitsOf n b).foldl (fun (f : Int) l => Builtin.bitOr f (1 * 2 ^ (th k l).toNat)) (f : Nat) = ((((bitsOf n b).map fun l => (th k l).toNat).foldl (fun f i => f ||| 2 ^ i) f : Nat) : Int) := by
        have z := bor_fold ((bitsOf n b).map fun l => (th k l).toNat) f
        rw [List.foldl_map] at z
        exact z
      rw [List.foldl_cons, e, ih, List.flatMap_cons, List.foldl_append]
  exact h _ 0
theorem prod_lt {n : Nat} {th : Nat → Nat → Int} {a b : Nat} (h : ∀ k l, k < n → l < n → 0 ≤ th k l ∧ th k l < n) : ∀ i ∈ prodL n th a b, i < n := by
  intro i hi
  obtain ⟨k, hk, hi⟩ := List.mem_flatMap.mp hi
  obtain ⟨l, hl, rfl⟩ := List.mem_map.mp hi
  have := h k l (bits_lt hk) (bits_lt hl)
  omega
theorem orL_lt {n : Nat} {L : List Nat} (h : ∀ i ∈ L, i < n) : orL L < 2 ^ n := by
  refine Nat.lt_pow_two_of_testBit _ fun i hi => ?_
  rw [orL_bit]
  simp
  intro hm
  have := h i hm
  omega
/-- a list of places -/
def IsIL (L : List Nat) : HR := fun v G => ∃ q, v = .ref q ∧ G q = some (.lst (L.map fun k => V.int (k : Nat)))
instance (L) : Mon (IsIL L) := ⟨fun s ⟨q, e, h⟩ => ⟨q, e, s _ _ h⟩⟩
def HeapsAt (n : Nat) (G : Hp) (p : Addr) : Prop := ∃ hs, G p = some (.lst hs) ∧ RL (fun a => IsIL (bitsOf n a)) (List.range (2 ^ n)) hs G
theorem HeapsAt.mono {n : Nat} {G G' : Hp} {p : Addr} (h : HeapsAt n G p) (s : Same G G') : HeapsAt n G' p := let ⟨hs, a, b⟩ := h; ⟨hs, s _ _ a, rl_mon s b⟩
theorem HeapsAt.at {n : Nat} {G : Hp} {p : Addr} (h : HeapsAt n G p) : ∃ hs, G p = some (.lst hs) ∧ hs.length = 2 ^ n ∧ ∀ a, a < 2 ^ n → ∃ q, hs[a]? = some (.ref q) ∧ G q = some (.lst ((bitsOf n a).map fun k => V.int (k : Nat))) := by
  obtain ⟨hs, hp, rl⟩ := h
  have lv := rl_len rl
  rw [List.length_range] at lv
  refine ⟨hs, hp, lv, fun a ha => ?_⟩
  obtain ⟨u, hu, q, rfl, hq⟩ := rl_get rl (List.getElem?_range ha)
  exact ⟨q, hu, hq⟩
def PHpM (K : PySem.W.Frag) (Cs : List Addr) (C0 : Addr) : List V → Hp → HR → Prop := fun vs G R => ∃ (x dx l hp : Addr) (fs : List (Str × V)) (d : SD) (a b : Nat), vs = [.ref x, .int (a : Nat), .int (b : Nat)] ∧ G x = some (.ins C0 dx fs) ∧ fs.lookup ("inner" : Str) = some (.ref l) ∧ fs.lookup ("heaps" : Str) = some (.ref hp) ∧
  ScD K Cs d l G ∧ SdOk d ∧ HeapsAt d.names.length G hp ∧ a < 2 ^ d.names.length ∧ b < 2 ^ d.names.length ∧ R = IsV (.int ((heapSD d).th a b))
def PHpJ : List V → Hp → HR → Prop := fun vs _ R => ∃ (x : Addr) (d : SD) (a b : Nat), vs = [.ref x, .int (a : Nat), .int (b : Nat)] ∧ R = IsV (.int ((heapSD d).jn a b))
def PHpI (K : PySem.W.Frag) (Cs : List Addr) (C0 : Addr) : Addr → List (Str × V) → List V → Hp → OR → Prop := fun C fs rest G R => C = C0 ∧ fs = [] ∧ ∃ (l : Addr) (d : SD), rest = [.ref l] ∧ ScD K Cs d l G ∧ SdOk d ∧ d.names.length ≤ 6 ∧ depL [d] ≤ 10 ∧ (heapNames d.names).Nodup ∧
  R = fun _ _ fs' G' => ScI (heapSD d) fs' G' ∧ (∀ f, f ∉ scF → f ≠ ("inner" : Str) → f ≠ ("heaps" : Str) → fs'.lookup f = none) ∧ fs'.lookup ("inner" : Str) = some (.ref l)
/-- a field of the object that is being made -/
theorem ev_fldOwn {G0 H0 G : Hp} {x C dx : Addr} {fs : List (Str × V)} {n : Nat} {σ : L2.St} {K : PySem.W.Frag} {f : Str} {v : V} (hσ : σ[0]? = some (some (.ref x))) (hC : Cls K C) (hN : NoAttr K C f) (hl : fs.lookup f = some v) : Ev (Own G0 H0 x (.ins C dx fs)) n 0 (tFld K (tVar 0) f) σ G (IsV v) :=
  fun G1 H1 s0 s Q q => ⟨_, hσ, x, C, dx, fs, v, rfl, s.2.2.1, hC, hN, hl, q v G1 H1 (Stp.refl s) rfl⟩
end L2.DS
/-! The law's own rows of heaps. -/
namespace L2.DS
open PySem PySem.Spec PyProof.Rows
/-- rows of a scale as the law holds them -/
def InnAt (K : PySem.W.Frag) (Cs : List Addr) (d : SD) (G : Hp) (p : Addr) : Prop := ∃ x pn pp, G p = some (.lst [.ref x, .ref pn, .ref pp, .int d.sl]) ∧ ScD K Cs d x G ∧ G pn = some (.lst (d.names.map V.str)) ∧ TabN G pp d.names.length d.th
theorem InnAt.mono {K : PySem.W.Frag} {Cs : List Addr} {d : SD} {G G' : Hp} {p : Addr} (h : InnAt K Cs d G p) (s : Same G G') : InnAt K Cs d G' p := let ⟨x, a, b, h1, h2, h3, h4⟩ := h; ⟨x, a, b, s _ _ h1, h2.mono s, s _ _ h3, h4.mono s⟩
def IsInn (K : PySem.W.Frag) (Cs : List Addr) (d : SD) : HR := fun v G => ∃ p, v = .ref p ∧ InnAt K Cs d G p
instance (K Cs d) : Mon (IsInn K Cs d) := ⟨fun s ⟨p, e, h⟩ => ⟨p, e, h.mono s⟩⟩
structure InOk (d : SD) : Prop where
  ok : SdOk d
  n5 : d.names.length ≤ 5
  d0 : 1 ≤ d.dep
  dp : d.dep ≤ 4
  ll : d.label.length ≤ 60000
  hn : (heapNames d.names).Nodup
  sh : ∀ nm ∈ d.names, nm.length ≤ 100
structure FreeOk (sign : Str) (m : Nat) (d : SD) : Prop where
  nm : d.names = rnames sign m
  ok : InOk d
  dp : d.dep = 1
  ll : d.label.length ≤ 20000
def IsFree (K : PySem.W.Frag) (Cs : List Addr) (sign : Str) (mx : Nat) : HR := fun v G => ∃ (m : Nat) (d : SD), 1 ≤ m ∧ m ≤ mx ∧ IsInn K Cs d v G ∧ FreeOk sign m d
instance (K Cs sign mx) : Mon (IsFree K Cs sign mx) := ⟨fun s ⟨m, d, a, b, h, o⟩ => ⟨m, d, a, b, Mon.mon s h, o⟩⟩
def IsInner (K : PySem.W.Frag) (Cs : List Addr) : HR := fun v G => ∃ d : SD, IsInn K Cs d v G ∧ InOk d
instance (K Cs) : Mon (IsInner K Cs) := ⟨fun s ⟨d, h, o⟩ => ⟨d, Mon.mon s h, o⟩⟩
/-! promises -/
section
variable {S : SR} {n k : Nat} {te : TE} {tb u : TS} {σ : L2.St} {G H : Hp} {nx bk ct : L2.St → Hp → Prop} {rt : VK} {K : PySem.W.Frag} {g : TG} {p : Addr} {xs : List V}
/-- for .. in xs, any invariant -/
theorem q_forL1 (s : S n G H) (e : Ev S n k te σ G (IsV (.ref p))) (Pv : Nat → L2.St → Hp → Prop) (hh : ∀ j τ J, Pv j τ J → SqL K J p xs) (h0 : ∀ G' H', Stp S (n + k) G H G' H' → Pv 0 σ H')
    (hs : ∀ (j : Nat) x σ' J, xs[j]? = some x → Pv j σ' J → g x σ' J fun σ2 J2 => tb (Ends.mk (Pv (j + 1)) rt (u (Ends.mk nx rt bk ct)) (Pv (j + 1))) σ2 J2)
    (hd : ∀ σ' J, Pv xs.length σ' J → u (Ends.mk nx rt bk ct) σ' J) : tSeq (tFor (iList K te) g tb) u (Ends.mk nx rt bk ct) σ H := by
  refine e G H (Same.refl _) s _ fun v G1 H1 s1 ev => ⟨p, ev, ⟨xs, hh _ _ _ (h0 _ _ s1)⟩, for_list (K := K) (a := p) (xs := xs) Pv (h0 _ _ s1) (fun j τ J _ hp => hh _ _ _ hp) (fun j x τ J hx hp => hs j x τ J hx hp) fun τ J hp => hd τ J hp⟩
end
theorem TabN.congr {G : Hp} {p : Addr} {n : Nat} {f g : Nat → Nat → Int} (h : TabN G p n f) (e : ∀ a b, a < n → b < n → f a b = g a b) : TabN G p n g := by
  obtain ⟨vs, hp, lv, hat⟩ := h.at
  refine ⟨vs, hp, rl_of_get (by rw [lv, List.length_range]) fun i s y hs hy => ?_⟩
  have hi : i < n := by
    have := (List.getElem?_eq_some_iff.mp hs).1
    rw [List.length_range] at this
    exact this
  rw [List.getElem?_range hi] at hs
  obtain rfl := Option.some.inj hs
  obtain ⟨q, hq, gq⟩ := hat i hi
  rw [hq] at hy
  obtain rfl := Option.some.inj hy
  refine ⟨q, rfl, ?_⟩
  rw [gq]
  exact congrArg (fun z => some (HO.lst z)) (List.map_congr_left fun b hb => by rw [e i b hi (List.mem_range.mp hb)])
/-- the tables of a table scale -/
theorem tbl_sd {names : List Str} {joins : List (List Str)} {th : Nat → Nat → Int} {low : Str} {u : Nat} (T : TbOk names joins (rowsS names th) low (names.getD u ("" : Str))) (hu : u < names.length) (bt : ∀ a b, a < names.length → b < names.length → 0 ≤ th a b ∧ th a b < names.length) :
    SdOk ⟨tbLab names low (names.getD u ("" : Str)) joins (rowsS names th), names, (names.idxOf low : Nat), (names.idxOf (names.getD u ("" : Str)) : Nat), 1, idxT names (rowsS names th), idxT names joins⟩ ∧ (tbLab names low (names.getD u ("" : Str)) joins (rowsS names th)).length ≤ 20000 := by
  have nj := names_join T.ok T.l2
  have jj := joinR_len T.ok T.l2 T.jl T.jr
  have jp := joinR_len T.ok T.l2 T.pl T.pr
  have lf := okNm_len (T.ok _ T.nv)
  have ls := okNm_len (T.ok _ T.sl)
  have hlab : (tbLab names low (names.getD u ("" : Str)) joins (rowsS names th)).length ≤ 20000 := by
    have c1 : ("(table (" : Str).length = 8 ∧ (") " : Str).length = 2 ∧ (" (" : Str).length = 2 ∧ (") (" : Str).length = 3 ∧ ("))" : Str).length = 2 ∧ (" " : Str).length = 1 := by decide +kernel
    unfold tbLab
    simp only [Str.length_append]
    omega
  have ix : ∀ e ∈ names, 0 ≤ ((names.idxOf e : Nat) : Int) ∧ ((names.idxOf e : Nat) : Int) < ((names.length : Nat) : Int) := fun e he => by
    have := List.idxOf_lt_length_iff.mpr he
    omega
  refine ⟨⟨T.nd, T.l1, by have := T.l2; show names.length ≤ 64; omega, fun nm h => by have := okNm_len (T.ok nm h); omega, Nat.le_trans hlab (by decide), ix _ T.nv, ix _ T.sl, fun a b ha hb => ?_, fun a b ha hb => ?_⟩, hlab⟩
  · show 0 ≤ idxT names (rowsS names th) a b ∧ idxT names (rowsS names th) a b < ((names.length : Nat) : Int)
    rw [idxT_rows T.nd bt ha hb]
    exact bt a b ha hb
  · have ha : a < names.length := ha
    have hb : b < names.length := hb
    have haj : a < joins.length := by rw [T.jl]; exact ha
    have e1 : joins[a]? = some joins[a] := List.getElem?_eq_getElem haj
    obtain ⟨r1, r2⟩ := T.jr _ (List.mem_of_getElem? e1)
    have hbr : b < (joins[a]).length := by rw [r1]; exact hb
    refine ix _ ?_
    rw [List.getD_eq_getElem?_getD, List.getD_eq_getElem?_getD, e1]
    show ((joins[a])[b]?).getD _ ∈ names
    rw [List.getElem?_eq_getElem hbr]
    exact r2 _ (List.getElem_mem hbr)
theorem joinC_len (ys : List Str) (L : Nat) (h : ∀ y ∈ ys, y.length ≤ L) : (ys.map (·.length)).sum + ys.length * ("," : Str).length ≤ ys.length * (L + 1) ∧ (Txt.join ("," : Str) ys).length ≤ ys.length * (L + 1) := by
  have e : ("," : Str).length = 1 := by decide +kernel
  have h1 : (ys.map (·.length)).sum + ys.length * 1 ≤ ys.length * (L + 1) := by
    induction ys with
    | nil => simp
    | cons y r ih =>
      have := ih fun z hz => h z (List.mem_cons_of_mem _ hz)
      have hy := h y List.mem_cons_self
      simp only [List.map_cons, List.sum_cons, List.length_cons, Nat.succ_mul]
      omega
  rw [e]
  refine ⟨h1, ?_⟩
  have h2 := StrLaws.join_length_le ("," : Str) ys
  rw [e] at h2
  show (Builtin.Str.glued ("," : Str) ys).length ≤ _
  rw [StrLaws.glued_eq_join]
  omega
theorem heapName_len {names : List Str} (h : ∀ nm ∈ names, nm.length ≤ 100) (h5 : names.length ≤ 5) (a : Nat) : (heapName names a).length ≤ 700 := by
  have hb := bits_len names.length a
  have hall : ∀ y ∈ (bitsOf names.length a).map (fun k => names.getD k ("" : Str)), y.length ≤ 100 := fun y hy => by
    obtain ⟨k, hk, rfl⟩ := List.mem_map.mp hy
    have hk := bits_lt hk
    rw [List.getD_eq_getElem?_getD, List.getElem?_eq_getElem hk]
    exact h _ (List.getElem_mem hk)
  have z := StrLaws.join_length_le ("," : Str) ((bitsOf names.length a).map fun k => names.getD k ("" : Str))
  have z1 : ∀ ys : List Str, (∀ y ∈ ys, y.length ≤ 100) → (ys.map (·.length)).sum + ys.length * 1 ≤ ys.length * 101 := fun ys h => by
    induction ys with
    | nil => simp
    | cons y r ih =>
      have := ih fun z hz => h z (List.mem_cons_of_mem _ hz)
      have hy := h y List.mem_cons_self
      simp only [List.map_cons, List.sum_cons, List.length_cons, Nat.succ_mul]
      omega
  have z2 := z1 _ hall
  have wc : ("," : Str).length = 1 ∧ ("{" : Str).length = 1 ∧ ("}" : Str).length = 1 := by decide +kernel
  rw [wc.1] at z
  have z3 : ((bitsOf names.length a).map fun k => names.getD k ("" : Str)).length ≤ 5 := by rw [List.length_map]; omega
  have z4 := Nat.mul_le_mul_right 101 z3
  unfold heapName
  rw [Str.length_append, Str.length_append]
  have e : (Txt.join ("," : Str) ((bitsOf names.length a).map fun k => names.getD k ("" : Str))).length = (Str.join ("," : Str) ((bitsOf names.length a).map fun k => names.getD k ("" : Str))).length := by
    show (Builtin.Str.glued ("," : Str) _).length = _
    rw [StrLaws.glued_eq_join]
  rw [e]
  have z5 := Nat.le_trans z (Nat.le_trans z2 z4)
  omega
end L2.DS
/-! The inner scales of the law of heaps; tables by two comprehensions. -/
namespace L2.DS
open PySem PySem.Spec PyProof.Rows
theorem cwords_len (t : Nat) : (("never" : Str) :: cwords t).length = t + 2 := by
  unfold cwords
  rw [List.length_cons, List.length_map, List.length_range]
theorem heap_label (d : SD) : (heapSD d).label.length = d.label.length + 7 := by
  have c1 : ("(heap " : Str).length = 6 ∧ (")" : Str).length = 1 := by decide +kernel
  show (("(heap " : Str) ++ d.label ++ (")" : Str)).length = _
  rw [Str.length_append, Str.length_append]
  omega
/-- a scale of heaps -/
theorem heap_sd {d : SD} (o : SdOk d) (h5 : d.names.length ≤ 5) (hn : (heapNames d.names).Nodup) (hs : ∀ nm ∈ d.names, nm.length ≤ 100) (hl : d.label.length ≤ 900000) : SdOk (heapSD d) := by
  have ln : (heapSD d).names.length = 2 ^ d.names.length := heapNames_len d.names
  have l0 : 1 ≤ 2 ^ d.names.length := Nat.one_le_two_pow
  have l5 : 2 ^ d.names.length ≤ 2 ^ 5 := Nat.pow_le_pow_right (by decide) h5
  have hsl := o.sl
  have esl : (heapSD d).sl = ((2 ^ d.sl.toNat : Nat) : Int) := by
    show (1 : Int) * 2 ^ d.sl.toNat = _
    rw [Int.one_mul, Int.natCast_pow]
    rfl
  refine ⟨hn, by omega, by omega, fun nm h => ?_, by rw [heap_label]; omega, ?_, ?_, fun a b ha hb => ?_, fun a b ha hb => ?_⟩
  · obtain ⟨a, ha, rfl⟩ := List.mem_map.mp h
    exact Nat.le_trans (heapName_len hs h5 a) (by decide)
  · show (0 : Int) ≤ 0 ∧ (0 : Int) < ((heapSD d).names.length : Nat)
    omega
  · rw [esl, ln]
    have : 2 ^ d.sl.toNat < 2 ^ d.names.length := Nat.pow_lt_pow_right (by decide) (by omega)
    exact ⟨Int.natCast_nonneg _, Int.ofNat_lt.mpr this⟩
  · rw [ln]
    have := orL_lt (prod_lt (a := a) (b := b) o.th)
    show 0 ≤ hth d.names.length d.th a b ∧ hth d.names.length d.th a b < _
    rw [hth_is]
    omega
  · rw [ln] at ha hb ⊢
    show 0 ≤ Builtin.bitOr (a : Nat) (b : Nat) ∧ Builtin.bitOr (a : Nat) (b : Nat) < _
    rw [bor_nat]
    have := Nat.or_lt_two_pow ha hb
    omega
/-! the law's tables -/
/-- a list of whole numbers -/
def IsIV (L : List Int) : HR := fun v G => ∃ q, v = .ref q ∧ G q = some (.lst (L.map V.int))
instance (L) : Mon (IsIV L) := ⟨fun s ⟨q, e, h⟩ => ⟨q, e, s _ _ h⟩⟩
section
variable {S : SR} {m k0 k1 : Nat} {el : TE} {ta tb : TA} {σ : L2.St} {G : Hp} {K : PySem.W.Frag} {i ja jb n : Nat} {p : Addr} {f : Nat → Nat → Int} {σa : Nat → L2.St} {σb : Nat → Nat → L2.St}
/-- [[el for b in range(n)] for a in range(n)] -/
theorem ev_gridR (st : Stab S) (hσ : σ[i]? = some (some (.int (n : Nat)))) (hn : n ≤ 1000)
    (ea : ∀ a : Nat, (wipe σ [ja]).set ja (some (.int (a : Nat))) = σa a) (wa : ∀ a, wipe (σa a) [ja] = wipe σ [ja]) (ia : ∀ a, (σa a)[i]? = some (some (.int (n : Nat)))) (eb : ∀ a b : Nat, (wipe (σa a) [jb]).set jb (some (.int (b : Nat))) = σb a b) (wb : ∀ a (x : V), wipe ((wipe (σa a) [jb]).set jb (some x)) [jb] = wipe (σa a) [jb])
    (hs : ∀ (a b : Nat) G', a < n → b < n → Same G G' → Ev S (m + (0 + 0) + (0 + 0)) 0 el (σb a b) G' (IsV (.int (f a b)))) : Ev S m (0 + 0) (tLc (iRng1 (tCons (tVar i) tNil)) (gName ja) tYes (tLc (iRng1 (tCons (tVar i) tNil)) (gName jb) tYes el [jb]) [ja]) σ G (IsNX G (RL (fun a => IsIRow n (f a)) (List.range n))) := by
  refine (ev_lcFR (R := fun a => IsIRow n (f a)) (b := fun _ => true) (sj := fun a => a) (σf := σa) st (ea_consV (ev_var hσ) ea_nilV) (by omega) (by omega) (fun j J Q q => by show Q ((wipe σ [ja]).set ja (some (.int (j : Nat)))) J; rw [ea]; exact q) wa (fun j G' _ _ => et_yes) (fun a G' ha _ s' => ?_)).imp fun v G' s' r => ?_
  · refine (ev_lcV (m := (n : Nat)) (f := fun b => .int (f a b)) st (ea_consV (ev_var (ia a)) ea_nilV) (by omega) (by omega) (wb a) fun b G'' hb s'' => ?_).imp fun v G'' s'' ⟨q, e, _, g⟩ => ⟨q, e, by rw [g, Int.toNat_natCast]⟩
    rw [eb]
    exact hs a b G'' (by omega) (by omega) (s'.trans s'')
  · rw [filt_true, List.map_id', Int.toNat_natCast] at r
    exact r
end
/-- the scale that stands first in a row -/
def IsFrS (K : PySem.W.Frag) (Cs : List Addr) (sign : Str) (m : Nat) : HR := fun v G => ∃ d, IsScD K Cs d v G ∧ FreeOk sign m d
instance (K Cs sign m) : Mon (IsFrS K Cs sign m) := ⟨fun s ⟨d, h, o⟩ => ⟨d, Mon.mon s h, o⟩⟩
section
variable {S : SR} {n k : Nat} {t : TA} {σ : L2.St} {G : Hp} {RA : HRs} {R : OR} {C : Addr} {dvs : List V} {E : XK}
/-- C(..), what is promised told more weakly -/
theorem ev_makeW (st : Stab S) {P : Addr → List (Str × V) → List V → Hp → OR → Prop} (h : EvA S n k t σ G RA) (hp : ∀ vs G', Same G G' → RA vs G' → ∃ R0 : OR, P C [] (vs ++ dvs) G' R0 ∧ ∀ a b fs G, R0 a b fs G → R a b fs G) : Ev S n k (tMake C (spI P) dvs E t) σ G (IsO C R) := fun G1 H1 s0 s Q q =>
  h G1 H1 s0 s _ fun vs G2 H2 s2 e x dx hx hd nd => by
    obtain ⟨a, b⟩ := made_start (C := C) (x := x) (dx := dx) st s2.s hx hd
    obtain ⟨R0, hp0, hw⟩ := hp vs G2 (s0.trans s2.g) e
    refine ⟨x, C, dx, [], vs ++ dvs, G2, R0, rfl, upd_same, a, b, hp0, fun fs' G' H' w r => ⟨rfl, ?_⟩⟩
    exact q (.ref x) _ H' (s2.trans (made_stp st s2.s hx hd nd w)) ⟨x, dx, fs', G', rfl, w.2.1, Same.refl _, hw _ _ _ _ r⟩
end
/-! the law's products -/
end L2.DS
/-! Regular scales: the rules of joins and products, kept by pairs, turned scales and heaps. -/
namespace L2.DS
open PySem PySem.Spec PyProof.Rows
structure RegF (n : Nat) (t j : Nat → Nat → Nat) (z u : Nat) : Prop where
  zn : z < n
  un : u < n
  tb : ∀ {a b}, a < n → b < n → t a b < n
  jb : ∀ {a b}, a < n → b < n → j a b < n
  jj : ∀ {a}, a < n → j a a = a
  jc : ∀ {a b}, a < n → b < n → j a b = j b a
  ja : ∀ {a b c}, a < n → b < n → c < n → j (j a b) c = j a (j b c)
  jz : ∀ {a}, a < n → j a z = a
  ta : ∀ {a b c}, a < n → b < n → c < n → t (t a b) c = t a (t b c)
  tu : ∀ {a}, a < n → t u a = a ∧ t a u = a
  tz : ∀ {a}, a < n → t z a = z ∧ t a z = z
  dl : ∀ {a b c}, a < n → b < n → c < n → t a (j b c) = j (t a b) (t a c)
  dr : ∀ {a b c}, a < n → b < n → c < n → t (j a b) c = j (t a c) (t b c)
def SD.T (d : SD) (a b : Nat) : Nat := (d.th a b).toNat
def SD.J (d : SD) (a b : Nat) : Nat := (d.jn a b).toNat
def Reg (d : SD) : Prop := RegF d.names.length d.T d.J d.nv.toNat d.sl.toNat
/-- by what the places stand for -/
theorem RegF.rep {X : Type} {n : Nat} {t j : Nat → Nat → Nat} {z u : Nat} (f : Nat → X) (T J : X → X → X) (inj : ∀ {a b}, a < n → b < n → f a = f b → a = b) (zn : z < n) (un : u < n) (tb : ∀ {a b}, a < n → b < n → t a b < n) (jb : ∀ {a b}, a < n → b < n → j a b < n)
    (ht : ∀ {a b}, a < n → b < n → f (t a b) = T (f a) (f b)) (hj : ∀ {a b}, a < n → b < n → f (j a b) = J (f a) (f b)) (jj : ∀ {a}, a < n → J (f a) (f a) = f a) (jc : ∀ {a b}, a < n → b < n → J (f a) (f b) = J (f b) (f a))
    (ja : ∀ {a b c}, a < n → b < n → c < n → J (J (f a) (f b)) (f c) = J (f a) (J (f b) (f c))) (jz : ∀ {a}, a < n → J (f a) (f z) = f a) (ta : ∀ {a b c}, a < n → b < n → c < n → T (T (f a) (f b)) (f c) = T (f a) (T (f b) (f c)))
    (tu : ∀ {a}, a < n → T (f u) (f a) = f a ∧ T (f a) (f u) = f a) (tz : ∀ {a}, a < n → T (f z) (f a) = f z ∧ T (f a) (f z) = f z) (dl : ∀ {a b c}, a < n → b < n → c < n → T (f a) (J (f b) (f c)) = J (T (f a) (f b)) (T (f a) (f c)))
    (dr : ∀ {a b c}, a < n → b < n → c < n → T (J (f a) (f b)) (f c) = J (T (f a) (f c)) (T (f b) (f c))) : RegF n t j z u where
  zn := zn
  un := un
  tb := tb
  jb := jb
  jj ha := inj (jb ha ha) ha (by rw [hj ha ha, jj ha])
  jc ha hb := inj (jb ha hb) (jb hb ha) (by rw [hj ha hb, hj hb ha, jc ha hb])
  ja ha hb hc := inj (jb (jb ha hb) hc) (jb ha (jb hb hc)) (by rw [hj (jb ha hb) hc, hj ha hb, hj ha (jb hb hc), hj hb hc, ja ha hb hc])
  jz ha := inj (jb ha zn) ha (by rw [hj ha zn, jz ha])
  ta ha hb hc := inj (tb (tb ha hb) hc) (tb ha (tb hb hc)) (by rw [ht (tb ha hb) hc, ht ha hb, ht ha (tb hb hc), ht hb hc, ta ha hb hc])
  tu ha := ⟨inj (tb un ha) ha (by rw [ht un ha, (tu ha).1]), inj (tb ha un) ha (by rw [ht ha un, (tu ha).2])⟩
  tz ha := ⟨inj (tb zn ha) zn (by rw [ht zn ha, (tz ha).1]), inj (tb ha zn) zn (by rw [ht ha zn, (tz ha).2])⟩
  dl ha hb hc := inj (tb ha (jb hb hc)) (jb (tb ha hb) (tb ha hc)) (by rw [ht ha (jb hb hc), hj hb hc, hj (tb ha hb) (tb ha hc), ht ha hb, ht ha hc, dl ha hb hc])
  dr ha hb hc := inj (tb (jb ha hb) hc) (jb (tb ha hc) (tb hb hc)) (by rw [ht (jb ha hb) hc, hj ha hb, hj (tb ha hc) (tb hb hc), ht ha hc, ht hb hc, dr ha hb hc])
/-- a family with never: what stands behind it has its own joins and products -/
theorem RegF.opt {n : Nat} {TT JJ : Nat → Nat → Nat} (n0 : 0 < n) (tb : ∀ {x y}, x < n → y < n → TT x y < n) (jb : ∀ {x y}, x < n → y < n → JJ x y < n) (jj : ∀ {x}, x < n → JJ x x = x) (jc : ∀ {x y}, x < n → y < n → JJ x y = JJ y x) (ja : ∀ {x y z}, x < n → y < n → z < n → JJ (JJ x y) z = JJ x (JJ y z))
    (ta : ∀ {x y z}, x < n → y < n → z < n → TT (TT x y) z = TT x (TT y z)) (tu : ∀ {x}, x < n → TT 0 x = x ∧ TT x 0 = x) (dl : ∀ {x y z}, x < n → y < n → z < n → TT x (JJ y z) = JJ (TT x y) (TT x z)) (dr : ∀ {x y z}, x < n → y < n → z < n → TT (JJ x y) z = JJ (TT x z) (TT y z)) :
    RegF (n + 1) (fun a b => if a = 0 ∨ b = 0 then 0 else TT (a - 1) (b - 1) + 1) (fun a b => if a = 0 ∨ b = 0 then a + b else JJ (a - 1) (b - 1) + 1) 0 1 where
  zn := by omega
  un := by omega
  tb {a b} ha hb := by
    rcases a with _ | a <;> rcases b with _ | b <;> simp
    exact tb (by omega) (by omega)
  jb {a b} ha hb := by
    rcases a with _ | a <;> rcases b with _ | b <;> simp <;> try omega
    exact jb (by omega) (by omega)
  jj {a} ha := by
    rcases a with _ | a <;> simp
    exact jj (by omega)
  jc {a b} ha hb := by
    rcases a with _ | a <;> rcases b with _ | b <;> simp
    exact jc (by omega) (by omega)
  ja {a b c} ha hb hc := by
    rcases a with _ | a <;> rcases b with _ | b <;> rcases c with _ | c <;> simp
    exact ja (by omega) (by omega) (by omega)
  jz {a} ha := by
    rcases a with _ | a <;> simp
  ta {a b c} ha hb hc := by
    rcases a with _ | a <;> rcases b with _ | b <;> rcases c with _ | c <;> simp
    exact ta (by omega) (by omega) (by omega)
  tu {a} ha := by
    rcases a with _ | a <;> simp
    exact tu (by omega)
  tz {a} ha := by
    rcases a with _ | a <;> simp
  dl {a b c} ha hb hc := by
    rcases a with _ | a <;> rcases b with _ | b <;> rcases c with _ | c <;> simp
    exact dl (by omega) (by omega) (by omega)
  dr {a b c} ha hb hc := by
    rcases a with _ | a <;> rcases b with _ | b <;> rcases c with _ | c <;> simp
    exact dr (by omega) (by omega) (by omega)
/-! counts -/
def cntSD (t : Nat) (up : Bool) : SD := ⟨clabel (t : Nat) up, ("never" : Str) :: cwords t, 0, 1, 1, cth (t : Nat), cjn up⟩
theorem cth_N (t : Nat) : (fun a b => (cth (t : Nat) a b).toNat) = fun a b => if a = 0 ∨ b = 0 then 0 else min ((a - 1) + (b - 1)) t + 1 := by
  funext a b
  unfold cth cthen
  split
  · rfl
  · split <;> omega
theorem cjn_N (up : Bool) : (fun a b => (cjn up a b).toNat) = fun a b => if a = 0 ∨ b = 0 then a + b else (if up then max (a - 1) (b - 1) else min (a - 1) (b - 1)) + 1 := by
  funext a b
  unfold cjn ceit
  split
  · omega
  · cases up
    · by_cases h : b < a
      · rw [if_neg (by simp; omega), if_neg (by decide)]
        omega
      · rw [if_pos (by simp; omega), if_neg (by decide)]
        omega
    · by_cases h : b < a
      · rw [if_pos (by simp; omega), if_pos rfl]
        omega
      · rw [if_neg (by simp; omega), if_pos rfl]
        omega
theorem count_reg (t : Nat) (up : Bool) : Reg (cntSD t up) := by
  show RegF (("never" : Str) :: cwords t).length (fun a b => (cth (t : Nat) a b).toNat) (fun a b => (cjn up a b).toNat) 0 1
  rw [cwords_len, cth_N, cjn_N]
  cases up
  · exact RegF.opt (n := t + 1) (TT := fun x y => min (x + y) t) (JJ := fun x y => min x y) (by omega) (by intros; omega) (by intros; omega) (by intros; omega) (by intros; omega) (by intros; omega) (by intros; omega) (by intros; omega) (by intros; omega) (by intros; omega)
  · exact RegF.opt (n := t + 1) (TT := fun x y => min (x + y) t) (JJ := fun x y => max x y) (by omega) (by intros; omega) (by intros; omega) (by intros; omega) (by intros; omega) (by intros; omega) (by intros; omega) (by intros; omega) (by intros; omega) (by intros; omega)
/-! spans -/
def spanSD (m : Nat) : SD := ⟨slabel (m : Nat), ("never" : Str) :: swords m, 0, 1, 1, sth m, sjn m⟩
/-! sets -/
def stSD (c : Nat) (may : Bool) : SD := ⟨tlabel (c : Nat) may, ("never" : Str) :: twords c, 0, 1, 1, tth, tjn may⟩
theorem band_nat (x y : Nat) : Builtin.bitAnd (x : Nat) (y : Nat) = ((x &&& y : Nat) : Int) := by
  unfold Builtin.bitAnd
  rw [decide_eq_true (Int.natCast_nonneg x), decide_eq_true (Int.natCast_nonneg y)]
  rfl
theorem tth_N : (fun a b => (tth a b).toNat) = fun a b => if a = 0 ∨ b = 0 then 0 else ((a - 1) ||| (b - 1)) + 1 := by
  funext a b
  unfold tth
  split
  · rfl
  · rw [show ((a : Int) - 1) = ((a - 1 : Nat) : Int) by omega, show ((b : Int) - 1) = ((b - 1 : Nat) : Int) by omega, bor_nat]
    omega
theorem tjn_N (may : Bool) : (fun a b => (tjn may a b).toNat) = fun a b => if a = 0 ∨ b = 0 then a + b else (if may then (a - 1) ||| (b - 1) else (a - 1) &&& (b - 1)) + 1 := by
  funext a b
  unfold tjn teit
  split
  · omega
  · rw [show ((a : Int) - 1) = ((a - 1 : Nat) : Int) by omega, show ((b : Int) - 1) = ((b - 1 : Nat) : Int) by omega, bor_nat, band_nat]
    cases may
    · rw [if_neg (by decide), if_neg (by decide)]
      omega
    · rw [if_pos rfl, if_pos rfl]
      omega
theorem st_len (c : Nat) (may : Bool) : (stSD c may).names.length = 2 ^ c + 1 := by
  show (("never" : Str) :: twords c).length = _
  unfold twords
  rw [List.length_cons, List.length_map, List.length_range]
theorem set_reg (c : Nat) (may : Bool) : Reg (stSD c may) := by
  show RegF (stSD c may).names.length (fun a b => (tth a b).toNat) (fun a b => (tjn may a b).toNat) 0 1
  rw [st_len, tth_N, tjn_N]
  cases may
  · exact RegF.opt (n := 2 ^ c) (TT := fun x y => x ||| y) (JJ := fun x y => x &&& y) Nat.one_le_two_pow (fun hx hy => Nat.or_lt_two_pow hx hy) (fun hx hy => Nat.and_lt_two_pow _ hy) (fun _ => Nat.and_self _) (fun _ _ => Nat.and_comm _ _) (fun _ _ _ => Nat.and_assoc _ _ _) (fun _ _ _ => Nat.or_assoc _ _ _) (fun _ => ⟨Nat.zero_or _, Nat.or_zero _⟩)
      (fun _ _ _ => Nat.or_and_distrib_left _ _ _) (fun _ _ _ => Nat.or_and_distrib_right _ _ _)
  · have e : ∀ x y z : Nat, x ||| (y ||| z) = (x ||| y) ||| (x ||| z) := fun x y z => by
      refine Nat.eq_of_testBit_eq fun i => ?_
      simp only [Nat.testBit_or]
      cases x.testBit i <;> cases y.testBit i <;> cases z.testBit i <;> rfl
    have e2 : ∀ x y z : Nat, (x ||| y) ||| z = (x ||| z) ||| (y ||| z) := fun x y z => by
      refine Nat.eq_of_testBit_eq fun i => ?_
      simp only [Nat.testBit_or]
      cases x.testBit i <;> cases y.testBit i <;> cases z.testBit i <;> rfl
    exact RegF.opt (n := 2 ^ c) (TT := fun x y => x ||| y) (JJ := fun x y => x ||| y) Nat.one_le_two_pow (fun hx hy => Nat.or_lt_two_pow hx hy) (fun hx hy => Nat.or_lt_two_pow hx hy) (fun _ => Nat.or_self _) (fun _ _ => Nat.or_comm _ _) (fun _ _ _ => Nat.or_assoc _ _ _) (fun _ _ _ => Nat.or_assoc _ _ _) (fun _ => ⟨Nat.zero_or _, Nat.or_zero _⟩)
      (fun _ _ _ => e _ _ _) (fun _ _ _ => e2 _ _ _)
/-! relations -/
def wtSD (s : Nat) : SD := ⟨wlabel (s : Nat), wwords s, 0, wstill s, 1, wth s, wjn⟩
def wtab : Nat := ((List.range 256).foldr (fun k acc => acc * 16 + (wth 2 (k / 16) (k % 16)).toNat) 0)
def wlk (W a b : Nat) : Nat := (W >>> (4 * (16 * a + b))) % 16
def regB (n u : Nat) (f : Nat → Nat → Nat) : Bool := (List.range n).all fun a => (f u a == a && f a u == a && f 0 a == 0 && f a 0 == 0) && (List.range n).all fun b => Nat.blt (f a b) n && (List.range n).all fun c => f (f a b) c == f a (f b c) && f a (b ||| c) == (f a b ||| f a c) && f (a ||| b) c == (f a c ||| f b c)
theorem regB_is {k u : Nat} {f : Nat → Nat → Nat} (hu : u < 2 ^ k) (h : regB (2 ^ k) u f = true) : RegF (2 ^ k) f (fun a b => a ||| b) 0 u := by
  unfold regB at h
  simp only [List.all_eq_true, List.mem_range, Bool.and_eq_true, beq_iff_eq, Nat.blt_eq] at h
  exact ⟨Nat.one_le_two_pow, hu, fun ha hb => ((h _ ha).2 _ hb).1, fun ha hb => Nat.or_lt_two_pow ha hb, fun _ => Nat.or_self _, fun _ _ => Nat.or_comm _ _, fun _ _ _ => Nat.or_assoc _ _ _, fun _ => Nat.or_zero _, fun ha hb hc => (((h _ ha).2 _ hb).2 _ hc).1.1,
    fun ha => ⟨(h _ ha).1.1.1.1, (h _ ha).1.1.1.2⟩, fun ha => ⟨(h _ ha).1.1.2, (h _ ha).1.2⟩, fun ha hb hc => (((h _ ha).2 _ hb).2 _ hc).1.2, fun ha hb hc => (((h _ ha).2 _ hb).2 _ hc).2⟩
theorem wreg_b : regB (2 ^ 4) 9 (wlk wtab) = true := by decide +kernel
theorem wreg_1 : regB (2 ^ 1) 1 (fun a b => (wth 1 a b).toNat) = true := by decide +kernel
theorem wtab_is : ∀ a, a < 16 → ∀ b, b < 16 → (wth 2 a b).toNat = wlk wtab a b := by decide +kernel
theorem wt_len (s : Nat) : (wtSD s).names.length = 2 ^ (s * s) := by
  show (wwords s).length = _
  unfold wwords
  rw [List.length_map, List.length_range]
theorem wjn_N : (fun a b => (wjn a b).toNat) = fun a b => a ||| b := by
  funext a b
  unfold wjn
  rw [bor_nat, Int.toNat_natCast]
/-- tables that agree on the places -/
theorem RegF.congr {n z u : Nat} {t t' j : Nat → Nat → Nat} (r : RegF n t j z u) (h : ∀ {a b}, a < n → b < n → t' a b = t a b) : RegF n t' j z u := by
  refine ⟨r.zn, r.un, fun ha hb => by rw [h ha hb]; exact r.tb ha hb, r.jb, r.jj, r.jc, r.ja, r.jz, fun ha hb hc => ?_, fun ha => ?_, fun ha => ?_, fun ha hb hc => ?_, fun ha hb hc => ?_⟩
  · rw [h ha hb, h hb hc, h (r.tb ha hb) hc, h ha (r.tb hb hc)]
    exact r.ta ha hb hc
  · rw [h r.un ha, h ha r.un]
    exact r.tu ha
  · rw [h r.zn ha, h ha r.zn]
    exact r.tz ha
  · rw [h ha (r.jb hb hc), h ha hb, h ha hc]
    exact r.dl ha hb hc
  · rw [h (r.jb ha hb) hc, h ha hc, h hb hc]
    exact r.dr ha hb hc
theorem watch_reg {s : Nat} (hs : s = 1 ∨ s = 2) : Reg (wtSD s) := by
  show RegF (wtSD s).names.length (fun a b => (wth s a b).toNat) (fun a b => (wjn a b).toNat) 0 (wstill s).toNat
  have w : (wstill 1).toNat = 1 ∧ (wstill 2).toNat = 9 := by decide +kernel
  rw [wt_len, wjn_N]
  rcases hs with rfl | rfl
  · rw [w.1]
    exact regB_is (k := 1) (by decide) wreg_1
  · rw [w.2]
    exact (regB_is (k := 4) (by decide) wreg_b).congr fun ha hb => wtab_is _ ha _ hb
/-! turned scales, pairs, heaps -/
end L2.DS
/-! Names of pairs and heaps are told apart: words with brackets. -/
namespace L2.DS
open PySem PySem.Spec PyProof.Rows
def opnC (c : Nat) : Bool := c == 60 || c == 123
def clsC (c : Nat) : Bool := c == 62 || c == 125
def sepC (c : Nat) : Bool := c == 44 || c == 47
def scanW : Nat → List Nat → Option Nat
  | d, [] => some d
  | d, c :: r => if opnC c then scanW (d + 1) r else if clsC c then (match d with | 0 => none | e + 1 => scanW e r) else if sepC c then (match d with | 0 => none | e + 1 => scanW (e + 1) r) else scanW d r
def okW (s : Str) : Prop := s.cps.toList ≠ [] ∧ scanW 0 s.cps.toList = some 0
instance (s) : Decidable (okW s) := inferInstanceAs (Decidable (_ ∧ _))
theorem str_inj {a b : Str} (h : a.cps.toList = b.cps.toList) : a = b := by
  cases a
  cases b
  congr
  exact Array.toList_inj.mp h
theorem cps_app (a b : Str) : (a ++ b).cps.toList = a.cps.toList ++ b.cps.toList := by
  rw [Str.cps_append]
  simp
/-! pairs -/
/-! heaps -/
end L2.DS
/-! Scales around scales: all that is known of them. -/
namespace L2.DS
open PySem PySem.Spec PyProof.Rows
def nmB (n : Nat) : Nat := 20 * 8 ^ n
def lbB (n : Nat) : Nat := 100 * 3 ^ n
theorem nmB_s (n : Nat) : nmB (n + 1) = nmB n * 8 := by unfold nmB; rw [Nat.pow_succ, Nat.mul_assoc]
theorem lbB_s (n : Nat) : lbB (n + 1) = lbB n * 3 := by unfold lbB; rw [Nat.pow_succ, Nat.mul_assoc]
/-- all that is known of a scale that is n deep at most *above* a family -/
structure TrOk (n : Nat) (d : SD) : Prop where
  ok : SdOk d
  rg : Reg d
  wd : ∀ nm ∈ d.names, okW nm
  nl : ∀ nm ∈ d.names, nm.length ≤ nmB n
  ll : d.label.length ≤ lbB n
  d1 : 1 ≤ d.dep
  d2 : d.dep ≤ n + 1
theorem TrOk.up {n : Nat} {d : SD} (h : TrOk n d) : TrOk (n + 1) d := by
  have e := h.d2
  exact ⟨h.ok, h.rg, h.wd, fun nm m => Nat.le_trans (h.nl nm m) (by rw [nmB_s]; omega), Nat.le_trans h.ll (by rw [lbB_s]; omega), h.d1, by omega⟩
/-! families -/
theorem cnt_ok {t : Nat} (ht : t < 63) (up : Bool) : SdOk (cntSD t up) := by
  have hl : (cntSD t up).names.length = t + 2 := cwords_len t
  have h2 : (cntSD t up).label.length ≤ 100 := (clabel_len t (by omega) up).1
  refine ⟨cwords_nodup t (by omega), by omega, by omega, fun nm h => Nat.le_trans (cwords_short t (by omega) nm h) (by decide), by omega, ?_, ?_, fun a b ha hb => ?_, fun a b ha hb => ?_⟩
  · show (0 : Int) ≤ 0 ∧ (0 : Int) < ((cntSD t up).names.length : Nat)
    omega
  · show (0 : Int) ≤ 1 ∧ (1 : Int) < ((cntSD t up).names.length : Nat)
    omega
  · rw [hl] at ha hb ⊢
    show 0 ≤ cth (t : Nat) a b ∧ cth (t : Nat) a b < ((t + 2 : Nat) : Int)
    unfold cth cthen
    split
    · omega
    · split <;> omega
  · rw [hl] at ha hb ⊢
    show 0 ≤ cjn up a b ∧ cjn up a b < ((t + 2 : Nat) : Int)
    unfold cjn ceit
    split
    · omega
    · split <;> omega
theorem okW_set : ∀ c, c < 6 → 1 ≤ c → ∀ nm ∈ (("never" : Str) :: twords c), okW nm ∧ nm.length ≤ 20 := by decide +kernel
theorem st_ok {c : Nat} (h0 : 1 ≤ c) (hc : c < 6) (may : Bool) : SdOk (stSD c may) := by
  have hl : (stSD c may).names.length = 2 ^ c + 1 := st_len c may
  have p0 : 1 ≤ 2 ^ c := Nat.one_le_two_pow
  have p5 : 2 ^ c ≤ 2 ^ 5 := Nat.pow_le_pow_right (by decide) (by omega)
  have e2 : (2 : Int) ^ c = ((2 ^ c : Nat) : Int) := by rw [Int.natCast_pow]; rfl
  have h2 : (stSD c may).label.length ≤ 100 := (tlabel_len c hc may).2.2.2
  refine ⟨twords_nodup c hc, by omega, by omega, fun nm h => Nat.le_trans (okW_set c hc h0 nm h).2 (by decide), by omega, ?_, ?_, fun a b ha hb => ?_, fun a b ha hb => ?_⟩
  · show (0 : Int) ≤ 0 ∧ (0 : Int) < ((stSD c may).names.length : Nat)
    omega
  · show (0 : Int) ≤ 1 ∧ (1 : Int) < ((stSD c may).names.length : Nat)
    omega
  · rw [hl] at ha hb ⊢
    show 0 ≤ tth a b ∧ tth a b < _
    unfold tth
    split
    · omega
    · rename_i h
      have := bor_lt c hc (a - 1) (by omega) (b - 1) (by omega)
      rw [e2] at this
      rw [show (a : Int) - 1 = ((a - 1 : Nat) : Int) by omega, show (b : Int) - 1 = ((b - 1 : Nat) : Int) by omega]
      omega
  · rw [hl] at ha hb ⊢
    show 0 ≤ tjn may a b ∧ tjn may a b < _
    unfold tjn teit
    split
    · rename_i h
      omega
    · rename_i h
      rw [show (a : Int) - 1 = ((a - 1 : Nat) : Int) by omega, show (b : Int) - 1 = ((b - 1 : Nat) : Int) by omega]
      have h1 := bor_lt c hc (a - 1) (by omega) (b - 1) (by omega)
      have h2 := band_lt c hc (a - 1) (by omega) (b - 1) (by omega)
      rw [e2] at h1 h2
      split <;> omega
theorem okW_watch : ∀ s, s < 3 → 1 ≤ s → ∀ nm ∈ wwords s, okW nm ∧ nm.length ≤ 20 := by decide +kernel
theorem wstill_bd : ∀ s, s < 3 → 1 ≤ s → 0 ≤ wstill s ∧ wstill s < ((2 ^ (s * s) : Nat) : Int) := by decide +kernel
theorem wth_bd : ∀ s, s < 3 → 1 ≤ s → ∀ a, a < 2 ^ (s * s) → ∀ b, b < 2 ^ (s * s) → 0 ≤ wth s a b ∧ wth s a b < ((2 ^ (s * s) : Nat) : Int) := by decide +kernel
theorem wt_ok {s : Nat} (h : s = 1 ∨ s = 2) : SdOk (wtSD s) := by
  have hs : s < 3 ∧ 1 ≤ s := by omega
  have hl : (wtSD s).names.length = 2 ^ (s * s) := wt_len s
  have p0 : 1 ≤ 2 ^ (s * s) := Nat.one_le_two_pow
  have p5 : 2 ^ (s * s) ≤ 2 ^ 4 := Nat.pow_le_pow_right (by decide) (by rcases h with rfl | rfl <;> decide)
  have h2 : (wtSD s).label.length ≤ 100 := (wlabel_len s hs.1).2
  refine ⟨wwords_nodup s hs.1, by omega, by omega, fun nm h => Nat.le_trans (okW_watch s hs.1 hs.2 nm h).2 (by decide), by omega, ?_, ?_, fun a b ha hb => ?_, fun a b ha hb => ?_⟩
  · show (0 : Int) ≤ 0 ∧ (0 : Int) < ((wtSD s).names.length : Nat)
    omega
  · rw [hl]
    exact wstill_bd s hs.1 hs.2
  · rw [hl] at ha hb ⊢
    exact wth_bd s hs.1 hs.2 a ha b hb
  · rw [hl] at ha hb ⊢
    show 0 ≤ Builtin.bitOr (a : Nat) (b : Nat) ∧ Builtin.bitOr (a : Nat) (b : Nat) < _
    rw [bor_nat]
    have := Nat.or_lt_two_pow ha hb
    omega
/-! scales around scales -/
/-- some scale of that kind -/
def IsTr (K : PySem.W.Frag) (Cs : List Addr) (n : Nat) : HR := fun v G => ∃ d, IsScD K Cs d v G ∧ TrOk n d
instance (K Cs n) : Mon (IsTr K Cs n) := ⟨fun s ⟨d, a, b⟩ => ⟨d, Mon.mon s a, b⟩⟩
end L2.DS
/-! The rules of regular scales as sides; the first fault. -/
namespace L2.DS
open PySem PySem.Spec PyProof.Rows
/-! ### general -/
theorem rc_imp {S : SR} {r : List V → Hp → VK → Prop} {xs : List V} {G : Hp} {R R' : HR} (h : RC S r xs G R) (i : ∀ v G', Same G G' → R v G' → R' v G') : RC S r xs G R' := fun n G1 H1 s0 s Q q => h n G1 H1 s0 s Q fun v G2 H2 s2 r => q v G2 H2 s2 (i v G2 (s0.trans s2.g) r)
theorem sl_tupAK {X : Cx} (K : PySem.W.Frag) (hK : X.K = K := by rfl) : SlR X (rSlA K) := hK ▸ sl_tupA
/-- a tuple of values -/
def IsTup (L : List V) : HR := fun v G => ∃ p, v = .ref p ∧ G p = some (.tup L)
instance (L) : Mon (IsTup L) := ⟨fun s ⟨p, e, h⟩ => ⟨p, e, s _ _ h⟩⟩
/-- a tuple of two data -/
def IsPd (K : PySem.W.Frag) (l r : PyData) : HR := fun v G => ∃ p u w, v = .ref p ∧ SqT K G p [u, w] ∧ Dp K G u l ∧ Dp K G w r
instance (K l r) : Mon (IsPd K l r) := ⟨fun s ⟨p, u, w, e, h, a, b⟩ => ⟨p, u, w, e, same_t s h, dp_mon s a, dp_mon s b⟩⟩
theorem IsPd.dp {K : PySem.W.Frag} {l r : PyData} {v : V} {G : Hp} (h : IsPd K l r v G) : IsD K (.tuple [l, r]) v G := by
  obtain ⟨p, u, w, rfl, h, a, b⟩ := h
  exact .tup h (.cons a (.cons b .nil))
section
variable {S : SR} {n k ka kb : Nat} {te ta tb : TE} {t : TA} {u : TS} {σ : L2.St} {G H : Hp} {K : PySem.W.Frag} {nx bk ct : L2.St → Hp → Prop} {rt : VK} {i j : Nat} {l r : PyData} {xs : List V} {p : Addr}
theorem ev_pd (st : Stab S) (ha : Ev S n ka ta σ G (IsD K l)) (hb : Ev S (n + ka) kb tb σ G (IsD K r)) : Ev S n (ka + (kb + 0)) (tTup (tCons ta (tCons tb tNil))) σ G (IsPd K l r) :=
  (ev_tup (K := K) st (ea_cons ha (ea_cons hb ea_nil)) fun vs G' h => by
    obtain ⟨_, _, rfl, _, _, _, rfl, _, h⟩ := h
    obtain rfl := (show _ = _ from h)
    simp).imp fun v G' s h => by
      obtain ⟨p, _, rfl, hp, u, _, rfl, a, w, _, rfl, b, e⟩ := h
      obtain rfl := (show _ = _ from e)
      exact ⟨p, u, w, rfl, hp, a, b⟩
theorem ev_dI {z : Int} (h : Ev S n k te σ G (IsV (.int z))) : Ev S n k te σ G (IsD K (.int z)) := h.imp fun v G' s e => by
  obtain rfl := (show _ = _ from e)
  exact .int z
theorem ev_dP (h : Ev S n k te σ G (IsPd K l r)) : Ev S n k te σ G (IsD K (.tuple [l, r])) := h.imp fun v G' s e => e.dp
/-- a, b = f(..), two data -/
theorem q_asgD (st : Stab S) (s : S n G H) (e : Ev S n k te σ G (IsPd K l r)) (h : ∀ x y G' H', Stp S (n + k) G H G' H' → Dp K G' x l → Dp K G' y r → u (Ends.mk nx rt bk ct) ((σ.set i (some x)).set j (some y)) H') : tSeq (tAsg te (gTup K 2 (gCons (gName i) (gCons (gName j) gNil)))) u (Ends.mk nx rt bk ct) σ H :=
  e G H (Same.refl _) s _ fun v G' H' s1 r => by
    obtain ⟨p, x, y, rfl, g, a, b⟩ := r
    exact ⟨p, _, rfl, same_t (st.sub s1.s) g, rfl, _, _, rfl, _, _, rfl, rfl, h x y G' H' s1 a b⟩
/-- t[lo:hi], t a tuple newly made -/
theorem ev_slT {F : Hp} {tl th : TO} {lo hi : Option Int} {kc : Nat} (st : Stab S) (h : Ev S n ka te σ G (IsNew F (.tup xs))) (h1 : EvO S (n + ka) kb tl σ G lo) (h2 : EvO S (n + ka + kb) kc th σ G hi) :
    Ev S n (ka + kb + kc) (tSl (rSlA K) te tl th) σ G (fun v G' => ∃ p, v = .ref p ∧ G' p = some (.tup (cutV xs lo hi))) := fun G1 H1 s0 s Q q =>
  h G1 H1 s0 s _ fun v G2 H2 s2 e => h1 G2 H2 (s0.trans s2.g) s2.s _ fun G3 H3 s3 => h2 G3 H3 ((s0.trans s2.g).trans s3.g) s3.s _ fun G4 H4 s4 => by
    obtain ⟨p, rfl, _, g⟩ := e
    have t := (s2.trans s3).trans s4
    have g4 : G4 p = some (.tup xs) := s4.g _ _ (s3.g _ _ g)
    rw [show n + ka + kb + kc = n + (ka + kb + kc) by omega] at t
    refine ⟨p, xs, rfl, SqT.of (st.sub t.s _ _ g4), fun hw => q _ _ _ t ⟨p, rfl, ?_⟩, fun _ p' hp' => q _ _ _ (t.trans (st.new t.s hp')) ⟨p', rfl, upd_same⟩⟩
    rw [g4]
    unfold cutV
    rw [hw.1, hw.2, List.drop_zero, Nat.sub_zero, List.take_length]
/-- [el for x in xs], a tuple, values -/
theorem ev_lcVT {vs : List Nat} {el : TE} (st : Stab S) {f : V → V} (e : Ev S n k te σ G (IsV (.ref p))) (hp : SqT K G p xs) (hl : xs.length ≤ 100000) (hw : ∀ x : V, wipe ((wipe σ vs).set i (some x)) vs = wipe σ vs)
    (hs : ∀ (j : Nat) x G', xs[j]? = some x → Same G G' → Ev S (n + k) 0 el ((wipe σ vs).set i (some x)) G' (IsV (f x))) : Ev S n (k + 0) (tLc (iTup K te) (gName i) tYes el vs) σ G (IsNew G (.lst (xs.map f))) := fun G1 H1 s0 s Q q =>
  e G1 H1 s0 s _ fun v G2 H2 s2 ev => by
    subst ev
    have hp1 := same_t s0 hp
    have hp2 := same_t s2.g hp1
    exact ⟨p, rfl, ⟨xs, same_t (st.sub s2.s) hp2⟩, fun D hD =>
      lc_tup (K := K) (a := p) (xs := xs) (fun j J => LcQ S G2 H2 (n + k) D (fun v : V => IsV v) ((xs.take j).map f) J) (lcq_start st s2.s hD) (fun j J _ ⟨G3, acc, a, _⟩ => same_t (a.g.trans (st.sub a.s)) hp2)
        (fun j x J hx' h => by
          have hj : j < xs.length := (List.getElem?_eq_some_iff.mp hx').1
          obtain ⟨G3, acc, a, _⟩ := id h
          refine ⟨hw x, tYes_run (iteT ?_)⟩
          refine lcq_step (x := f x) (Nx := fun J => LcQ S G2 H2 (n + k) D (fun v : V => IsV v) ((xs.take (j + 1)).map f) J) st s2.s hD h (by rw [List.length_map, List.length_take]; omega) (fun G' g' => hs j x G' hx' ((s0.trans s2.g).trans g')) fun J' h' => ?_
          rw [List.take_succ_eq_append_getElem hj, List.map_append]
          have e : xs[j] = x := by rw [List.getElem?_eq_getElem hj] at hx'; exact Option.some.inj hx'
          rw [e]
          exact h')
        fun J h => by
          rw [List.take_length] at h
          refine lcq_end st s2 hD h fun v G' H' s' r => q v G' H' s' ?_
          obtain ⟨p', ys, e1, e2, e3, e4⟩ := r
          rw [rl_vals (g := fun v : V => v) e4, List.map_id'] at e3
          exact ⟨p', e1, s0.free e2, e3⟩⟩
/-- f(..), f a local that holds one of several defs -/
theorem ev_callA (st : Stab S) {P : List V → Hp → HR → Prop} {ws : List V} {Sf : Addr → Option Sp} {f : Addr} {R : HR} (hi : σ[i]? = some (some (.ref f))) (hS : Sf f = some (spP P)) (h : EvA S n k t σ G (IsVs ws)) (hp : ∀ G', Same G G' → P ws G' R) : Ev S n k (tCallA i Sf t) σ G R := fun G1 H1 s0 s Q q =>
  ⟨f, _, hi, hS, h G1 H1 s0 s _ fun v G2 H2 s2 e => by
    obtain rfl := (show _ = _ from e)
    exact ⟨G2, R, st.sub s2.s, hp G2 (s0.trans s2.g), fun v G3 H3 g r => q v G3 H3 (s2.trans (st.gro s2.s g)) r⟩⟩
end
theorem mk_sqT {K : PySem.W.Frag} {a : Addr} {d : Option Addr} {l : List Value} {n : Nat} {s : Array (Option Value)} {xs : List V} (h : K.lookup a = some ⟨.type "tuple", d, .seq l.toArray n, s⟩) (hl : l.length ≤ 1000) (r : Vals xs l) (H : Hp) : SqT K H a xs :=
  .inr ⟨_, _, _, h, rfl, rfl, by rw [List.size_toArray]; exact Nat.le_trans hl (by decide), r⟩
theorem fs_none {α β : Type} {g : α → Option β} : ∀ {L : List α}, (∀ (k : Nat) y, L[k]? = some y → g y = none) → L.findSome? g = none
  | [], _ => rfl
  | a :: L, h => by
    rw [List.findSome?_cons, h 0 a rfl]
    exact fs_none fun k y e => h (k + 1) y e
theorem fs_some {α β : Type} {g : α → Option β} : ∀ {L : List α} {i : Nat} {x : α} {t : β}, L[i]? = some x → (∀ (k : Nat) y, k < i → L[k]? = some y → g y = none) → g x = some t → L.findSome? g = some t
  | [], i, _, _, e, _, _ => by simp at e
  | a :: L, 0, x, t, e, _, ht => by
    cases e
    rw [List.findSome?_cons, ht]
  | a :: L, i + 1, x, t, e, h, ht => by
    rw [List.findSome?_cons, h 0 a (by omega) rfl]
    exact fs_some (i := i) (by simpa using e) (fun k y hk hy => h (k + 1) y (by omega) (by simpa using hy)) ht
/-! ### sides -/
section
variable {S : SR} {n : Nat} {t0 ta tb : TE} {σ : L2.St} {G : Hp} {K : PySem.W.Frag} {Cs : List Addr} {d : SD} {x : Addr} {E : XK} {a b : Nat}
theorem SdOk.T {d : SD} (o : SdOk d) {a b : Nat} (ha : a < d.names.length) (hb : b < d.names.length) : ((d.T a b : Nat) : Int) = d.th a b ∧ d.T a b < d.names.length := by
  have := o.th a b ha hb
  unfold SD.T
  omega
theorem SdOk.J {d : SD} (o : SdOk d) {a b : Nat} (ha : a < d.names.length) (hb : b < d.names.length) : ((d.J a b : Nat) : Int) = d.jn a b ∧ d.J a b < d.names.length := by
  have := o.jn a b ha hb
  unfold SD.J
  omega
theorem ev_J (st : Stab S) (h : ScD K Cs d x G) (o : SdOk d) (e0 : Ev S n 0 t0 σ G (IsV (.ref x))) (ea : Ev S n 0 ta σ G (IsV (.int (a : Nat)))) (eb : Ev S n 0 tb σ G (IsV (.int (b : Nat)))) (ha : a < d.names.length) (hb : b < d.names.length) :
    Ev S n 0 (tMethA Cs "join_at" (spP (PAt K fun _ jn a b => .int (jn a b))) [] E t0 (tCons ta (tCons tb tNil))) σ G (IsV (.int (d.J a b : Nat))) :=
  ev_eq (congrArg V.int (o.J ha hb).1.symm) (ev_sAt (pk := fun _ jn a b => .int (jn a b)) st h (by decide) e0 (ea_consV ea (ea_consV eb ea_nilV)) ha hb)
theorem ev_T (st : Stab S) (h : ScD K Cs d x G) (o : SdOk d) (e0 : Ev S n 0 t0 σ G (IsV (.ref x))) (ea : Ev S n 0 ta σ G (IsV (.int (a : Nat)))) (eb : Ev S n 0 tb σ G (IsV (.int (b : Nat)))) (ha : a < d.names.length) (hb : b < d.names.length) :
    Ev S n 0 (tMethA Cs "then_at" (spP (PAt K fun th _ a b => .int (th a b))) [] E t0 (tCons ta (tCons tb tNil))) σ G (IsV (.int (d.T a b : Nat))) :=
  ev_eq (congrArg V.int (o.T ha hb).1.symm) (ev_sAt (pk := fun th _ a b => .int (th a b)) st h (by decide) e0 (ea_consV ea (ea_consV eb ea_nilV)) ha hb)
theorem ev_nv (st : Stab S) (h : ScD K Cs d x G) (o : SdOk d) (e0 : Ev S n 0 t0 σ G (IsV (.ref x))) : Ev S n 0 (tFld K t0 "never_at") σ G (IsV (.int (d.nv.toNat : Nat))) := ev_eq (congrArg V.int (by have := o.nv; omega)) (ev_sF st h e0).2.1
theorem ev_sl (st : Stab S) (h : ScD K Cs d x G) (o : SdOk d) (e0 : Ev S n 0 t0 σ G (IsV (.ref x))) : Ev S n 0 (tFld K t0 "still_at") σ G (IsV (.int (d.sl.toNat : Nat))) := ev_eq (congrArg V.int (by have := o.sl; omega)) (ev_sF st h e0).2.2.1
end
def dI (n : Nat) : PyData := .int (n : Nat)
def sdL (i : Nat) (d : SD) (a b c : Nat) : PyData :=
  [dI (d.J a a), dI (d.J a b), dI (d.J (d.J a b) c), dI (d.J a d.nv.toNat), dI (d.T (d.T a b) c), .tuple [dI (d.T d.sl.toNat a), dI (d.T a d.sl.toNat)], .tuple [dI (d.T d.nv.toNat a), dI (d.T a d.nv.toNat)], dI (d.T a (d.J b c)), dI (d.T (d.J a b) c)].getD i .none
def sdR (i : Nat) (d : SD) (a b c : Nat) : PyData :=
  [dI a, dI (d.J b a), dI (d.J a (d.J b c)), dI a, dI (d.T a (d.T b c)), .tuple [dI a, dI a], .tuple [dI d.nv.toNat, dI d.nv.toNat], dI (d.J (d.T a b) (d.T a c)), dI (d.J (d.T a c) (d.T b c))].getD i .none
def PSide (K : PySem.W.Frag) (Cs : List Addr) (i : Nat) : List V → Hp → HR → Prop := fun vs G R => ∃ (x : Addr) (d : SD) (a b c : Nat), vs = [.ref x, .int (a : Nat), .int (b : Nat), .int (c : Nat)] ∧ ScD K Cs d x G ∧ SdOk d ∧ a < d.names.length ∧ b < d.names.length ∧ c < d.names.length ∧ R = IsPd K (sdL i d a b c) (sdR i d a b c)
theorem sd_shaped (i : Nat) (hi : i < 9) (d : SD) (a b c : Nat) : SeqAt.shaped (sdL i d a b c) = true ∧ SeqAt.shaped (sdR i d a b c) = true := by
  match i, hi with
  | 0, _ => exact ⟨rfl, rfl⟩
  | 1, _ => exact ⟨rfl, rfl⟩
  | 2, _ => exact ⟨rfl, rfl⟩
  | 3, _ => exact ⟨rfl, rfl⟩
  | 4, _ => exact ⟨rfl, rfl⟩
  | 5, _ => exact ⟨by simp [sdL, SeqAt.shaped, dI, PyData.canLayAll0, PyData.canLay0, PyData.depth, PyData.depthAll], by simp [sdR, SeqAt.shaped, dI, PyData.canLayAll0, PyData.canLay0, PyData.depth, PyData.depthAll]⟩
  | 6, _ => exact ⟨by simp [sdL, SeqAt.shaped, dI, PyData.canLayAll0, PyData.canLay0, PyData.depth, PyData.depthAll], by simp [sdR, SeqAt.shaped, dI, PyData.canLayAll0, PyData.canLay0, PyData.depth, PyData.depthAll]⟩
  | 7, _ => exact ⟨rfl, rfl⟩
  | 8, _ => exact ⟨rfl, rfl⟩
/-! ### the first worths for which two sides are not equal -/
def lensF (i : Nat) : Nat := [1, 2, 3, 1, 3, 1, 1, 3, 3].getD i 0
def wordsF (i : Nat) : Str := (["join-same", "join-swap", "join-group", "join-never", "then-group", "then-still", "then-never", "spread-left", "spread-right"] : List Str).getD i ("" : Str)
def failF (i : Nat) (d : SD) (a b c : Nat) : Bool := !PyData.eqv (sdL i d a b c) (sdR i d a b c)
def rowF (n l k a : Nat) : List Nat := if l > k then List.range n else [a]
def cF (n l : Nat) (F : Nat → Nat → Nat → Bool) (a b c : Nat) : Option (List Nat) := if F a b c then some ([a, b, c].take l) else none
def bF (n l : Nat) (F : Nat → Nat → Nat → Bool) (a b : Nat) : Option (List Nat) := (rowF n l 2 a).findSome? fun c => cF n l F a b c
def aF (n l : Nat) (F : Nat → Nat → Nat → Bool) (a : Nat) : Option (List Nat) := (rowF n l 1 a).findSome? fun b => bF n l F a b
def fndF (n l : Nat) (F : Nat → Nat → Nat → Bool) : Option (List Nat) := (List.range n).findSome? fun a => aF n l F a
def IsFn : Option (List Nat) → HR
  | none => IsV .non
  | some t => fun v G => ∃ p, v = .ref p ∧ G p = some (.tup (t.map fun k => V.int (k : Nat)))
instance : (o : Option (List Nat)) → Mon (IsFn o)
  | none => inferInstanceAs (Mon (IsV .non))
  | some t => ⟨fun s ⟨p, e, h⟩ => ⟨p, e, s _ _ h⟩⟩
def PBrk (K : PySem.W.Frag) (Cs : List Addr) (fs : List Addr) : List V → Hp → HR → Prop := fun vs G R => ∃ (x f : Addr) (d : SD) (i : Nat), vs = [.ref x, .ref f, .int (lensF i : Nat)] ∧ i < 9 ∧ f ∈ fs ∧ fs.idxOf f = i ∧ ScD K Cs d x G ∧ SdOk d ∧ R = IsFn (fndF d.names.length (lensF i) (failF i d))
def faultF (d : SD) : Option (Nat × List Nat) := (List.range 9).findSome? fun i => (fndF d.names.length (lensF i) (failF i d)).map fun t => (i, t)
def IsFt (K : PySem.W.Frag) (d : SD) : Option (Nat × List Nat) → HR
  | none => IsV .non
  | some (i, t) => fun v G => ∃ p q, v = .ref p ∧ SqT K G p [.str (wordsF i), .ref q] ∧ G q = some (.tup (t.map fun k => V.str (d.names.getD k ("" : Str))))
instance (K d) : (o : Option (Nat × List Nat)) → Mon (IsFt K d o)
  | none => inferInstanceAs (Mon (IsV .non))
  | some (i, t) => ⟨fun s ⟨p, q, e, h, h'⟩ => ⟨p, q, e, same_t s h, s _ _ h'⟩⟩
def PFft (K : PySem.W.Frag) (Cs : List Addr) : List V → Hp → HR → Prop := fun vs G R => ∃ (x : Addr) (d : SD), vs = [.ref x] ∧ ScD K Cs d x G ∧ SdOk d ∧ R = IsFt K d (faultF d)
/-- which promise goes with which def of some sides -/
def SfF (K : PySem.W.Frag) (Cs fs : List Addr) : Addr → Option Sp := fun f => if f ∈ fs then some (spP (PSide K Cs (fs.idxOf f))) else none
theorem Stp.back {S : SR} (st : Stab S) {n m : Nat} {G H J G' J' : Hp} (a : Stp S n G H G J) (b : Stp S m G J G' J') : Stp S m G H G J' := ⟨Same.refl _, a.k.trans b.k, st.anti a.s b.s b.g, fun _ _ h => .inl h⟩
theorem rowF_lt {n l k a : Nat} (ha : a < n) : ∀ b ∈ rowF n l k a, b < n := by
  intro b hb
  unfold rowF at hb
  split at hb
  · exact List.mem_range.mp hb
  · obtain rfl := List.mem_singleton.mp hb
    exact ha
theorem fndF_lt {n l : Nat} {F : Nat → Nat → Nat → Bool} {t : List Nat} (h : fndF n l F = some t) : ∀ k ∈ t, k < n := by
  obtain ⟨a, ha, h⟩ := List.exists_of_findSome?_eq_some h
  have ha := List.mem_range.mp ha
  obtain ⟨b, hb, h⟩ := List.exists_of_findSome?_eq_some h
  obtain ⟨c, hc, h⟩ := List.exists_of_findSome?_eq_some h
  have hb := rowF_lt ha b hb
  have hc := rowF_lt ha c hc
  unfold cF at h
  split at h
  · obtain rfl := Option.some.inj h
    intro k hk
    have := List.mem_of_mem_take hk
    simp only [List.mem_cons, List.not_mem_nil, or_false] at this
    omega
  · cases h
/-- a regular scale has no fault -/
theorem eqv_I (a b : Nat) : PyData.eqv (dI a) (dI b) = decide (a = b) := by
  show PyData.eqv (.int (a : Nat)) (.int (b : Nat)) = _
  simp only [PyData.eqv]
  by_cases h : a = b
  · subst h
    simp
  · have h2 : ¬ ((a : Nat) : Int) = (b : Nat) := by omega
    simp [h, h2]
end L2.DS
/-! Scales that a law makes. -/
namespace L2.DS
open PySem PySem.Spec PyProof.Rows
/-- a scale of which P tells -/
def IsScP (K : PySem.W.Frag) (Cs : List Addr) (P : SD → Prop) : HR := fun v G => ∃ d, IsScD K Cs d v G ∧ P d
instance (K Cs P) : Mon (IsScP K Cs P) := ⟨fun s ⟨d, a, b⟩ => ⟨d, Mon.mon s a, b⟩⟩
abbrev ScOR (P : SD → Prop) : OR := fun _ _ fs' G' => ∃ d, P d ∧ ScI d fs' G' ∧ ∀ f ∈ metF, fs'.lookup f = none
section
variable {S : SR} {n ka kb : Nat} {te tk tl tr : TE} {t tks : TA} {σ : L2.St} {G : Hp} {K : PySem.W.Frag} {Cs : List Addr} {C : Addr} {E : XK} {P P1 P2 : SD → Prop} {Pm : Int → Prop} {Ps : Str → Prop} {R : OR} {RA RB : HRs} {v : V} {m1 m2 : Nat} {gV : List V → List V → List V}
theorem scp_of (hCs : C ∈ Cs) (hC : ClsOk K C) (h : IsO C (ScOR P) v G) : IsScP K Cs P v G := by
  obtain ⟨x, dx, fs, G', rfl, gx, s, d, hp, a, b⟩ := h
  have s' : Same G' G := fun c o e => s c o (by rw [upd_ne (ne_of_none e gx)]; exact e)
  have hx := s _ _ upd_same
  exact ⟨d, ⟨x, rfl, ScI.to hCs hC hx (a.mono' s') b⟩, hp⟩
theorem ev_mkTurn (st : Stab S) (iC : C ∈ Cs) (oC : ClsOk K C) (e : Ev S n ka te σ G (IsScP K Cs P1)) (hm : ∀ d, P1 d → SdOk d ∧ depL [d] ≤ 10) (hP : ∀ d, P1 d → P (turnSD d)) :
    Ev S n (ka + 0) (tMake C (spI (PTuI K Cs C)) [] E (tCons te tNil)) σ G (IsScP K Cs P) :=
  (ev_makeW (R := ScOR P) (RA := RCons (IsScP K Cs P1) RNil) st (ea_cons e ea_nil) fun vs G' s' h => by
    obtain ⟨_, _, rfl, ⟨d, ⟨x, rfl, sd⟩, hd⟩, e⟩ := h
    obtain rfl := (show _ = [] from e)
    exact ⟨_, ⟨rfl, rfl, x, d, rfl, sd, (hm d hd).1, (hm d hd).2, rfl⟩, fun a b fs G h => ⟨turnSD d, hP d hd, h.1, fun f hf => h.2.1 f (by revert f; decide +kernel) (by revert f; decide +kernel)⟩⟩).imp fun v G' s' h => scp_of iC oC h
theorem ev_mkHeap (st : Stab S) (iC : C ∈ Cs) (oC : ClsOk K C) (e : Ev S n ka te σ G (IsScP K Cs P1)) (hm : ∀ d, P1 d → SdOk d ∧ d.names.length ≤ 6 ∧ depL [d] ≤ 10 ∧ (heapNames d.names).Nodup) (hP : ∀ d, P1 d → P (heapSD d)) :
    Ev S n (ka + 0) (tMake C (spI (PHpI K Cs C)) [] E (tCons te tNil)) σ G (IsScP K Cs P) :=
  (ev_makeW (R := ScOR P) (RA := RCons (IsScP K Cs P1) RNil) st (ea_cons e ea_nil) fun vs G' s' h => by
    obtain ⟨_, _, rfl, ⟨d, ⟨x, rfl, sd⟩, hd⟩, e⟩ := h
    obtain rfl := (show _ = [] from e)
    obtain ⟨h1, h2, h3, h4⟩ := hm d hd
    exact ⟨_, ⟨rfl, rfl, x, d, rfl, sd, h1, h2, h3, h4, rfl⟩, fun a b fs G h => ⟨heapSD d, hP d hd, h.1, fun f hf => h.2.1 f (by revert f; decide +kernel) (by revert f; decide +kernel) (by revert f; decide +kernel)⟩⟩).imp fun v G' s' h => scp_of iC oC h
theorem ev_mkPair (st : Stab S) (iC : C ∈ Cs) (oC : ClsOk K C) (e1 : Ev S n ka tl σ G (IsScP K Cs P1)) (e2 : Ev S (n + ka) kb tr σ G (IsScP K Cs P2))
    (hm : ∀ d1 d2, P1 d1 → P2 d2 → SdOk d1 ∧ SdOk d2 ∧ d1.names.length * d2.names.length ≤ 64 ∧ depL [d1, d2] ≤ 10 ∧ (pairNames d1 d2).Nodup) (hP : ∀ d1 d2, P1 d1 → P2 d2 → P (pairSD d1 d2)) :
    Ev S n (ka + (kb + 0)) (tMake C (spI (PPrI K Cs C)) [] E (tCons tl (tCons tr tNil))) σ G (IsScP K Cs P) :=
  (ev_makeW (R := ScOR P) (RA := RCons (IsScP K Cs P1) (RCons (IsScP K Cs P2) RNil)) st (ea_cons e1 (ea_cons e2 ea_nil)) fun vs G' s' h => by
    obtain ⟨_, _, rfl, ⟨d, ⟨x, rfl, sd⟩, hd⟩, _, _, rfl, ⟨d2, ⟨x2, rfl, sd2⟩, hd2⟩, e⟩ := h
    obtain rfl := (show _ = [] from e)
    obtain ⟨h1, h2, h3, h4, h5⟩ := hm d d2 hd hd2
    exact ⟨_, ⟨rfl, rfl, x, x2, d, d2, rfl, sd, sd2, h1, h2, h3, h4, h5, rfl⟩, fun a b fs G h => ⟨pairSD d d2, hP d d2 hd hd2, h.1, fun f hf => h.2.1 f (by revert f; decide +kernel) (by revert f; decide +kernel) (by revert f; decide +kernel)⟩⟩).imp fun v G' s' h => scp_of iC oC h
end
end L2.DS
/-! Operators of own classes. -/
/-! Worths: what their defs promise; powers and stars. -/
namespace L2.DS
open PySem PySem.Spec PyProof.Rows
def wtF : List Str := ["scale", "place", "name"]
/-- a worth p of the scale d stands at w -/
def WtAt (K : PySem.W.Frag) (Cs : List Addr) (CW : Addr) (d : SD) (p : Nat) (w : Addr) (G : Hp) : Prop := ∃ dx fs x, G w = some (.ins CW dx fs) ∧ fs.lookup ("scale" : Str) = some (.ref x) ∧ fs.lookup ("place" : Str) = some (.int (p : Nat)) ∧ fs.lookup ("name" : Str) = some (.str (d.names.getD p ("" : Str))) ∧
  ScD K Cs d x G ∧ p < d.names.length ∧ ∀ f, f ∉ wtF → fs.lookup f = none
theorem WtAt.mono {K : PySem.W.Frag} {Cs : List Addr} {CW : Addr} {d : SD} {p : Nat} {w : Addr} {G G' : Hp} (h : WtAt K Cs CW d p w G) (s : Same G G') : WtAt K Cs CW d p w G' := by
  obtain ⟨dx, fs, x, a, b, c, e, f, g⟩ := h
  exact ⟨dx, fs, x, s _ _ a, b, c, e, f.mono s, g⟩
def IsWt (K : PySem.W.Frag) (Cs : List Addr) (CW : Addr) (d : SD) (p : Nat) : HR := fun v G => ∃ w, v = .ref w ∧ WtAt K Cs CW d p w G
instance (K Cs CW d p) : Mon (IsWt K Cs CW d p) := ⟨fun s ⟨w, e, h⟩ => ⟨w, e, h.mono s⟩⟩
section
variable {S : SR} {n k ka kb : Nat} {te ta tb : TE} {t : TA} {σ : L2.St} {G : Hp} {K : PySem.W.Frag} {Cs : List Addr} {CW : Addr} {d : SD} {p : Nat} {w : Addr} {E : XK}
theorem WtAt.at (h : WtAt K Cs CW d p w G) : ∃ dx fs, G w = some (.ins CW dx fs) := by
  obtain ⟨dx, fs, x, a, _⟩ := h
  exact ⟨dx, fs, a⟩
end
/-! ### promises -/
/-! ### powers -/
def pw (d : SD) (p : Nat) : Nat → Nat
  | 0 => d.sl.toNat
  | n + 1 => d.T (pw d p n) p
theorem SdOk.sl' {d : SD} (o : SdOk d) : d.sl.toNat < d.names.length := by have := o.sl; omega
theorem pw_lt {d : SD} (o : SdOk d) {p : Nat} (hp : p < d.names.length) : ∀ n, pw d p n < d.names.length
  | 0 => o.sl'
  | n + 1 => (o.T (pw_lt o hp n) hp).2
/-- the first L powers are told apart -/
def Dst (d : SD) (p L : Nat) : Prop := ∀ i j, i < j → j < L → pw d p i ≠ pw d p j
/-- .. and the next one is among them, at b -/
structure Orb (d : SD) (p L b : Nat) : Prop where
  ds : Dst d p L
  lt : b < L
  eq : pw d p L = pw d p b
def pwL (d : SD) (p L : Nat) : List Nat := (List.range L).map (pw d p)
theorem pwL_len (d : SD) (p L : Nat) : (pwL d p L).length = L := by unfold pwL; rw [List.length_map, List.length_range]
theorem pwL_mem {d : SD} {p L x : Nat} : x ∈ pwL d p L ↔ ∃ i, i < L ∧ pw d p i = x := by
  unfold pwL
  rw [List.mem_map]
  constructor
  · rintro ⟨i, hi, e⟩
    exact ⟨i, List.mem_range.mp hi, e⟩
  · rintro ⟨i, hi, e⟩
    exact ⟨i, List.mem_range.mpr hi, e⟩
/-- boxes and pigeons -/
theorem pig : ∀ (n : Nat) (l : List Nat), l.Nodup → (∀ x ∈ l, x < n) → l.length ≤ n
  | 0, [], _, _ => Nat.le_refl 0
  | 0, a :: _, _, h => absurd (h a List.mem_cons_self) (Nat.not_lt_zero _)
  | n + 1, l, nd, h => by
    have z := pig n (l.erase n) (nd.erase n) fun x hx => by
      have h1 := h x (List.mem_of_mem_erase hx)
      have h2 : x ≠ n := ((List.Nodup.mem_erase_iff nd).mp hx).1
      omega
    by_cases hm : n ∈ l
    · rw [List.length_erase_of_mem hm] at z
      omega
    · rw [List.erase_of_not_mem hm] at z
      omega
theorem Dst.len {d : SD} {p L : Nat} (o : SdOk d) (hp : p < d.names.length) (h : Dst d p L) : L ≤ d.names.length := by
  have z := pig d.names.length (pwL d p L) ?_ fun x hx => by
    obtain ⟨i, _, rfl⟩ := pwL_mem.mp hx
    exact pw_lt o hp i
  · rw [pwL_len] at z
    exact z
  · unfold pwL List.Nodup
    rw [List.pairwise_map]
    refine List.Pairwise.imp_of_mem (fun {x y} hx hy hxy => h x y hxy (List.mem_range.mp hy)) (List.pairwise_lt_range (n := L))
/-! ### stars -/
/-- the join of the powers 0 to n -/
def stj (d : SD) (p : Nat) : Nat → Nat
  | 0 => d.sl.toNat
  | n + 1 => d.J (stj d p n) (pw d p (n + 1))
/-- a.star -/
def IsStar (K : PySem.W.Frag) (Cs : List Addr) (CW : Addr) (d : SD) (p : Nat) : HR := fun v G => ∃ L b, Orb d p L b ∧ IsWt K Cs CW d (stj d p (L - 1)) v G
instance (K Cs CW d p) : Mon (IsStar K Cs CW d p) := ⟨fun s ⟨L, b, o, h⟩ => ⟨L, b, o, Mon.mon s h⟩⟩
/-! ### lists of places -/
abbrev nVs (l : List Nat) : List V := l.map fun k => V.int (k : Nat)
/-! ### operators by values -/
end L2.DS
/-! The laws' own tables of places, and the table scale made of them. -/
namespace L2.DS
open PySem PySem.Spec PyProof.Rows
/-- the scale that a table of places makes -/
def tabSD (names : List Str) (nv sl : Nat) (th jn : Nat → Nat → Int) : SD := ⟨tbLab names (names.getD nv ("" : Str)) (names.getD sl ("" : Str)) (rowsS names jn) (rowsS names th), names, (nv : Nat), (sl : Nat), 1, th, jn⟩
/-- what is known of such tables -/
structure TbIs (names : List Str) (nv sl : Nat) (th jn : Nat → Nat → Int) : Prop where
  l1 : 1 ≤ names.length
  l2 : names.length ≤ 16
  nd : names.Nodup
  ok : ∀ nm ∈ names, okNm nm = true
  so : ∀ nm ∈ names, PyData.strOk nm = true
  nv : nv < names.length
  sl : sl < names.length
  th : ∀ a b, a < names.length → b < names.length → 0 ≤ th a b ∧ th a b < names.length
  jn : ∀ a b, a < names.length → b < names.length → 0 ≤ jn a b ∧ jn a b < names.length
section
variable {names : List Str} {nv sl : Nat} {th jn : Nat → Nat → Int}
theorem TbIs.tb (h : TbIs names nv sl th jn) : TbOk names (rowsS names jn) (rowsS names th) (names.getD nv ("" : Str)) (names.getD sl ("" : Str)) := by
  have rj := rowsS_ok h.jn
  have rt := rowsS_ok h.th
  exact ⟨h.l1, h.l2, h.nd, h.ok, (idx_getD h.nd h.nv).1, (idx_getD h.nd h.sl).1, rj.1, rj.2, rt.1, rt.2⟩
theorem TbIs.sd (h : TbIs names nv sl th jn) : SdOk (tabSD names nv sl th jn) ∧ (tabSD names nv sl th jn).label.length ≤ 20000 := by
  have z := tbl_sd h.tb h.sl h.th
  have l2 := h.l2
  refine ⟨⟨h.nd, h.l1, by show names.length ≤ 64; omega, fun nm m => by have := okNm_len (h.ok nm m); omega, Nat.le_trans z.2 (by decide), ?_, ?_, h.th, h.jn⟩, z.2⟩
  · have := h.nv
    show (0 : Int) ≤ (nv : Nat) ∧ ((nv : Nat) : Int) < ((names.length : Nat) : Int)
    omega
  · have := h.sl
    show (0 : Int) ≤ (sl : Nat) ∧ ((sl : Nat) : Int) < ((names.length : Nat) : Int)
    omega
theorem ScIs.congr {label : Str} {nv sl dep : Int} {th jn th' jn' : Nat → Nat → Int} {fs : List (Str × V)} {G : Hp} (h : ScIs label names nv sl dep th jn fs G) (e1 : ∀ a b, a < names.length → b < names.length → th a b = th' a b) (e2 : ∀ a b, a < names.length → b < names.length → jn a b = jn' a b) : ScIs label names nv sl dep th' jn' fs G := by
  have tab : ∀ {p : Addr} {f g : Nat → Nat → Int}, (∀ a b, a < names.length → b < names.length → f a b = g a b) → Tab G p names.length f → Tab G p names.length g := by
    intro p f g e ⟨q, ys, e0, gp, l, r⟩
    refine ⟨q, ys, e0, gp, l, fun i y hi => ?_⟩
    obtain ⟨q2, zs, e3, g2, l2, r2⟩ := r i y hi
    refine ⟨q2, zs, e3, g2, l2, fun j z hj => ?_⟩
    have hi' : i < names.length := by have := (List.getElem?_eq_some_iff.mp hi).1; omega
    have hj' : j < names.length := by have := (List.getElem?_eq_some_iff.mp hj).1; omega
    have := r2 j z hj
    rw [show z = _ from this, e i j hi' hj']
    rfl
  obtain ⟨a, b, c, d, e, f, g, ⟨p, hp, hpt⟩, ⟨q, hq, hqt⟩⟩ := h
  exact ⟨a, b, c, d, e, f, g, ⟨p, hp, tab e1 hpt⟩, ⟨q, hq, tab e2 hqt⟩⟩
theorem ScD.congr {K : PySem.W.Frag} {Cs : List Addr} {d d' : SD} {x : Addr} {G : Hp} (h : ScD K Cs d x G) (e1 : d.label = d'.label) (e2 : d.names = d'.names) (e3 : d.nv = d'.nv) (e4 : d.sl = d'.sl) (e5 : d.dep = d'.dep) (e6 : ∀ a b, a < d.names.length → b < d.names.length → d.th a b = d'.th a b) (e7 : ∀ a b, a < d.names.length → b < d.names.length → d.jn a b = d'.jn a b) : ScD K Cs d' x G := by
  obtain ⟨C, hC, oC, dx, fs, gx, hs, hm⟩ := h
  refine ⟨C, hC, oC, dx, fs, gx, ?_, hm⟩
  rw [← e1, ← e2, ← e3, ← e4, ← e5]
  exact hs.congr e6 e7
theorem TbIs.scd {K : PySem.W.Frag} {Cs : List Addr} {x : Addr} {G : Hp} (h : TbIs names nv sl th jn) (s : ScD K Cs ⟨tbLab names (names.getD nv ("" : Str)) (names.getD sl ("" : Str)) (rowsS names jn) (rowsS names th), names, (names.idxOf (names.getD nv ("" : Str)) : Nat), (names.idxOf (names.getD sl ("" : Str)) : Nat), 1, idxT names (rowsS names th), idxT names (rowsS names jn)⟩ x G) : ScD K Cs (tabSD names nv sl th jn) x G :=
  s.congr rfl rfl (by show ((names.idxOf (names.getD nv ("" : Str)) : Nat) : Int) = (nv : Nat); rw [(idx_getD h.nd h.nv).2]) (by show ((names.idxOf (names.getD sl ("" : Str)) : Nat) : Int) = (sl : Nat); rw [(idx_getD h.nd h.sl).2]) rfl (fun a b ha hb => idxT_rows h.nd h.th ha hb) fun a b ha hb => idxT_rows h.nd h.jn ha hb
end
/-- the laws' rows of a table scale: names, joins, products, never, still, the scale -/
def TbAt (K : PySem.W.Frag) (Cs : List Addr) (names : List Str) (nv sl : Nat) (th jn : Nat → Nat → Int) (p : Addr) (G : Hp) : Prop := ∃ pn pj pp x, G p = some (.lst [.ref pn, .ref pj, .ref pp, .int (nv : Nat), .int (sl : Nat), .ref x]) ∧ G pn = some (.lst (names.map V.str)) ∧ TabN G pj names.length jn ∧ TabN G pp names.length th ∧ ScD K Cs (tabSD names nv sl th jn) x G
theorem TbAt.mono {K : PySem.W.Frag} {Cs : List Addr} {names : List Str} {nv sl : Nat} {th jn : Nat → Nat → Int} {p : Addr} {G G' : Hp} (h : TbAt K Cs names nv sl th jn p G) (s : Same G G') : TbAt K Cs names nv sl th jn p G' := by
  obtain ⟨pn, pj, pp, x, a, b, c, d, e⟩ := h
  exact ⟨pn, pj, pp, x, s _ _ a, s _ _ b, c.mono s, d.mono s, e.mono s⟩
def IsTb (K : PySem.W.Frag) (Cs : List Addr) (P : SD → Prop) : HR := fun v G => ∃ (p : Addr) (names : List Str) (nv sl : Nat) (th jn : Nat → Nat → Int), v = .ref p ∧ TbAt K Cs names nv sl th jn p G ∧ TbIs names nv sl th jn ∧ P (tabSD names nv sl th jn)
instance (K Cs P) : Mon (IsTb K Cs P) := ⟨fun s ⟨p, names, nv, sl, th, jn, e, a, b, c⟩ => ⟨p, names, nv, sl, th, jn, e, a.mono s, b, c⟩⟩
section
variable {S : SR} {n m ka kb : Nat} {te tn tj tp t1 t2 el : TE} {t : TA} {σ : L2.St} {G : Hp} {K : PySem.W.Frag} {Cs : List Addr} {CT : Addr} {E : XK} {names : List Str} {i r c ja jb : Nat} {p pn pt : Addr} {ff : Nat → Nat → Int} {nv sl : Nat} {th jn : Nat → Nat → Int}
/-- [[names[k] for k in row] for row in table] -/
theorem ev_names (st : Stab S) (e : Ev S n 0 te σ G (IsV (.ref pt))) (ht : TabN G pt names.length ff) (hb : ∀ a b, a < names.length → b < names.length → 0 ≤ ff a b ∧ ff a b < names.length) (hn : names.length ≤ 1000) (gn : G pn = some (.lst (names.map V.str)))
    (hw : ∀ y : Option V, wipe ((wipe σ [r]).set r y) [r] = wipe σ [r]) (h4 : ∀ y : Option V, ((wipe σ [r]).set r y)[r]? = some y)
    (h1 : ∀ y z : Option V, ((wipe ((wipe σ [r]).set r y) [c]).set c z)[i]? = some (some (.ref pn)) ∧ ((wipe ((wipe σ [r]).set r y) [c]).set c z)[c]? = some z ∧ wipe ((wipe ((wipe σ [r]).set r y) [c]).set c z) [c] = wipe ((wipe σ [r]).set r y) [c]) :
    Ev S n 0 (tLc (iList K te) (gName r) tYes (tLc (iList K (tVar r)) (gName c) tYes (tOp (rIxA K) (tVar i) (tVar c)) [c]) [r]) σ G (IsNX G (RL IsSR (rowsS names ff))) := by
  obtain ⟨vs, hp, lv, hat⟩ := ht.at
  have lr : (rowsS names ff).length = names.length := by unfold rowsS; rw [List.length_map, List.length_range]
  refine ev_lcG (R := IsSR) (ss := rowsS names ff) (σf := fun j => (wipe σ [r]).set r (vs[j]?)) st e (SqL.of hp) (by rw [lv, lr]) (by omega) (fun j y G'' J hy s'' t'' Qs q' => ?_) (fun _ => hw _) (fun a y rr G'' hy hr s'' => ?_)
  · rw [hy] at q'
    exact q'
  · rw [hy]
    have ha : a < names.length := by
      have := (List.getElem?_eq_some_iff.mp hy).1
      omega
    obtain ⟨qr, hq1, hq2⟩ := hat a ha
    rw [hq1] at hy
    obtain rfl := Option.some.inj hy
    unfold rowsS at hr
    rw [List.getElem?_map, List.getElem?_range ha] at hr
    obtain rfl := Option.some.inj hr
    refine (ev_lcVL (f := fun v => match v with | .int i => .str (names.getD i.toNat ("" : Str)) | _ => .non) st (ev_var (h4 _)) (SqL.of (s'' _ _ hq2)) (by rw [List.length_map, List.length_range]; omega) (fun z => (h1 _ _).2.2) fun b z G3 hz s3 => ?_).imp fun v G3 s3 ⟨p2, e, _, g⟩ => ⟨p2, e, by rw [g, List.map_map, List.map_map]; rfl⟩
    obtain ⟨hbl, rfl⟩ := map_get hz
    rw [List.length_range] at hbl
    rw [List.getElem_range]
    have bd := hb a b (by omega) (by omega)
    refine ev_opV (ev_var (h1 _ _).1) (ev_var (h1 _ _).2.1) (v_ixL st (SqL.of (s3 _ _ (s'' _ _ gn))) ?_)
    obtain ⟨i, hi⟩ : ∃ i : Nat, ff a b = (i : Nat) := ⟨(ff a b).toNat, by omega⟩
    rw [hi]
    show _ = some (V.str (names.getD ((i : Nat) : Int).toNat ("" : Str)))
    rw [Int.toNat_natCast]
    have hi2 : i < names.length := by omega
    exact atI_nat (by rw [List.getElem?_map, List.getD_eq_getElem?_getD, List.getElem?_eq_getElem hi2]; rfl)
/-- TableScale(names, joins, products, never = .., still = ..) -/
theorem ev_mkTab (st : Stab S) (iT : CT ∈ Cs) (oT : ClsOk K CT) (T : TbIs names nv sl th jn) (en : Ev S n 0 tn σ G (IsNew G (.lst (names.map V.str)))) (ej : Ev S n 0 tj σ G (fun v G' => ∃ p, v = .ref p ∧ TabS G' p (rowsS names jn))) (ep : Ev S n 0 tp σ G (fun v G' => ∃ p, v = .ref p ∧ TabS G' p (rowsS names th)))
    (e1 : Ev S n 0 t1 σ G (IsV (.str (names.getD nv ("" : Str))))) (e2 : Ev S n 0 t2 σ G (IsV (.str (names.getD sl ("" : Str))))) :
    Ev S n 0 (tMakeK CT 3 2 (spI (PTbI CT)) (fun vs zs => vs ++ zs) E (tCons tn (tCons tj (tCons tp tNil))) (tCons t1 (tCons t2 tNil))) σ G (fun v G' => ∃ x, v = .ref x ∧ ScD K Cs (tabSD names nv sl th jn) x G') := by
  have mj : Mon (fun v G' => ∃ p, v = V.ref p ∧ TabS G' p (rowsS names jn)) := ⟨fun s ⟨p, e, h⟩ => ⟨p, e, h.mono s⟩⟩
  have mp : Mon (fun v G' => ∃ p, v = V.ref p ∧ TabS G' p (rowsS names th)) := ⟨fun s ⟨p, e, h⟩ => ⟨p, e, h.mono s⟩⟩
  have ms : Mons (RCons (IsNew G (.lst (names.map V.str))) (RCons (fun v G' => ∃ p, v = V.ref p ∧ TabS G' p (rowsS names jn)) (RCons (fun v G' => ∃ p, v = V.ref p ∧ TabS G' p (rowsS names th)) RNil))) := inferInstance
  refine (ev_makeKR (ka := 0) (kb := 0) (R := fun _ _ fs' G' => ScIs (tbLab names (names.getD nv ("" : Str)) (names.getD sl ("" : Str)) (rowsS names jn) (rowsS names th)) names (names.idxOf (names.getD nv ("" : Str)) : Nat) (names.idxOf (names.getD sl ("" : Str)) : Nat) 1 (idxT names (rowsS names th)) (idxT names (rowsS names jn)) fs' G' ∧ (∀ f, f ∉ scF → f ∉ tbF → fs'.lookup f = none)) (RA := RCons (IsNew G (.lst (names.map V.str))) (RCons (fun v G' => ∃ p, v = V.ref p ∧ TabS G' p (rowsS names jn)) (RCons (fun v G' => ∃ p, v = V.ref p ∧ TabS G' p (rowsS names th)) RNil))) (zs := [.str (names.getD nv ("" : Str)), .str (names.getD sl ("" : Str))]) st (ea_cons en (ea_cons ej (ea_cons ep ea_nil))) (ea_consV e1 (ea_consV e2 ea_nilV)) (fun vs G' h => ?_) rfl fun vs G' s' h => ?_).imp fun v G' s' h => ?_
  · obtain ⟨_, _, rfl, _, _, _, rfl, _, _, _, rfl, _, e⟩ := h
    obtain rfl := (show _ = [] from e)
    rfl
  · obtain ⟨_, _, rfl, ⟨a, rfl, _, ga⟩, _, _, rfl, ⟨b, rfl, tb⟩, _, _, rfl, ⟨c, rfl, tc⟩, e⟩ := h
    obtain rfl := (show _ = [] from e)
    exact ⟨_, fun x => rfl, rfl, rfl, a, b, c, names, rowsS names jn, rowsS names th, _, _, rfl, ga, tb, tc, T.tb, rfl⟩
  · obtain ⟨x, e, hx⟩ := ScC.of h fun a b fs' G2 h => ⟨h.1, fun f hf => h.2 f (by revert f; decide +kernel) (by revert f; decide +kernel)⟩
    exact ⟨x, e, T.scd ⟨CT, iT, oT, hx⟩⟩
end
/-! ### the five sorts of regular tables -/
def ljn (sort : Nat) (a b : Int) : Int :=
  if sort < 4 ∧ (a = 0 ∨ b = 0) then a + b else if sort = 0 then (if b > a then b else a) else if sort = 1 then (if b < a then b else a) else if sort = 3 then Builtin.bitAnd (a - 1) (b - 1) + 1 else if sort = 4 then Builtin.bitOr a b else Builtin.bitOr (a - 1) (b - 1) + 1
def lthK (a b : Int) (k : Nat) : Int :=
  Builtin.bitOr (Builtin.bitAnd (Builtin.bitAnd (a / 2 ^ (3 - (((k : Nat) : Int) / 2) * 2).toNat) (b / 2 ^ (3 - ((k : Nat) : Int) % 2).toNat)) 1) (Builtin.bitAnd (Builtin.bitAnd (a / 2 ^ (2 - (((k : Nat) : Int) / 2) * 2).toNat) (b / 2 ^ (1 - ((k : Nat) : Int) % 2).toNat)) 1)
def lthW (a b : Int) (j : Nat) : Int := (List.range j).foldl (fun f k => f * 2 + lthK a b k) 0
def lth (sort : Nat) (most : Int) (a b : Int) : Int :=
  if sort = 4 then lthW a b 4 else if a = 0 ∨ b = 0 then 0 else if sort < 2 then (if most < a + b - 2 then most else a + b - 2) + 1 else Builtin.bitOr (a - 1) (b - 1) + 1
def bsSD (sort most : Nat) : SD := if sort = 0 then cntSD most true else if sort = 1 then cntSD most false else if sort = 2 then stSD 2 true else if sort = 3 then stSD 2 false else wtSD 2
def bsN (sort most : Nat) : Nat := if sort < 2 then most + 2 else if sort < 4 then 5 else 16
def bsM (sort : Nat) : Nat := if sort = 4 then 9 else 1
theorem bs_is : ∀ sort, sort < 5 → ∀ most, most < 4 → ∀ a, a < bsN sort most → ∀ b, b < bsN sort most → ljn sort (a : Nat) (b : Nat) = (bsSD sort most).jn a b ∧ lth sort (most : Nat) (a : Nat) (b : Nat) = (bsSD sort most).th a b := by decide +kernel
theorem bs_reg : ∀ {sort most : Nat}, sort < 5 → most < 4 → Reg (bsSD sort most) ∧ SdOk (bsSD sort most) ∧ (bsSD sort most).names.length = bsN sort most ∧ (bsSD sort most).nv.toNat = 0 ∧ (bsSD sort most).sl.toNat = bsM sort := by
  intro sort most h1 h2
  have hk : ∀ sort, sort < 5 → ∀ most, most < 4 → (bsSD sort most).names.length = bsN sort most ∧ (bsSD sort most).nv.toNat = 0 ∧ (bsSD sort most).sl.toNat = bsM sort := by decide +kernel
  refine ⟨?_, ?_, hk sort h1 most h2⟩
  · match sort, h1 with
    | 0, _ => exact count_reg most true
    | 1, _ => exact count_reg most false
    | 2, _ => exact set_reg 2 true
    | 3, _ => exact set_reg 2 false
    | 4, _ => exact watch_reg (.inr rfl)
  · match sort, h1 with
    | 0, _ => exact cnt_ok (by omega) true
    | 1, _ => exact cnt_ok (by omega) false
    | 2, _ => exact st_ok (by decide) (by decide) true
    | 3, _ => exact st_ok (by decide) (by decide) false
    | 4, _ => exact wt_ok (.inr rfl)
/-- numbered up or down -/
def trn (t : Int) (k : Nat) : Int := if t - (k : Nat) < 0 then -(t - (k : Nat)) else t - (k : Nat)
def tuJ (sort : Nat) (t : Int) (a b : Nat) : Int := let z := t - ljn sort (trn t a) (trn t b); if z < 0 then -z else z
def tuT (sort : Nat) (most t : Int) (a b : Nat) : Int := let z := t - lth sort most (trn t a) (trn t b); if z < 0 then -z else z
def tuN (n : Nat) (t : Int) : List Str := (List.range n).map fun k => ("w" : Str) ++ (toString (trn t k) : Str)
theorem tuN_ok : ∀ n, n < 17 → ∀ tt, tt < 2 → (tuN n ((tt : Nat) * ((n : Nat) - 1))).Nodup ∧ ∀ nm ∈ tuN n ((tt : Nat) * ((n : Nat) - 1)), okNm nm = true ∧ PyData.strOk nm = true := by decide +kernel
theorem tuN_len (n : Nat) (t : Int) : (tuN n t).length = n := by unfold tuN; rw [List.length_map, List.length_range]
theorem trn_nat {n tt k : Nat} (ht : tt < 2) (hk : k < n) : trn ((tt : Nat) * (((n : Nat) : Int) - 1)) k = ((if tt = 0 then k else n - 1 - k : Nat) : Int) := by
  unfold trn
  have : tt = 0 ∨ tt = 1 := by omega
  rcases this with rfl | rfl
  · rw [if_pos rfl, show (((0 : Nat) : Int) * (((n : Nat) : Int) - 1)) = 0 by omega]
    split <;> omega
  · rw [if_neg (by decide : ¬ (1 : Nat) = 0), show (((1 : Nat) : Int) * (((n : Nat) : Int) - 1)) = ((n : Nat) : Int) - 1 by omega]
    split <;> omega
theorem tbl_reg {sort most tt : Nat} (h1 : sort < 5) (h2 : most < 4) (ht : tt < 2) :
    TbIs (tuN (bsN sort most) ((tt : Nat) * ((bsN sort most : Nat) - 1))) (tt * (bsN sort most - 1)) (trn ((tt : Nat) * ((bsN sort most : Nat) - 1)) (bsM sort)).toNat (tuT sort (most : Nat) ((tt : Nat) * ((bsN sort most : Nat) - 1))) (tuJ sort ((tt : Nat) * ((bsN sort most : Nat) - 1))) ∧
    Reg (tabSD (tuN (bsN sort most) ((tt : Nat) * ((bsN sort most : Nat) - 1))) (tt * (bsN sort most - 1)) (trn ((tt : Nat) * ((bsN sort most : Nat) - 1)) (bsM sort)).toNat (tuT sort (most : Nat) ((tt : Nat) * ((bsN sort most : Nat) - 1))) (tuJ sort ((tt : Nat) * ((bsN sort most : Nat) - 1)))) := by
  obtain ⟨r, o, ln, z0, u0⟩ := bs_reg h1 h2
  obtain ⟨n, hn⟩ : ∃ n, n = bsN sort most := ⟨_, rfl⟩
  have n2 : 2 ≤ n ∧ n ≤ 16 ∧ bsM sort < n := by
    rw [hn]
    unfold bsN bsM
    split <;> split <;> (try split) <;> omega
  rw [← hn] at ln ⊢
  have rr : RegF n (bsSD sort most).T (bsSD sort most).J 0 (bsM sort) := by
    have := r
    unfold Reg at this
    rw [ln, z0, u0] at this
    exact this
  let f : Nat → Nat := fun k => if tt = 0 then k else n - 1 - k
  have fl : ∀ {k}, k < n → f k < n := fun {k} hk => by
    show (if tt = 0 then k else n - 1 - k) < n
    split <;> omega
  have ff : ∀ {k}, k < n → f (f k) = k := fun {k} hk => by
    show (if tt = 0 then (if tt = 0 then k else n - 1 - k) else n - 1 - (if tt = 0 then k else n - 1 - k)) = k
    split <;> omega
  have ft : ∀ {k}, k < n → trn ((tt : Nat) * (((n : Nat) : Int) - 1)) k = ((f k : Nat) : Int) := fun hk => trn_nat ht hk
  have ab : ∀ {k : Nat}, k < n → (let z := ((tt : Nat) : Int) * (((n : Nat) : Int) - 1) - ((k : Nat) : Int); if z < 0 then -z else z) = ((f k : Nat) : Int) := fun hk => ft hk
  have ej : ∀ {a b}, a < n → b < n → tuJ sort ((tt : Nat) * (((n : Nat) : Int) - 1)) a b = ((f ((bsSD sort most).J (f a) (f b)) : Nat) : Int) := fun {a b} ha hb => by
    unfold tuJ
    rw [ft ha, ft hb, (bs_is sort h1 most h2 _ (hn ▸ fl ha) _ (hn ▸ fl hb)).1, ← (o.J (by rw [ln]; exact fl ha) (by rw [ln]; exact fl hb)).1]
    exact ab (rr.jb (fl ha) (fl hb))
  have et : ∀ {a b}, a < n → b < n → tuT sort (most : Nat) ((tt : Nat) * (((n : Nat) : Int) - 1)) a b = ((f ((bsSD sort most).T (f a) (f b)) : Nat) : Int) := fun {a b} ha hb => by
    unfold tuT
    rw [ft ha, ft hb, (bs_is sort h1 most h2 _ (hn ▸ fl ha) _ (hn ▸ fl hb)).2, ← (o.T (by rw [ln]; exact fl ha) (by rw [ln]; exact fl hb)).1]
    exact ab (rr.tb (fl ha) (fl hb))
  have e0 : tt * (n - 1) = f 0 := by
    show _ = if tt = 0 then 0 else n - 1 - 0
    have : tt = 0 ∨ tt = 1 := by omega
    rcases this with rfl | rfl
    · simp
    · simp
  have eu : (trn ((tt : Nat) * (((n : Nat) : Int) - 1)) (bsM sort)).toNat = f (bsM sort) := by
    rw [ft n2.2.2]
    rfl
  have nm := tuN_ok n (by omega) tt ht
  refine ⟨⟨by rw [tuN_len]; omega, by rw [tuN_len]; omega, nm.1, fun x h => (nm.2 x h).1, fun x h => (nm.2 x h).2, by rw [tuN_len, e0]; exact fl (by omega), by rw [tuN_len, eu]; exact fl n2.2.2, fun a b ha hb => ?_, fun a b ha hb => ?_⟩, ?_⟩
  · rw [tuN_len] at ha hb ⊢
    rw [et ha hb]
    have := fl (rr.tb (fl ha) (fl hb))
    omega
  · rw [tuN_len] at ha hb ⊢
    rw [ej ha hb]
    have := fl (rr.jb (fl ha) (fl hb))
    omega
  · show RegF (tuN n _).length (fun a b => (tuT sort (most : Nat) ((tt : Nat) * (((n : Nat) : Int) - 1)) a b).toNat) (fun a b => (tuJ sort ((tt : Nat) * (((n : Nat) : Int) - 1)) a b).toNat) (((tt * (n - 1) : Nat) : Int)).toNat ((((trn ((tt : Nat) * (((n : Nat) : Int) - 1)) (bsM sort)).toNat : Nat) : Int)).toNat
    rw [tuN_len, Int.toNat_natCast, Int.toNat_natCast, e0, eu]
    have inj : ∀ {a b}, a < n → b < n → f a = f b → a = b := fun {a b} ha hb e => by
      have := congrArg f e
      rw [ff ha, ff hb] at this
      exact this
    refine RegF.rep (X := Nat) f (bsSD sort most).T (bsSD sort most).J inj (fl (by omega)) (fl n2.2.2) (fun {a b} ha hb => ?_) (fun {a b} ha hb => ?_) (fun {a b} ha hb => ?_) (fun {a b} ha hb => ?_) (fun {a} ha => rr.jj (fl ha)) (fun {a b} ha hb => rr.jc (fl ha) (fl hb)) (fun {a b c} ha hb hc => rr.ja (fl ha) (fl hb) (fl hc)) (fun {a} ha => ?_) (fun {a b c} ha hb hc => rr.ta (fl ha) (fl hb) (fl hc)) (fun {a} ha => ?_) (fun {a} ha => ?_) (fun {a b c} ha hb hc => rr.dl (fl ha) (fl hb) (fl hc)) (fun {a b c} ha hb hc => rr.dr (fl ha) (fl hb) (fl hc))
    · show (tuT _ _ _ _ _).toNat < n
      rw [et ha hb]
      exact fl (rr.tb (fl ha) (fl hb))
    · show (tuJ _ _ _ _).toNat < n
      rw [ej ha hb]
      exact fl (rr.jb (fl ha) (fl hb))
    · show f (tuT _ _ _ _ _).toNat = _
      rw [et ha hb]
      exact ff (rr.tb (fl ha) (fl hb))
    · show f (tuJ _ _ _ _).toNat = _
      rw [ej ha hb]
      exact ff (rr.jb (fl ha) (fl hb))
    · rw [ff (show 0 < n by omega)]
      exact rr.jz (fl ha)
    · rw [ff n2.2.2]
      exact rr.tu (fl ha)
    · rw [ff (show 0 < n by omega)]
      exact rr.tz (fl ha)
/-! ### a list that was newly made is changed -/
section
variable {S : SR} {n : Nat} {te ta tb : TE} {σ : L2.St} {G : Hp} {K : PySem.W.Frag} {pt : Addr} {m a b : Nat} {f : Nat → Nat → Int}
/-- table[a][b] -/
theorem ev_ent2 (st : Stab S) (ht : TabN G pt m f) (e : Ev S n 0 te σ G (IsV (.ref pt))) (ea : Ev S n 0 ta σ G (IsV (.int (a : Nat)))) (eb : Ev S n 0 tb σ G (IsV (.int (b : Nat)))) (ha : a < m) (hb : b < m) : Ev S n 0 (tOp (rIxA K) (tOp (rIxA K) te ta) tb) σ G (IsV (.int (f a b))) := by
  obtain ⟨vs, gp, lv, hat⟩ := ht.at
  obtain ⟨q, hq, gq⟩ := hat a ha
  exact ev_opV (ev_opV e ea (v_ixL st (SqL.of gp) (atI_nat hq))) eb (v_ixL st (SqL.of gq) (rowAt hb))
/-- l[k] -/
theorem ev_at (st : Stab S) {p : Addr} {xs : List V} {z : V} {k : Nat} (g : G p = some (.lst xs)) (e : Ev S n 0 te σ G (IsV (.ref p))) (hz : xs[k]? = some z) : Ev S n 0 (tOp (rIxA K) te (tC (.int (k : Nat)))) σ G (IsV z) := ev_opV e ev_c (v_ixL st (SqL.of g) (atI_nat hz))
end
/-- a row newly made -/
def IsIRn (F : Hp) (n : Nat) (f : Nat → Int) : HR := IsNew F (.lst ((List.range n).map fun b => V.int (f b)))
instance (F n f) : Mon (IsIRn F n f) := inferInstanceAs (Mon (IsNew _ _))
/-! ### rows told apart -/
theorem rl_map_imp {α : Type} {R R' : α → HR} {G G' : Hp} (i : ∀ a v, R a v G → R' a v G') : ∀ {ss : List α} {vs : List V}, RL R ss vs G → RL R' ss vs G'
  | [], _, h => h
  | a :: r, _, ⟨v, w, e, x, y⟩ => ⟨v, w, e, i a v x, rl_map_imp i y⟩
end L2.DS
/-! Residuals and stars on regular scales; joins of lists of places. -/
/-! Lists of things of one kind that grow; the values of and, or, not of worths. -/
namespace L2.DS
open PySem PySem.Spec PyProof.Rows
/-- n things of one kind -/
def AllR (R : HR) (n : Nat) : HRs := fun xs G => ∃ ss : List Nat, RL (fun _ => R) ss xs G ∧ ss.length = n
instance (R : HR) [Mon R] (n : Nat) : Mons (AllR R n) := ⟨fun s ⟨ss, r, l⟩ => ⟨ss, rl_mon s r, l⟩⟩
theorem AllR.len {R : HR} {n : Nat} {xs : List V} {G : Hp} (h : AllR R n xs G) : xs.length = n := by
  obtain ⟨ss, r, l⟩ := h
  rw [rl_len r, l]
theorem AllR.get {R : HR} {n i : Nat} {xs : List V} {G : Hp} (h : AllR R n xs G) (hi : i < n) : ∃ v, xs[i]? = some v ∧ R v G := by
  obtain ⟨ss, r, l⟩ := h
  exact rl_get r (List.getElem?_eq_getElem (by omega))
/-- a list newly made of things that stood before it -/
def IsNXF (S : SR) (G0 : Hp) (RA : HRs) : HR := fun v G => ∃ F p xs m J, S m F J ∧ v = .ref p ∧ Same G0 F ∧ F p = none ∧ Same F G ∧ RA xs F ∧ G p = some (.lst xs)
instance (S G0 RA) : Mon (IsNXF S G0 RA) := ⟨fun s ⟨F, p, xs, m, J, z, e, a, b, c, d, g⟩ => ⟨F, p, xs, m, J, z, e, a, b, c.trans s, d, s _ _ g⟩⟩
section
variable {S : SR} {n k ka kb m i : Nat} {te to : TE} {t : TA} {σ : L2.St} {G : Hp} {K : PySem.W.Frag} {R : HR} {p q : Addr} {xs ys : List V}
theorem ev_IP {Pm : Int → Prop} {j : Int} (e : Ev S n k te σ G (IsV (.int j))) (h : Pm j) : Ev S n k te σ G (IsI Pm) := e.imp fun v G' s' e => ⟨j, h, e⟩
theorem Fr.new {S : SR} {G H F G1 H1 : Hp} {D : Addr} {o : HO} (f : Fr S G H G1 H1) (a : Same G F) (hF : F D = none) (hD : G1 D = some o) : H D = none := (f.n D o hD).resolve_left fun z => by rw [a _ _ z] at hF; cases hF
end
/-! ### worths of one scale -/
/-- some worth of d -/
def IsWtA (K : PySem.W.Frag) (Cs : List Addr) (CW : Addr) (d : SD) : HR := fun v G => ∃ (w : Addr) (p : Nat), v = .ref w ∧ WtAt K Cs CW d p w G
instance (K Cs CW d) : Mon (IsWtA K Cs CW d) := ⟨fun s ⟨w, p, e, h⟩ => ⟨w, p, e, h.mono s⟩⟩
end L2.DS
/-! Texts cut into words; lists of lists that grow and are closed. -/
namespace L2.DS
open PySem PySem.Spec PyProof.Rows
/-! ### a def in which a token is out -/
/-! ### words in lists -/
inductive Wd where
  | w (s : Str)
  | l (ws : List Wd)
mutual
def WdAt : Wd → V → Hp → Prop
  | .w s, v, _ => v = .str s
  | .l ws, v, G => ∃ p xs, v = .ref p ∧ G p = some (.lst xs) ∧ WdsAt ws xs G
def WdsAt : List Wd → List V → Hp → Prop
  | [], xs, _ => xs = []
  | a :: r, xs, G => ∃ x ys, xs = x :: ys ∧ WdAt a x G ∧ WdsAt r ys G
end
mutual
theorem WdAt.mono : ∀ {a : Wd} {v : V} {G G' : Hp}, WdAt a v G → Same G G' → WdAt a v G'
  | .w _, _, _, _, h, _ => by
    unfold WdAt at h ⊢
    exact h
  | .l ws, _, _, _, h, s => by
    unfold WdAt at h ⊢
    obtain ⟨p, xs, e, g, h⟩ := h
    exact ⟨p, xs, e, s _ _ g, WdsAt.mono h s⟩
theorem WdsAt.mono : ∀ {a : List Wd} {v : List V} {G G' : Hp}, WdsAt a v G → Same G G' → WdsAt a v G'
  | [], _, _, _, h, _ => by
    unfold WdsAt at h ⊢
    exact h
  | a :: r, _, _, _, h, s => by
    unfold WdsAt at h ⊢
    obtain ⟨x, ys, e, h1, h2⟩ := h
    exact ⟨x, ys, e, WdAt.mono h1 s, WdsAt.mono h2 s⟩
end
theorem WdsAt.nil {G : Hp} : WdsAt [] [] G := by
  unfold WdsAt
  rfl
theorem WdsAt.cons {a : Wd} {r : List Wd} {x : V} {ys : List V} {G : Hp} (h : WdAt a x G) (h' : WdsAt r ys G) : WdsAt (a :: r) (x :: ys) G := by
  unfold WdsAt
  exact ⟨x, ys, rfl, h, h'⟩
theorem WdsAt.of_nil {xs : List V} {G : Hp} (h : WdsAt [] xs G) : xs = [] := by
  unfold WdsAt at h
  exact h
theorem WdsAt.of_cons {a : Wd} {r : List Wd} {xs : List V} {G : Hp} (h : WdsAt (a :: r) xs G) : ∃ x ys, xs = x :: ys ∧ WdAt a x G ∧ WdsAt r ys G := by
  unfold WdsAt at h
  exact h
theorem WdsAt.len : ∀ {a : List Wd} {xs : List V} {G : Hp}, WdsAt a xs G → xs.length = a.length
  | [], _, _, h => by rw [h.of_nil]; rfl
  | a :: r, _, _, h => by
    obtain ⟨x, ys, rfl, _, h2⟩ := h.of_cons
    rw [List.length_cons, List.length_cons, h2.len]
theorem WdsAt.get : ∀ {a : List Wd} {xs : List V} {G : Hp} {i : Nat} {b : Wd}, WdsAt a xs G → a[i]? = some b → ∃ x, xs[i]? = some x ∧ WdAt b x G
  | [], _, _, _, _, _, e => by simp at e
  | a :: r, _, _, 0, _, h, e => by
    obtain ⟨x, ys, rfl, h1, h2⟩ := h.of_cons
    obtain rfl : a = _ := by simpa using e
    exact ⟨x, rfl, h1⟩
  | a :: r, _, _, i + 1, _, h, e => by
    obtain ⟨x, ys, rfl, h1, h2⟩ := h.of_cons
    exact h2.get (i := i) (by simpa using e)
theorem WdAt.w {s : Str} {G : Hp} : WdAt (.w s) (.str s) G := by
  unfold WdAt
  rfl
theorem WdAt.l {ws : List Wd} {p : Addr} {xs : List V} {G : Hp} (g : G p = some (.lst xs)) (h : WdsAt ws xs G) : WdAt (.l ws) (.ref p) G := by
  unfold WdAt
  exact ⟨p, xs, rfl, g, h⟩
/-! ### parentheses -/
def nwOp (t : Str) (st : List (List Wd)) : Option (List (List Wd)) :=
  if t = ("(" : Str) then some ([] :: st) else if t = (")" : Str) then (match st with | a :: b :: r => some ((b ++ [.l a]) :: r) | _ => none) else if t = ("" : Str) then some st else match st with | a :: r => some ((a ++ [.w t]) :: r) | [] => none
def nwStep (D : Nat) (t : Str) (st : List (List Wd)) : Option (List (List Wd)) := (nwOp t st).bind fun s => if s.length ≤ D then some s else none
def nwRun (D : Nat) : List Str → List (List Wd) → Option (List (List Wd))
  | [], st => some st
  | t :: r, st => (nwStep D t st).bind (nwRun D r)
def nwEnd : List (List Wd) → Option (List Wd)
  | [ws] => some ws
  | _ => none
def nw (D : Nat) (ts : List Str) : Option (List Wd) := (nwRun D ts [[]]).bind nwEnd
def toks (x : Str) : List Str := Txt.split (Txt.replace (Txt.replace x ("(" : Str) (" ( " : Str)) (")" : Str) (" ) " : Str)) (" " : Str)
def Opn (H G : Hp) : List Addr → List (List Wd) → Prop
  | [], [] => True
  | r :: rs, ws :: st => (∃ xs, H r = some (.lst xs) ∧ WdsAt ws xs G) ∧ Opn H G rs st
  | _, _ => False
theorem Opn.len {H G : Hp} : ∀ {rs : List Addr} {st : List (List Wd)}, Opn H G rs st → rs.length = st.length
  | [], [], _ => rfl
  | _ :: rs, _ :: st, h => by rw [List.length_cons, List.length_cons, h.2.len]
  | [], _ :: _, h => h.elim
  | _ :: _, [], h => h.elim
theorem Opn.go {H G H' G' : Hp} : ∀ {rs : List Addr} {st : List (List Wd)}, Opn H G rs st → Same G G' → (∀ r ∈ rs, ∀ xs, H r = some (.lst xs) → H' r = some (.lst xs)) → Opn H' G' rs st
  | [], [], _, _, _ => trivial
  | r :: rs, _ :: st, h, s, k => by
    obtain ⟨⟨xs, hx, hw⟩, h⟩ := h
    exact ⟨⟨xs, k r List.mem_cons_self _ hx, hw.mono s⟩, h.go s fun r' hr => k r' (List.mem_cons_of_mem _ hr)⟩
  | [], _ :: _, h, _, _ => h.elim
  | _ :: _, [], h, _, _ => h.elim
theorem Opn.some {H G : Hp} : ∀ {rs : List Addr} {st : List (List Wd)}, Opn H G rs st → ∀ r ∈ rs, ∃ xs, H r = some (.lst xs)
  | [], [], _, r, hr => by cases hr
  | a :: rs, _ :: st, h, r, hr => by
    rcases List.mem_cons.mp hr with rfl | hr
    · exact ⟨_, h.1.choose_spec.1⟩
    · exact h.2.some r hr
  | [], _ :: _, h, _, _ => h.elim
  | _ :: _, [], h, _, _ => h.elim
/-- the open lists at L, in the heap H; G tells of what stands still -/
structure NwI (G0 H0 G H : Hp) (L : Addr) (rs : List Addr) (st : List (List Wd)) : Prop where
  s : Grow G0 H0 G H
  l : H L = some (.lst (rs.reverse.map V.ref))
  o : Opn H G rs st
  n : (L :: rs).Nodup
  h0 : ∀ r ∈ L :: rs, H0 r = none
  g : ∀ r ∈ L :: rs, G r = none
section
variable {G0 H0 G H J : Hp} {L r : Addr} {rs : List Addr} {st : List (List Wd)} {K : PySem.W.Frag}
theorem NwI.sp (h : NwI G0 H0 G H L rs st) : (SP0 G0 H0).s 0 G H := h.s
theorem NwI.pub (hs : Same G0 H0) (h : NwI G0 H0 G H L rs st) : (SP0 G0 H0).s 0 (upd G L (.lst (rs.reverse.map V.ref))) H :=
  (stab0 G0 H0).pub (n := 0) (m := 0) (Grow.refl hs) (h.h0 L List.mem_cons_self) h.sp (h.g L List.mem_cons_self) h.l
theorem NwI.same (h : NwI G0 H0 G H L rs st) : Same G (upd G L (.lst (rs.reverse.map V.ref))) := fun b o e => by
  rw [upd_ne (ne_of_none e (h.g L List.mem_cons_self))]
  exact e
theorem NwI.k (h : NwI G0 H0 G H L rs st) (k : Kp (SP0 G0 H0) H J) (s : Grow G0 H0 G J) : NwI G0 H0 G J L rs st :=
  ⟨s, k.k _ _ (fun z => z) h.l, h.o.go (Same.refl _) fun r hr xs e => k.k _ _ (fun z => z) e, h.n, h.h0, h.g⟩
theorem NwI.grow {n : Nat} {G2 H2 : Hp} (h : NwI G0 H0 G H L rs st) (s : Stp (SP0 G0 H0) n G H G2 H2) : NwI G0 H0 G2 H2 L rs st := by
  refine ⟨s.s, s.k.k _ _ (fun z => z) h.l, h.o.go s.g fun r hr xs e => s.k.k _ _ (fun z => z) e, h.n, h.h0, fun r hr => ?_⟩
  cases hz : G2 r with
  | none => rfl
  | some o =>
    rcases s.n r o hz with e | e
    · rw [h.g r hr] at e
      cases e
    · rcases List.mem_cons.mp hr with rfl | hr
      · rw [h.l] at e
        cases e
      · obtain ⟨xs, e'⟩ := h.o.some r hr
        rw [e'] at e
        cases e
theorem NwI.back (hs : Same G0 H0) (h : NwI G0 H0 G H L rs st) {n : Nat} (k : Kp (SP0 G0 H0) H J) (s : (SP0 G0 H0).s n (upd G L (.lst (rs.reverse.map V.ref))) J) : NwI G0 H0 G J L rs st := h.k k ((stab0 G0 H0).anti (n := 0) (m := n) h.sp s h.same)
/-- a list more -/
theorem NwI.push (h : NwI G0 H0 G H L rs st) (k : Kp (SP0 G0 H0) H J) (hr : J r = some (.lst [])) (hr0 : H r = none) (gr : G r = none) (s : Grow G0 H0 G (upd J L (.lst (rs.reverse.map V.ref ++ [.ref r])))) : NwI G0 H0 G (upd J L (.lst (rs.reverse.map V.ref ++ [.ref r]))) L (r :: rs) ([] :: st) := by
  have hl : H L ≠ none := by rw [h.l]; simp
  have rL : r ≠ L := fun e => hl (e ▸ hr0)
  have rr : r ∉ rs := fun hm => by
    obtain ⟨xs, e⟩ := h.o.some r hm
    rw [hr0] at e
    cases e
  have nL : L ∉ rs := (List.nodup_cons.mp h.n).1
  refine ⟨s, ?_, ⟨⟨[], by rw [upd_ne rL]; exact hr, .nil⟩, h.o.go (Same.refl _) fun r' hr' xs e => ?_⟩, ?_, fun r' hm => ?_, fun r' hm => ?_⟩
  · rw [upd_same, List.reverse_cons, List.map_append]
    rfl
  · rw [upd_ne (show r' ≠ L from fun z => nL (z ▸ hr'))]
    exact k.k _ _ (fun z => z) e
  · refine List.nodup_cons.mpr ⟨fun hm => ?_, List.nodup_cons.mpr ⟨rr, (List.nodup_cons.mp h.n).2⟩⟩
    rcases List.mem_cons.mp hm with e | hm
    · exact rL e.symm
    · exact nL hm
  · rcases List.mem_cons.mp hm with rfl | hm
    · exact h.h0 _ List.mem_cons_self
    rcases List.mem_cons.mp hm with rfl | hm
    · cases hz : H0 r' with
      | none => rfl
      | some o =>
        have := h.s.h _ _ hz
        rw [hr0] at this
        cases this
    · exact h.h0 _ (List.mem_cons_of_mem _ hm)
  · rcases List.mem_cons.mp hm with rfl | hm
    · exact h.g _ List.mem_cons_self
    rcases List.mem_cons.mp hm with rfl | hm
    · exact gr
    · exact h.g _ (List.mem_cons_of_mem _ hm)
end
end L2.DS
/-! The words of a label (plain law). -/
namespace L2.DS
open PySem PySem.Spec PyProof.Rows _root_.TL
/-! ### signs -/
def g1S (k : Nat) : List Nat := if k = 40 then [32, 40, 32] else [k]
def g2S (k : Nat) : List Nat := if k = 41 then [32, 41, 32] else [k]
def gS (k : Nat) : List Nat := if k = 40 then [32, 40, 32] else if k = 41 then [32, 41, 32] else [k]
theorem repl_one {c : Nat} {z : List Nat} : ∀ l : List Nat, StrLaws.replL [c] z l = l.flatMap fun k => if k = c then z else [k]
  | [] => StrLaws.replL_nil
  | k :: r => by
    rw [List.flatMap_cons]
    by_cases h : k = c
    · subst h
      rw [StrLaws.replL_hit (by simp) (by simp), if_pos rfl]
      show z ++ StrLaws.replL [k] z r = _
      rw [repl_one r]
    · rw [StrLaws.replL_miss (by simpa using h), if_neg h, repl_one r]
      rfl
theorem gS_is (l : List Nat) : (l.flatMap g1S).flatMap g2S = l.flatMap gS := by
  rw [List.flatMap_assoc]
  congr 1
  funext k
  unfold g1S gS
  by_cases h : k = 40
  · rw [if_pos h, if_pos h]
    decide
  · rw [if_neg h, if_neg h]
    show g2S k ++ [] = _
    rw [List.append_nil]
    rfl
theorem toks_tl (x : Str) : (toks x).map tl = TL.spl [32] 0 [] ((tl x).flatMap gS) := by
  unfold toks
  have a1 : tl (Txt.replace x ("(" : Str) (" ( " : Str)) = (tl x).flatMap g1S := by
    rw [show tl (Txt.replace x ("(" : Str) (" ( " : Str)) = _ from StrLaws.replace_list (by decide +kernel), show ("(" : Str).cps.toList = [40] from by decide +kernel, show (" ( " : Str).cps.toList = [32, 40, 32] from by decide +kernel, repl_one]
    rfl
  have a2 : tl (Txt.replace (Txt.replace x ("(" : Str) (" ( " : Str)) (")" : Str) (" ) " : Str)) = (tl x).flatMap gS := by
    rw [show tl (Txt.replace (Txt.replace x ("(" : Str) (" ( " : Str)) (")" : Str) (" ) " : Str)) = _ from StrLaws.replace_list (by decide +kernel), show (")" : Str).cps.toList = [41] from by decide +kernel, show (" ) " : Str).cps.toList = [32, 41, 32] from by decide +kernel, repl_one]
    show (tl (Txt.replace x ("(" : Str) (" ( " : Str))).flatMap g2S = _
    rw [a1, gS_is]
  have sp : tl (" " : Str) = [32] := by decide +kernel
  rw [split_spl _ _ (by rw [sp]; simp) (by
    have : Builtin.Str.strKind (" " : Str) = 1 := by decide +kernel
    rw [this]
    unfold Builtin.Str.strKind
    split
    · omega
    · split <;> omega), a2, sp]
/-- the words of a text that are not empty -/
def TLw (l : List Nat) : List (List Nat) := (TL.spl [32] 0 [] (l.flatMap gS)).filter (· ≠ [])
def Tk (x : Str) : List Str := (toks x).filter (· ≠ ("" : Str))
theorem tl_nil {x : Str} : x = ("" : Str) ↔ tl x = [] := ⟨fun h => by rw [h]; decide +kernel, fun h => ext_tl (by rw [h]; decide +kernel)⟩
theorem Tk_tl (x : Str) : (Tk x).map tl = TLw (tl x) := by
  unfold Tk TLw
  rw [← toks_tl, List.filter_map]
  congr 1
  apply List.filter_congr
  intro a _
  show decide (a ≠ ("" : Str)) = decide (tl a ≠ [])
  exact decide_eq_decide.mpr (not_congr tl_nil)
theorem spl_app {b : List Nat} : ∀ (a acc : List Nat), TL.spl [32] 0 acc (a ++ 32 :: b) = TL.spl [32] 0 acc a ++ TL.spl [32] 0 [] b
  | [], acc => by
    rw [List.nil_append, spl_hit (by simp [pre]), spl_nil]
    rfl
  | c :: r, acc => by
    by_cases h : c = 32
    · subst h
      rw [List.cons_append, spl_hit (by simp [pre]), spl_hit (by simp [pre])]
      show acc :: TL.spl [32] 0 [] (r ++ 32 :: b) = acc :: TL.spl [32] 0 [] r ++ _
      rw [spl_app r]
      rfl
    · have hp : ∀ q, pre [32] (c :: q) = false := fun q => by simp [pre, h]
      rw [List.cons_append, spl_miss (hp _), spl_miss (hp _), spl_app r]
theorem TLw_sp (a b : List Nat) : TLw (a ++ 32 :: b) = TLw a ++ TLw b := by
  unfold TLw
  rw [List.flatMap_append, List.flatMap_cons, show gS 32 = [32] from by decide]
  show (TL.spl [32] 0 [] (a.flatMap gS ++ 32 :: b.flatMap gS)).filter _ = _
  rw [spl_app, List.filter_append]
theorem TLw_par {c : Nat} (hc : c = 40 ∨ c = 41) (a b : List Nat) : TLw (a ++ c :: b) = TLw a ++ [c] :: TLw b := by
  unfold TLw
  have e : gS c = [32, c, 32] := by rcases hc with rfl | rfl <;> decide
  rw [List.flatMap_append, List.flatMap_cons, e]
  show (TL.spl [32] 0 [] (a.flatMap gS ++ 32 :: ([c] ++ 32 :: b.flatMap gS))).filter _ = _
  rw [spl_app, spl_app, show TL.spl [32] 0 [] [c] = [[c]] from by rcases hc with rfl | rfl <;> decide, List.filter_append]
  rfl
theorem TLw_nil : TLw [] = [] := by decide
/-- no blank, no parenthesis -/
def plW (l : List Nat) : Prop := l ≠ [] ∧ ∀ k ∈ l, k ≠ 32 ∧ k ≠ 40 ∧ k ≠ 41
theorem TLw_word {l : List Nat} (h : plW l) : TLw l = [l] := by
  have e : l.flatMap gS = l := by
    have : ∀ l : List Nat, (∀ k ∈ l, k ≠ 32 ∧ k ≠ 40 ∧ k ≠ 41) → l.flatMap gS = l := fun l => by
      induction l with
      | nil => exact fun _ => rfl
      | cons k r ih =>
        intro h
        have hk := h k List.mem_cons_self
        rw [List.flatMap_cons, ih fun x hx => h x (List.mem_cons_of_mem _ hx)]
        unfold gS
        rw [if_neg hk.2.1, if_neg hk.2.2]
        rfl
    exact this l h.2
  unfold TLw
  rw [e, spl_last1 (s := 32) (S := []) fun m => (h.2 32 m).1 rfl, List.nil_append]
  simp [h.1]
/-! ### texts -/
theorem Tk_sp (a b : Str) : Tk (a ++ (" " : Str) ++ b) = Tk a ++ Tk b := map_tl_inj (by
  rw [List.map_append, Tk_tl, Tk_tl, Tk_tl, tl_append, tl_append, show tl (" " : Str) = [32] from by decide +kernel, List.append_assoc]
  exact TLw_sp _ _)
theorem Tk_lp (a b : Str) : Tk (a ++ ("(" : Str) ++ b) = Tk a ++ ("(" : Str) :: Tk b := map_tl_inj (by
  rw [List.map_append, List.map_cons, Tk_tl, Tk_tl, Tk_tl, tl_append, tl_append, show tl ("(" : Str) = [40] from by decide +kernel, List.append_assoc]
  exact TLw_par (.inl rfl) _ _)
theorem Tk_rp (a b : Str) : Tk (a ++ (")" : Str) ++ b) = Tk a ++ (")" : Str) :: Tk b := map_tl_inj (by
  rw [List.map_append, List.map_cons, Tk_tl, Tk_tl, Tk_tl, tl_append, tl_append, show tl (")" : Str) = [41] from by decide +kernel, List.append_assoc]
  exact TLw_par (.inr rfl) _ _)
theorem Tk_nil : Tk ("" : Str) = [] := map_tl_inj (by
  rw [Tk_tl, show tl ("" : Str) = [] from by decide +kernel]
  exact TLw_nil)
def PlW (s : Str) : Prop := plW (tl s)
theorem Tk_word {s : Str} (h : PlW s) : Tk s = [s] := map_tl_inj (by rw [Tk_tl, TLw_word h]; rfl)
theorem Tk_join : ∀ {ws : List Str}, (∀ s ∈ ws, PlW s) → Tk (Txt.join (" " : Str) ws) = ws
  | [], _ => Tk_nil
  | [a], h => Tk_word (h a List.mem_cons_self)
  | a :: b :: r, h => by
    have e : Txt.join (" " : Str) (a :: b :: r) = a ++ (" " : Str) ++ Txt.join (" " : Str) (b :: r) := by
      show Builtin.Str.glued _ _ = _ ++ _ ++ Builtin.Str.glued _ _
      rw [StrLaws.glued_eq_join, StrLaws.glued_eq_join]
      rfl
    rw [e, Tk_sp, Tk_word (h a List.mem_cons_self), Tk_join fun s hs => h s (List.mem_cons_of_mem _ hs)]
    rfl
theorem Tk_joins : ∀ ws : List Str, Tk (Txt.join (" " : Str) ws) = ws.flatMap Tk
  | [] => Tk_nil
  | [a] => by
    show Tk a = Tk a ++ []
    rw [List.append_nil]
  | a :: b :: r => by
    have e : Txt.join (" " : Str) (a :: b :: r) = a ++ (" " : Str) ++ Txt.join (" " : Str) (b :: r) := by
      show Builtin.Str.glued _ _ = _ ++ _ ++ Builtin.Str.glued _ _
      rw [StrLaws.glued_eq_join, StrLaws.glued_eq_join]
      rfl
    rw [e, Tk_sp, Tk_joins (b :: r)]
    rfl
/-! ### words in lists, written -/
mutual
def tkW : Wd → List Str
  | .w s => [s]
  | .l ws => ("(" : Str) :: (tkWs ws ++ [(")" : Str)])
def tkWs : List Wd → List Str
  | [] => []
  | a :: r => tkW a ++ tkWs r
end
mutual
def dpW : Wd → Nat
  | .w _ => 0
  | .l ws => dpWs ws + 1
def dpWs : List Wd → Nat
  | [] => 0
  | a :: r => max (dpW a) (dpWs r)
end
mutual
def PlWd : Wd → Prop
  | .w s => PlW s
  | .l ws => PlWds ws
def PlWds : List Wd → Prop
  | [] => True
  | a :: r => PlWd a ∧ PlWds r
end
theorem PlW.ne {s : Str} (h : PlW s) : s ≠ ("(" : Str) ∧ s ≠ (")" : Str) ∧ s ≠ ("" : Str) := by
  refine ⟨fun e => ?_, fun e => ?_, fun e => ?_⟩
  · have := h.2 40 (by rw [e]; decide +kernel)
    exact this.2.1 rfl
  · have := h.2 41 (by rw [e]; decide +kernel)
    exact this.2.2 rfl
  · exact h.1 (by rw [e]; decide +kernel)
mutual
theorem run_tkW {D : Nat} {rest : List Str} : ∀ {w : Wd} {a : List Wd} {st : List (List Wd)}, PlWd w → dpW w + st.length + 1 ≤ D → nwRun D (tkW w ++ rest) (a :: st) = nwRun D rest ((a ++ [w]) :: st)
  | .w s, a, st, h, hd => by
    unfold PlWd at h
    unfold dpW at hd
    obtain ⟨h1, h2, h3⟩ := h.ne
    unfold tkW
    show (nwStep D s (a :: st)).bind (nwRun D rest) = _
    unfold nwStep nwOp
    rw [if_neg h1, if_neg h2, if_neg h3]
    show ((if ((a ++ [.w s]) :: st).length ≤ D then some ((a ++ [.w s]) :: st) else none).bind _) = _
    rw [if_pos (by rw [List.length_cons]; omega)]
    rfl
  | .l ws, a, st, h, hd => by
    unfold PlWd at h
    unfold dpW at hd
    unfold tkW
    rw [List.cons_append, List.append_assoc]
    show (nwStep D ("(" : Str) (a :: st)).bind (nwRun D (tkWs ws ++ ([(")" : Str)] ++ rest))) = _
    unfold nwStep nwOp
    rw [if_pos rfl]
    show ((if ([] :: a :: st).length ≤ D then some ([] :: a :: st) else none).bind _) = _
    rw [if_pos (by rw [List.length_cons, List.length_cons]; omega)]
    show nwRun D (tkWs ws ++ ([(")" : Str)] ++ rest)) ([] :: a :: st) = _
    rw [run_tkWs h (by rw [List.length_cons]; omega), List.nil_append]
    show (nwStep D (")" : Str) (ws :: a :: st)).bind (nwRun D rest) = _
    unfold nwStep nwOp
    rw [if_neg (by decide +kernel), if_pos rfl]
    show ((if ((a ++ [.l ws]) :: st).length ≤ D then some ((a ++ [.l ws]) :: st) else none).bind _) = _
    rw [if_pos (by rw [List.length_cons]; omega)]
    rfl
theorem run_tkWs {D : Nat} {rest : List Str} : ∀ {ws : List Wd} {a : List Wd} {st : List (List Wd)}, PlWds ws → dpWs ws + st.length + 1 ≤ D → nwRun D (tkWs ws ++ rest) (a :: st) = nwRun D rest ((a ++ ws) :: st)
  | [], a, st, _, _ => by
    unfold tkWs
    rw [List.nil_append, List.append_nil]
  | w :: r, a, st, h, hd => by
    unfold PlWds at h
    unfold dpWs at hd
    unfold tkWs
    rw [List.append_assoc, run_tkW h.1 (by omega), run_tkWs h.2 (by omega), List.append_assoc]
    rfl
end
theorem nwRun_filter {D : Nat} : ∀ (ts : List Str) (st : List (List Wd)), st.length ≤ D → nwRun D ts st = nwRun D (ts.filter (· ≠ ("" : Str))) st
  | [], _, _ => rfl
  | t :: r, st, h => by
    by_cases e : t = ("" : Str)
    · rw [List.filter_cons_of_neg (by simpa using e)]
      show (nwStep D t st).bind _ = _
      unfold nwStep nwOp
      rw [if_neg (by rw [e]; decide +kernel), if_neg (by rw [e]; decide +kernel), if_pos e]
      show ((if st.length ≤ D then some st else none).bind _) = _
      rw [if_pos h]
      exact nwRun_filter r st h
    · rw [List.filter_cons_of_pos (by simpa using e)]
      show (nwStep D t st).bind _ = (nwStep D t st).bind _
      cases hz : nwStep D t st with
      | none => rfl
      | some s2 =>
        have hl : s2.length ≤ D := by
          unfold nwStep at hz
          cases hy : nwOp t st with
          | none =>
            rw [hy] at hz
            cases hz
          | some s3 =>
            rw [hy] at hz
            replace hz : (if s3.length ≤ D then some s3 else none) = some s2 := hz
            split at hz
            · rw [← Option.some.inj hz]
              assumption
            · cases hz
        exact nwRun_filter r s2 hl
theorem nw_of {D : Nat} {x : Str} {ws : List Wd} (h : Tk x = tkWs ws) (p : PlWds ws) (hd : dpWs ws + 1 ≤ D) : nw D (toks x) = some ws := by
  unfold nw
  rw [nwRun_filter _ _ (by simp; omega)]
  show (nwRun D (Tk x) [[]]).bind _ = _
  rw [h, ← List.append_nil (tkWs ws), run_tkWs p (by simpa using hd)]
  rfl
theorem tkWs_map (l : List Str) : tkWs (l.map Wd.w) = l := by
  induction l with
  | nil => unfold tkWs; rfl
  | cons a r ih =>
    rw [List.map_cons]
    unfold tkWs tkW
    rw [ih]
    rfl
theorem PlWds_map {l : List Str} (h : ∀ s ∈ l, PlW s) : PlWds (l.map Wd.w) := by
  induction l with
  | nil => unfold PlWds; trivial
  | cons a r ih =>
    rw [List.map_cons]
    unfold PlWds PlWd
    exact ⟨h a List.mem_cons_self, ih fun s hs => h s (List.mem_cons_of_mem _ hs)⟩
theorem dpWs_map (l : List Str) : dpWs (l.map Wd.w) = 0 := by
  induction l with
  | nil => unfold dpWs; rfl
  | cons a r ih =>
    rw [List.map_cons]
    unfold dpWs dpW
    rw [ih]
    rfl
/-! ### the label of a table -/
def wdTb (names : List Str) (never still : Str) (joins products : List (List Str)) : Wd := .l [.w ("table" : Str), .l (names.map Wd.w), .w never, .w still, .l (joins.flatten.map Wd.w), .l (products.flatten.map Wd.w)]
theorem Tk_joinR {rows : List (List Str)} (h : ∀ r ∈ rows, ∀ s ∈ r, PlW s) : Tk (joinR rows) = rows.flatten := by
  unfold joinR
  rw [Tk_joins, List.flatMap_map]
  induction rows with
  | nil => rfl
  | cons a r ih =>
    rw [List.flatMap_cons, List.flatten_cons, ih fun x hx => h x (List.mem_cons_of_mem _ hx), Tk_join (h a List.mem_cons_self)]
theorem Tk_tbLab {names : List Str} {never still : Str} {joins products : List (List Str)} (hn : ∀ s ∈ names, PlW s) (h1 : PlW never) (h2 : PlW still) (hj : ∀ r ∈ joins, ∀ s ∈ r, PlW s) (hp : ∀ r ∈ products, ∀ s ∈ r, PlW s) : Tk (tbLab names never still joins products) = tkWs [wdTb names never still joins products] := map_tl_inj (by
  have eN : TLw (tl (Txt.join (" " : Str) names)) = names.map tl := by rw [← Tk_tl, Tk_join hn]
  have eJ : TLw (tl (joinR joins)) = joins.flatten.map tl := by rw [← Tk_tl, Tk_joinR hj]
  have eP : TLw (tl (joinR products)) = products.flatten.map tl := by rw [← Tk_tl, Tk_joinR hp]
  have e1 : TLw (tl never) = [tl never] := TLw_word h1
  have e2 : TLw (tl still) = [tl still] := TLw_word h2
  have e3 : TLw [116, 97, 98, 108, 101] = [[116, 97, 98, 108, 101]] := TLw_word (by constructor <;> decide)
  have lit : tl ("(table (" : Str) = [40, 116, 97, 98, 108, 101, 32, 40] ∧ tl (") " : Str) = [41, 32] ∧ tl (" " : Str) = [32] ∧ tl (" (" : Str) = [32, 40] ∧ tl (") (" : Str) = [41, 32, 40] ∧ tl ("))" : Str) = [41, 41] ∧ tl ("(" : Str) = [40] ∧ tl (")" : Str) = [41] ∧ tl ("table" : Str) = [116, 97, 98, 108, 101] := by decide +kernel
  obtain ⟨l1, l2, l3, l4, l5, l6, l7, l8, l9⟩ := lit
  rw [Tk_tl]
  unfold tbLab
  simp only [tl_append, l1, l2, l3, l4, l5, l6, List.append_assoc, List.cons_append, List.nil_append]
  show TLw ([] ++ 40 :: ([116, 97, 98, 108, 101] ++ 32 :: ([] ++ 40 :: (tl (Txt.join (" " : Str) names) ++ 41 :: ([] ++ 32 :: (tl never ++ 32 :: (tl still ++ 32 :: ([] ++ 40 :: (tl (joinR joins) ++ 41 :: ([] ++ 32 :: ([] ++ 40 :: (tl (joinR products) ++ 41 :: ([] ++ 41 :: []))))))))))))) = _
  rw [TLw_par (.inl rfl), TLw_sp, TLw_par (.inl rfl), TLw_par (.inr rfl), TLw_sp, TLw_sp, TLw_sp, TLw_par (.inl rfl), TLw_par (.inr rfl), TLw_sp, TLw_par (.inl rfl), TLw_par (.inr rfl), TLw_par (.inr rfl), TLw_nil, eN, eJ, eP, e1, e2, e3]
  unfold wdTb
  simp only [tkWs, tkW, tkWs_map, List.map_append, List.map_cons, List.map_nil, List.append_nil, List.nil_append, List.cons_append, List.append_assoc, l7, l8, l9])
end L2.DS
/-! Rows cut from a list; tables read. -/
namespace L2.DS
open PySem PySem.Spec PyProof.Rows
theorem sgn_no : sgn 32 = false ∧ sgn 40 = false ∧ sgn 41 = false := by decide +kernel
theorem okNm_pl {nm : Str} (h : okNm nm = true) : PlW nm := by
  obtain ⟨h1, h2⟩ := okNm_len h
  unfold okNm at h
  rw [Bool.and_eq_true] at h
  have ha := List.all_eq_true.mp h.2
  refine ⟨fun e => ?_, fun k hk => ?_⟩
  · have : nm.length = 0 := by rw [_root_.TL.len_tl, e]; rfl
    omega
  · have := ha (sgn k) (List.mem_map_of_mem hk)
    refine ⟨fun e => ?_, fun e => ?_, fun e => ?_⟩
    · rw [e, sgn_no.1] at this
      cases this
    · rw [e, sgn_no.2.1] at this
      cases this
    · rw [e, sgn_no.2.2] at this
      cases this
def IsTabS (rows : List (List Str)) : HR := fun v G' => ∃ q, v = .ref q ∧ TabS G' q rows
instance (rows) : Mon (IsTabS rows) := ⟨fun s ⟨q, e, h⟩ => ⟨q, e, h.mono s⟩⟩
/-! ### promises -/
/-- the words of a table -/
def wdT (names : List Str) (nv sl : Nat) (th jn : Nat → Nat → Int) : List Wd := [.l (names.map Wd.w), .w (names.getD nv ("" : Str)), .w (names.getD sl ("" : Str)), .l ((rowsS names jn).flatten.map Wd.w), .l ((rowsS names th).flatten.map Wd.w)]
def IsWd (a : Wd) : HR := fun v G => WdAt a v G
instance (a) : Mon (IsWd a) := ⟨fun s h => WdAt.mono h s⟩
end L2.DS
/-! A def that a try watches. -/
namespace L2.DS
open PySem PySem.Spec PyProof.Rows
/-! ### two lists that grow and a list of two numbers, all newly made -/
structure Mu (S : SR) (n : Nat) (H0 G J : Hp) (D : Addr) (Fs : Nat → Addr) (d : Nat → Nat) (l : Nat → List Bool) : Prop where
  s : S n G J
  d : J D = some (.lst [.int (d 0 : Nat), .int (d 1 : Nat)])
  f : ∀ i, i < 2 → J (Fs i) = some (.lst ((l i).map V.bl))
  nd : ∀ i, i < 2 → D ≠ Fs i
  nf : Fs 0 ≠ Fs 1
  hD : H0 D = none
  hF : ∀ i, i < 2 → H0 (Fs i) = none
  gD : G D = none
  gF : ∀ i, i < 2 → G (Fs i) = none
section
variable {S : SR} {n m n0 : Nat} {G0 H0 G J G' J' : Hp} {D : Addr} {Fs : Nat → Addr} {d : Nat → Nat} {l : Nat → List Bool}
theorem Mu.k (h : Mu S n H0 G J D Fs d l) (st : Stab S) (s0 : S n0 G0 H0) (k : Kp S J J') (s : S m G J') : Mu S m H0 G J' D Fs d l :=
  ⟨s, k.k _ _ (st.fre s0 h.hD) h.d, fun i hi => k.k _ _ (st.fre s0 (h.hF i hi)) (h.f i hi), h.nd, h.nf, h.hD, h.hF, h.gD, h.gF⟩
theorem Mu.grow (h : Mu S n H0 G J D Fs d l) (st : Stab S) (s0 : S n0 G0 H0) (s : Stp S m G J G' J') : Mu S m H0 G' J' D Fs d l := by
  have gn : ∀ {b : Addr} {o : HO}, G b = none → J b = some o → G' b = none := fun {b o} g j => by
    cases hz : G' b with
    | none => rfl
    | some o' =>
      rcases s.n b o' hz with e | e
      · rw [g] at e
        cases e
      · rw [j] at e
        cases e
  exact ⟨s.s, s.k.k _ _ (st.fre s0 h.hD) h.d, fun i hi => s.k.k _ _ (st.fre s0 (h.hF i hi)) (h.f i hi), h.nd, h.nf, h.hD, h.hF, gn h.gD h.d, fun i hi => gn (h.gF i hi) (h.f i hi)⟩
theorem Mu.ne (h : Mu S n H0 G J D Fs d l) {i j : Nat} (hi : i < 2) (hj : j < 2) (e : i ≠ j) : Fs i ≠ Fs j := by
  have : (i = 0 ∧ j = 1) ∨ (i = 1 ∧ j = 0) := by omega
  rcases this with ⟨rfl, rfl⟩ | ⟨rfl, rfl⟩
  · exact h.nf
  · exact h.nf.symm
theorem Mu.set (h : Mu S n H0 G J D Fs d l) {i v : Nat} (hi : i < 2) (s : S m G (upd J D (.lst ([V.int (d 0 : Nat), .int (d 1 : Nat)].set i (.int (v : Nat)))))) : Mu S m H0 G (upd J D (.lst ([V.int (d 0 : Nat), .int (d 1 : Nat)].set i (.int (v : Nat))))) D Fs (fun j => if j = i then v else d j) l := by
  refine ⟨s, ?_, fun j hj => ?_, h.nd, h.nf, h.hD, h.hF, h.gD, h.gF⟩
  · rw [upd_same]
    have : i = 0 ∨ i = 1 := by omega
    rcases this with rfl | rfl <;> rfl
  · rw [upd_ne (h.nd j hj).symm]
    exact h.f j hj
theorem Mu.pub (h : Mu S n H0 G J D Fs d l) (st : Stab S) (s0 : S n0 G0 H0) : S n (upd G D (.lst [.int (d 0 : Nat), .int (d 1 : Nat)])) J := st.pub s0 h.hD h.s h.gD h.d
theorem Mu.same (h : Mu S n H0 G J D Fs d l) {o : HO} : Same G (upd G D o) := fun b o e => by
  rw [upd_ne (ne_of_none e h.gD)]
  exact e
end
theorem Mu.congr {S : SR} {n : Nat} {H0 G J : Hp} {D : Addr} {Fs : Nat → Addr} {d d' : Nat → Nat} {l l' : Nat → List Bool} (h : Mu S n H0 G J D Fs d l) (e : ∀ i, i < 2 → d' i = d i) (e' : ∀ i, i < 2 → l' i = l i) : Mu S n H0 G J D Fs d' l' :=
  ⟨h.s, by rw [e 0 (by decide), e 1 (by decide)]; exact h.d, fun i hi => by rw [e' i hi]; exact h.f i hi, h.nd, h.nf, h.hD, h.hF, h.gD, h.gF⟩
/-! ### what before and behind of a table look for (plain law) -/
end L2.DS
/-! Worths of scales that are told by a property; labels told apart; the lists of a turn published. -/
namespace L2.DS
open PySem PySem.Spec PyProof.Rows
section
variable {S : SR} {n m n0 : Nat} {G0 H0 G J G' J' : Hp} {D : Addr} {Fs : Nat → Addr} {d : Nat → Nat} {l : Nat → List Bool}
theorem Mu.all (h : Mu S n H0 G J D Fs d l) (st : Stab S) (s0 : S n0 G0 H0) : ∃ G', Same G G' ∧ S n G' J ∧ G' D = some (.lst [.int (d 0 : Nat), .int (d 1 : Nat)]) ∧ ∀ i, i < 2 → G' (Fs i) = some (.lst ((l i).map V.bl)) := by
  have a := h.pub st s0
  have n0 := h.nd 0 (by decide)
  have n1 := h.nd 1 (by decide)
  have g0 : upd G D (.lst [.int (d 0 : Nat), .int (d 1 : Nat)]) (Fs 0) = none := by rw [upd_ne n0.symm]; exact h.gF 0 (by decide)
  have b := st.pub s0 (h.hF 0 (by decide)) a g0 (h.f 0 (by decide))
  have g1 : upd (upd G D (.lst [.int (d 0 : Nat), .int (d 1 : Nat)])) (Fs 0) (.lst ((l 0).map V.bl)) (Fs 1) = none := by rw [upd_ne h.nf.symm, upd_ne n1.symm]; exact h.gF 1 (by decide)
  have c := st.pub s0 (h.hF 1 (by decide)) b g1 (h.f 1 (by decide))
  refine ⟨_, fun x o e => ?_, c, ?_, fun i hi => ?_⟩
  · rw [upd_ne (ne_of_none e (h.gF 1 (by decide))), upd_ne (ne_of_none e (h.gF 0 (by decide))), upd_ne (ne_of_none e h.gD)]
    exact e
  · rw [upd_ne n1, upd_ne n0, upd_same]
  · rcases (show i = 0 ∨ i = 1 by omega) with rfl | rfl
    · rw [upd_ne h.nf, upd_same]
    · rw [upd_same]
end
/-! labels told apart by their beginnings -/
theorem str_assoc (a b c : Str) : a ++ b ++ c = a ++ (b ++ c) := str_inj (by rw [cps_app, cps_app, cps_app, cps_app, List.append_assoc])
end L2.DS
/-! Operators of own classes that a try watches; ==, str of own classes; classmethods that raise. -/
/-! Two tables newly made, one of them changed. -/
namespace L2.DS
open PySem PySem.Spec PyProof.Rows
/-- two tables newly made, the second one behind the first -/
def TwoN (G : Hp) (n : Nat) (fj ft : Nat → Nat → Int) : HRs := fun vs G2 => ∃ (p q : Addr) (ys zs : List V) (G1 : Hp), vs = [.ref p, .ref q] ∧ Same G G1 ∧ Same G1 G2 ∧ G p = none ∧ G1 p = some (.lst ys) ∧ RL (fun a => IsIRn G n (fj a)) (List.range n) ys G1 ∧ ys.Nodup ∧
  G1 q = none ∧ G2 q = some (.lst zs) ∧ RL (fun a => IsIRn G1 n (ft a)) (List.range n) zs G2 ∧ zs.Nodup
instance (G n fj ft) : Mons (TwoN G n fj ft) := ⟨fun s ⟨p, q, ys, zs, G1, e, a, b, c, d, f, g, h, i, j, k⟩ => ⟨p, q, ys, zs, G1, e, a, b.trans s, c, d, f, g, h, s _ _ i, rl_mon s j, k⟩⟩
theorem rl_row {F G : Hp} {n : Nat} {f : Nat → Nat → Int} : ∀ {l : List Nat} {vs : List V}, RL (fun a => IsIRn F n (f a)) l vs G → RL (fun a => IsIRow n (f a)) l vs G
  | [], _, h => h
  | _ :: _, _, ⟨v, w, e, ⟨q, e2, _, g⟩, r⟩ => ⟨v, w, e, ⟨q, e2, g⟩, rl_row r⟩
end L2.DS
/-! Labels of scales of any family, read (plain law). -/
namespace L2.DS
open PySem PySem.Spec PyProof.Rows _root_.TL
def dig (c : Nat) : Bool := !(Builtin.Str.occurrences ("0123456789" : Str) ⟨#[c]⟩ 0 ("0123456789" : Str).length 1).isEmpty
/-- the words of small numbers -/
theorem num_ok : ∀ m : Nat, m < 64 → PySem.intText? (toString ((m : Nat) : Int) : Str) = some ((m : Nat) : Int) ∧ 1 ≤ (toString ((m : Nat) : Int) : Str).length ∧ (toString ((m : Nat) : Int) : Str).length ≤ 60 ∧ (∀ c ∈ (toString ((m : Nat) : Int) : Str).cps.toList, dig c = true) := by decide +kernel
theorem num_pl : ∀ m : Nat, m < 64 → tl (toString ((m : Nat) : Int) : Str) ≠ [] ∧ ∀ k ∈ tl (toString ((m : Nat) : Int) : Str), k ≠ 32 ∧ k ≠ 40 ∧ k ≠ 41 := by decide +kernel
theorem heads_pl : ∀ s ∈ (["count", "span", "set", "watch", "pair", "turned", "heap", "table", "up", "down", "may", "must"] : List Str), tl s ≠ [] ∧ ∀ k ∈ tl s, k ≠ 32 ∧ k ≠ 40 ∧ k ≠ 41 := by decide +kernel
theorem ordS_pl (up : Bool) : PlW (ordS up) := by cases up <;> exact heads_pl _ (by decide)
theorem joinS_pl (may : Bool) : PlW (joinS may) := by cases may <;> exact heads_pl _ (by decide)
theorem app_nil (a : Str) : a ++ ("" : Str) = a := str_inj (by rw [cps_app, show ("" : Str).cps.toList = [] from by decide +kernel, List.append_nil])
theorem nil_app (a : Str) : ("" : Str) ++ a = a := str_inj (by rw [cps_app, show ("" : Str).cps.toList = [] from by decide +kernel, List.nil_append])
/-- (h b) -/
theorem Tk_frm {h : Str} (b : Str) (hw : PlW h) : Tk (("(" : Str) ++ h ++ (" " : Str) ++ b ++ (")" : Str)) = ("(" : Str) :: h :: (Tk b ++ [(")" : Str)]) := by
  have e1 := Tk_rp (("(" : Str) ++ h ++ (" " : Str) ++ b) ("" : Str)
  rw [app_nil, Tk_nil] at e1
  have e2 := Tk_lp ("" : Str) h
  rw [nil_app, Tk_nil, Tk_word hw] at e2
  rw [e1, Tk_sp, e2]
  rfl
inductive Rdb : Nat → SD → Wd → Prop
  | tab {n : Nat} {names : List Str} {nv sl : Nat} {th jn : Nat → Nat → Int} (T : TbIs names nv sl th jn) : Rdb n (tabSD names nv sl th jn) (.l (.w ("table" : Str) :: wdT names nv sl th jn))
  | cnt {n m : Nat} {up : Bool} (h : m < 63) : Rdb n (cntSD m up) (.l [.w ("count" : Str), .w (toString ((m : Nat) : Int) : Str), .w (ordS up)])
  | span {n m : Nat} (h : m < 10) : Rdb n (spanSD m) (.l [.w ("span" : Str), .w (toString ((m : Nat) : Int) : Str)])
  | set {n c : Nat} {may : Bool} (h0 : 1 ≤ c) (h : c < 6) : Rdb n (stSD c may) (.l [.w ("set" : Str), .w (toString ((c : Nat) : Int) : Str), .w (joinS may)])
  | watch {n s : Nat} (h0 : 1 ≤ s) (h : s < 3) : Rdb n (wtSD s) (.l [.w ("watch" : Str), .w (toString ((s : Nat) : Int) : Str)])
  | turn {n : Nat} {d : SD} {w : Wd} (h : Rdb n d w) (o : SdOk d) (hd : depL [d] ≤ 10) : Rdb (n + 1) (turnSD d) (.l [.w ("turned" : Str), w])
  | heap {n : Nat} {d : SD} {w : Wd} (h : Rdb n d w) (o : SdOk d) (l6 : d.names.length ≤ 6) (hd : depL [d] ≤ 10) (nd : (heapNames d.names).Nodup) : Rdb (n + 1) (heapSD d) (.l [.w ("heap" : Str), w])
  | pair {n : Nat} {d1 d2 : SD} {w1 w2 : Wd} (h1 : Rdb n d1 w1) (h2 : Rdb n d2 w2) (o1 : SdOk d1) (o2 : SdOk d2) (l64 : d1.names.length * d2.names.length ≤ 64) (hd : depL [d1, d2] ≤ 10) (nd : (pairNames d1 d2).Nodup) : Rdb (n + 1) (pairSD d1 d2) (.l [.w ("pair" : Str), w1, w2])
theorem Rdb.up {n : Nat} {d : SD} {w : Wd} (h : Rdb n d w) : Rdb (n + 1) d w := by
  induction h with
  | tab T => exact .tab T
  | cnt h => exact .cnt h
  | span h => exact .span h
  | set h0 h => exact .set h0 h
  | watch h0 h => exact .watch h0 h
  | turn h o hd ih => exact .turn ih o hd
  | heap h o l6 hd nd ih => exact .heap ih o l6 hd nd
  | pair h1 h2 o1 o2 l64 hd nd ih1 ih2 => exact .pair ih1 ih2 o1 o2 l64 hd nd
theorem tb_pl {names : List Str} {nv sl : Nat} {th jn : Nat → Nat → Int} (T : TbIs names nv sl th jn) : Tk (tabSD names nv sl th jn).label = tkW (.l (.w ("table" : Str) :: wdT names nv sl th jn)) ∧ PlWd (.l (.w ("table" : Str) :: wdT names nv sl th jn)) := by
  have tb := T.tb
  have hn : ∀ s ∈ names, PlW s := fun s h => okNm_pl (T.ok s h)
  have fl : ∀ {rows : List (List Str)}, (∀ r ∈ rows, ∀ s ∈ r, PlW s) → ∀ s ∈ rows.flatten, PlW s := fun h s hs => by
    obtain ⟨r, hr, hs⟩ := List.mem_flatten.mp hs
    exact h r hr s hs
  have hj : ∀ r ∈ rowsS names jn, ∀ s ∈ r, PlW s := fun r hr s hs => hn s ((tb.jr r hr).2 s hs)
  have hp : ∀ r ∈ rowsS names th, ∀ s ∈ r, PlW s := fun r hr s hs => hn s ((tb.pr r hr).2 s hs)
  refine ⟨?_, ?_⟩
  · have e := Tk_tbLab hn (hn _ tb.nv) (hn _ tb.sl) hj hp
    show Tk (tbLab _ _ _ _ _) = _
    rw [e]
    unfold wdTb wdT
    simp only [tkWs, List.append_nil]
  · unfold wdT
    simp only [PlWds, PlWd]
    exact ⟨heads_pl _ (by decide), PlWds_map hn, hn _ tb.nv, hn _ tb.sl, PlWds_map (fl hj), PlWds_map (fl hp), trivial⟩
/-- what a label's words are -/
theorem Rdb.tok {n : Nat} {d : SD} {w : Wd} (h : Rdb n d w) : Tk d.label = tkW w ∧ PlWd w ∧ dpW w ≤ n + 2 := by
  induction h with
  | tab T =>
    refine ⟨(tb_pl T).1, (tb_pl T).2, ?_⟩
    unfold wdT
    simp only [dpW, dpWs, dpWs_map]
    omega
  | @cnt n m up h =>
    have pm : PlW (toString ((m : Nat) : Int) : Str) := num_pl m (by omega)
    have e : (cntSD m up).label = ("(" : Str) ++ ("count" : Str) ++ (" " : Str) ++ ((toString ((m : Nat) : Int) : Str) ++ (" " : Str) ++ ordS up) ++ (")" : Str) := by
      show clabel _ _ = _
      unfold clabel
      rw [show ("(count " : Str) = ("(" : Str) ++ ("count" : Str) ++ (" " : Str) from by decide +kernel]
      simp only [str_assoc]
    refine ⟨?_, ?_, ?_⟩
    · rw [e, Tk_frm _ (heads_pl _ (by decide)), Tk_sp, Tk_word pm, Tk_word (ordS_pl up)]
      rfl
    · simp only [PlWd, PlWds]
      exact ⟨heads_pl _ (by decide), pm, ordS_pl up, trivial⟩
    · simp only [dpW, dpWs]
      omega
  | @span n m h =>
    have pm : PlW (toString ((m : Nat) : Int) : Str) := num_pl m (by omega)
    have e : (spanSD m).label = ("(" : Str) ++ ("span" : Str) ++ (" " : Str) ++ (toString ((m : Nat) : Int) : Str) ++ (")" : Str) := by
      show slabel _ = _
      unfold slabel
      rw [show ("(span " : Str) = ("(" : Str) ++ ("span" : Str) ++ (" " : Str) from by decide +kernel]
    refine ⟨?_, ?_, ?_⟩
    · rw [e, Tk_frm _ (heads_pl _ (by decide)), Tk_word pm]
      rfl
    · simp only [PlWd, PlWds]
      exact ⟨heads_pl _ (by decide), pm, trivial⟩
    · simp only [dpW, dpWs]
      omega
  | @set n c may h0 h =>
    have pm : PlW (toString ((c : Nat) : Int) : Str) := num_pl c (by omega)
    have e : (stSD c may).label = ("(" : Str) ++ ("set" : Str) ++ (" " : Str) ++ ((toString ((c : Nat) : Int) : Str) ++ (" " : Str) ++ joinS may) ++ (")" : Str) := by
      show tlabel _ _ = _
      unfold tlabel
      rw [show ("(set " : Str) = ("(" : Str) ++ ("set" : Str) ++ (" " : Str) from by decide +kernel]
      simp only [str_assoc]
    refine ⟨?_, ?_, ?_⟩
    · rw [e, Tk_frm _ (heads_pl _ (by decide)), Tk_sp, Tk_word pm, Tk_word (joinS_pl may)]
      rfl
    · simp only [PlWd, PlWds]
      exact ⟨heads_pl _ (by decide), pm, joinS_pl may, trivial⟩
    · simp only [dpW, dpWs]
      omega
  | @watch n s h0 h =>
    have pm : PlW (toString ((s : Nat) : Int) : Str) := num_pl s (by omega)
    have e : (wtSD s).label = ("(" : Str) ++ ("watch" : Str) ++ (" " : Str) ++ (toString ((s : Nat) : Int) : Str) ++ (")" : Str) := by
      show wlabel _ = _
      unfold wlabel
      rw [show ("(watch " : Str) = ("(" : Str) ++ ("watch" : Str) ++ (" " : Str) from by decide +kernel]
    refine ⟨?_, ?_, ?_⟩
    · rw [e, Tk_frm _ (heads_pl _ (by decide)), Tk_word pm]
      rfl
    · simp only [PlWd, PlWds]
      exact ⟨heads_pl _ (by decide), pm, trivial⟩
    · simp only [dpW, dpWs]
      omega
  | @turn n d w h o hd ih =>
    have e : (turnSD d).label = ("(" : Str) ++ ("turned" : Str) ++ (" " : Str) ++ d.label ++ (")" : Str) := by
      show ("(turned " : Str) ++ d.label ++ (")" : Str) = _
      rw [show ("(turned " : Str) = ("(" : Str) ++ ("turned" : Str) ++ (" " : Str) from by decide +kernel]
    refine ⟨?_, ?_, ?_⟩
    · rw [e, Tk_frm _ (heads_pl _ (by decide)), ih.1]
      simp only [tkW, tkWs, List.append_nil, List.cons_append, List.nil_append]
    · simp only [PlWd, PlWds]
      exact ⟨heads_pl _ (by decide), ih.2.1, trivial⟩
    · simp only [dpW, dpWs]
      have := ih.2.2
      omega
  | @heap n d w h o l6 hd nd ih =>
    have e : (heapSD d).label = ("(" : Str) ++ ("heap" : Str) ++ (" " : Str) ++ d.label ++ (")" : Str) := by
      show ("(heap " : Str) ++ d.label ++ (")" : Str) = _
      rw [show ("(heap " : Str) = ("(" : Str) ++ ("heap" : Str) ++ (" " : Str) from by decide +kernel]
    refine ⟨?_, ?_, ?_⟩
    · rw [e, Tk_frm _ (heads_pl _ (by decide)), ih.1]
      simp only [tkW, tkWs, List.append_nil, List.cons_append, List.nil_append]
    · simp only [PlWd, PlWds]
      exact ⟨heads_pl _ (by decide), ih.2.1, trivial⟩
    · simp only [dpW, dpWs]
      have := ih.2.2
      omega
  | @pair n d1 d2 w1 w2 h1 h2 o1 o2 l64 hd nd ih1 ih2 =>
    have e : (pairSD d1 d2).label = ("(" : Str) ++ ("pair" : Str) ++ (" " : Str) ++ (d1.label ++ (" " : Str) ++ d2.label) ++ (")" : Str) := by
      show ("(pair " : Str) ++ d1.label ++ (" " : Str) ++ d2.label ++ (")" : Str) = _
      rw [show ("(pair " : Str) = ("(" : Str) ++ ("pair" : Str) ++ (" " : Str) from by decide +kernel]
      simp only [str_assoc]
    refine ⟨?_, ?_, ?_⟩
    · rw [e, Tk_frm _ (heads_pl _ (by decide)), Tk_sp, ih1.1, ih2.1]
      simp only [tkW, tkWs, List.append_nil, List.cons_append, List.nil_append, List.append_assoc]
    · simp only [PlWd, PlWds]
      exact ⟨heads_pl _ (by decide), ih1.2.1, ih2.2.1, trivial⟩
    · simp only [dpW, dpWs]
      have a := ih1.2.2
      have b := ih2.2.2
      omega
theorem Rdb.nw {n : Nat} {d : SD} {w : Wd} (h : Rdb n d w) (hn : n ≤ 9) : nw 12 (toks d.label) = some [w] := by
  obtain ⟨a, b, c⟩ := h.tok
  refine nw_of (ws := [w]) ?_ ?_ ?_
  · rw [a]
    simp only [tkWs, List.append_nil]
  · simp only [PlWds]
    exact ⟨b, trivial⟩
  · simp only [dpWs]
    omega
/-! promises -/
end L2.DS
/-! Lists of texts and tuples of numbers compared; comprehensions over tuples; maps of worths. -/
namespace L2.DS
open PySem PySem.Spec PyProof.Rows
section
variable {S : SR} {n k : Nat} {te el : TE} {σ : L2.St} {G : Hp} {K : PySem.W.Frag} {p q i : Addr} {xs : List V} {vs : List Nat}
/-- tuple(l), l newly made -/
theorem ev_tupN2 (st : Stab S) {F : Hp} {xs : List V} (h : Ev S n k te σ G (IsNew F (.lst xs))) : Ev S n k (tCB (rTupQ K) (tCons te tNil)) σ G (fun v G' => ∃ p, v = .ref p ∧ G' p = some (.tup xs)) := fun G1 H1 s0 s Q q =>
  h G1 H1 s0 s _ fun v G2 H2 s2 ⟨p, e, f, g⟩ => ⟨p, xs, by rw [e], .inl ⟨SqL.of (st.sub s2.s _ _ g), fun l hl => by
    have t := st.new (o := .tup xs) s2.s hl
    exact q (.ref l) _ _ (s2.trans t) ⟨l, rfl, upd_same⟩⟩⟩
end
/-! ### maps -/
def mpF : List Str := ["source", "target", "image_places"]
/-- a map of worths from d to e, im the places of the images -/
def MpAt (K : PySem.W.Frag) (Cs : List Addr) (CM : Addr) (d e : SD) (im : List Nat) (m : Addr) (G : Hp) : Prop := ∃ dx fs x y p, G m = some (.ins CM dx fs) ∧ fs.lookup ("source" : Str) = some (.ref x) ∧ fs.lookup ("target" : Str) = some (.ref y) ∧ fs.lookup ("image_places" : Str) = some (.ref p) ∧
  ScD K Cs d x G ∧ ScD K Cs e y G ∧ G p = some (.tup (nVs im)) ∧ im.length = d.names.length ∧ (∀ i ∈ im, i < e.names.length) ∧ ∀ f, f ∉ mpF → fs.lookup f = none
theorem MpAt.mono {K : PySem.W.Frag} {Cs : List Addr} {CM : Addr} {d e : SD} {im : List Nat} {m : Addr} {G G' : Hp} (h : MpAt K Cs CM d e im m G) (s : Same G G') : MpAt K Cs CM d e im m G' := by
  obtain ⟨dx, fs, x, y, p, a, b, c, f, g, h, i, j, k, l⟩ := h
  exact ⟨dx, fs, x, y, p, s _ _ a, b, c, f, g.mono s, h.mono s, s _ _ i, j, k, l⟩
def IsMp (K : PySem.W.Frag) (Cs : List Addr) (CM : Addr) (d e : SD) (im : List Nat) : HR := fun v G => ∃ m, v = .ref m ∧ MpAt K Cs CM d e im m G
instance (K Cs CM d e im) : Mon (IsMp K Cs CM d e im) := ⟨fun s ⟨w, e, h⟩ => ⟨w, e, h.mono s⟩⟩
/-- the names of images -/
def imN (e : SD) (im : List Nat) : List Str := im.map fun i => e.names.getD i ("" : Str)
section
variable {S : SR} {n k : Nat} {te : TE} {σ : L2.St} {G : Hp} {K : PySem.W.Frag} {Cs : List Addr} {CM m : Addr} {d e : SD} {im : List Nat}
theorem MpAt.at (h : MpAt K Cs CM d e im m G) : ∃ dx fs, G m = some (.ins CM dx fs) := by
  obtain ⟨dx, fs, x, y, p, a, _⟩ := h
  exact ⟨dx, fs, a⟩
end
end L2.DS
/-! Small scales of all sorts, that a law makes. -/
namespace L2.DS
open PySem PySem.Spec PyProof.Rows
/-! ### six relations on two states -/
/-! ### one worth alone -/
/-! ### in the opposite order -/
/-- a small scale that is read back from its label -/
structure Smk (d : SD) : Prop where
  o : SdOk d
  r : ∃ w, Rdb 2 d w
  ll : d.label.length ≤ 20000
  n6 : d.names.length ≤ 6
  so : ∀ nm ∈ d.names, PyData.strOk nm = true
/-! promises -/
end L2.DS
/-! Maps that a law makes of drawn names. -/
namespace L2.DS
open PySem PySem.Spec PyProof.Rows
/-- a name -/
def IsNm (d : SD) : HR := fun v _ => ∃ i, i < d.names.length ∧ v = .str (d.names.getD i ("" : Str))
instance (d) : Mon (IsNm d) := ⟨fun _ h => h⟩
/-- a map and its list of names, in a list -/
def IsMN (K : PySem.W.Frag) (Cs : List Addr) (CM : Addr) (d e : SD) (im : List Nat) : HR := fun v G => ∃ p m pn, v = .ref p ∧ G p = some (.lst [.ref m, .ref pn]) ∧ MpAt K Cs CM d e im m G ∧ G pn = some (.lst ((imN e im).map V.str))
instance (K Cs CM d e im) : Mon (IsMN K Cs CM d e im) := ⟨fun s ⟨p, m, pn, a, b, c, g⟩ => ⟨p, m, pn, a, s _ _ b, c.mono s, s _ _ g⟩⟩
def IsMNs (K : PySem.W.Frag) (Cs : List Addr) (CM : Addr) (d e : SD) : HR := fun v G => ∃ im, IsMN K Cs CM d e im v G
instance (K Cs CM d e) : Mon (IsMNs K Cs CM d e) := ⟨fun s ⟨im, a⟩ => ⟨im, Mon.mon s a⟩⟩
end L2.DS
/-! A label tells the names. -/
namespace L2.DS
open PySem PySem.Spec PyProof.Rows
def hdW : Wd → Str
  | .l (.w s :: _) => s
  | _ => ""
def tlW : Wd → List Wd
  | .l (_ :: r) => r
  | _ => []
def wS : Wd → Str
  | .w s => s
  | _ => ""
def wL : Wd → List Wd
  | .l ws => ws
  | _ => []
theorem num_inj {m k : Nat} (hm : m < 64) (hk : k < 64) (h : (toString ((m : Nat) : Int) : Str) = (toString ((k : Nat) : Int) : Str)) : m = k := by
  have a := (num_ok m hm).1
  rw [h, (num_ok k hk).1] at a
  have := Option.some.inj a
  omega
theorem ordS_inj : ∀ {u v : Bool}, ordS u = ordS v → u = v := by decide +kernel
theorem joinS_inj : ∀ {u v : Bool}, joinS u = joinS v → u = v := by decide +kernel
theorem mapw_inj : ∀ {a b : List Str}, a.map Wd.w = b.map Wd.w → a = b
  | [], [], _ => rfl
  | [], _ :: _, h => nomatch h
  | _ :: _, [], h => nomatch h
  | x :: a, y :: b, h => by
    obtain ⟨h1, h2⟩ := List.cons.inj h
    rw [Wd.w.inj h1, mapw_inj h2]
theorem Rdb.names {n : Nat} {d : SD} {w : Wd} (h : Rdb n d w) : ∀ {m : Nat} {d' : SD} {w' : Wd}, Rdb m d' w' → w = w' → d.names = d'.names := by
  induction h with
  | tab T =>
    intro m d' w' h' e
    cases h' with
    | tab T' =>
      have t := congrArg tlW e
      exact mapw_inj (congrArg wL (List.cons.inj t).1)
    | _ => exact absurd (congrArg hdW e) (by first | exact (show ¬ (("table" : Str) = ("count" : Str)) by decide +kernel) | exact (show ¬ (("table" : Str) = ("span" : Str)) by decide +kernel) | exact (show ¬ (("table" : Str) = ("set" : Str)) by decide +kernel) | exact (show ¬ (("table" : Str) = ("watch" : Str)) by decide +kernel) | exact (show ¬ (("table" : Str) = ("turned" : Str)) by decide +kernel) | exact (show ¬ (("table" : Str) = ("heap" : Str)) by decide +kernel) | exact (show ¬ (("table" : Str) = ("pair" : Str)) by decide +kernel))
  | cnt hm =>
    intro m d' w' h' e
    cases h' with
    | cnt hk =>
      obtain ⟨t1, t2⟩ := List.cons.inj (congrArg tlW e)
      have e1 := num_inj (by omega) (by omega) (congrArg wS t1)
      have e2 := ordS_inj (congrArg wS (List.cons.inj t2).1)
      rw [e1, e2]
    | _ => exact absurd (congrArg hdW e) (by first | exact (show ¬ (("count" : Str) = ("table" : Str)) by decide +kernel) | exact (show ¬ (("count" : Str) = ("span" : Str)) by decide +kernel) | exact (show ¬ (("count" : Str) = ("set" : Str)) by decide +kernel) | exact (show ¬ (("count" : Str) = ("watch" : Str)) by decide +kernel) | exact (show ¬ (("count" : Str) = ("turned" : Str)) by decide +kernel) | exact (show ¬ (("count" : Str) = ("heap" : Str)) by decide +kernel) | exact (show ¬ (("count" : Str) = ("pair" : Str)) by decide +kernel))
  | span hm =>
    intro m d' w' h' e
    cases h' with
    | span hk =>
      obtain ⟨t1, t2⟩ := List.cons.inj (congrArg tlW e)
      have e1 := num_inj (by omega) (by omega) (congrArg wS t1)
      rw [e1]
    | _ => exact absurd (congrArg hdW e) (by first | exact (show ¬ (("span" : Str) = ("table" : Str)) by decide +kernel) | exact (show ¬ (("span" : Str) = ("count" : Str)) by decide +kernel) | exact (show ¬ (("span" : Str) = ("set" : Str)) by decide +kernel) | exact (show ¬ (("span" : Str) = ("watch" : Str)) by decide +kernel) | exact (show ¬ (("span" : Str) = ("turned" : Str)) by decide +kernel) | exact (show ¬ (("span" : Str) = ("heap" : Str)) by decide +kernel) | exact (show ¬ (("span" : Str) = ("pair" : Str)) by decide +kernel))
  | set h0 hm =>
    intro m d' w' h' e
    cases h' with
    | set h1 hk =>
      obtain ⟨t1, t2⟩ := List.cons.inj (congrArg tlW e)
      have e1 := num_inj (by omega) (by omega) (congrArg wS t1)
      have e2 := joinS_inj (congrArg wS (List.cons.inj t2).1)
      rw [e1, e2]
    | _ => exact absurd (congrArg hdW e) (by first | exact (show ¬ (("set" : Str) = ("table" : Str)) by decide +kernel) | exact (show ¬ (("set" : Str) = ("count" : Str)) by decide +kernel) | exact (show ¬ (("set" : Str) = ("span" : Str)) by decide +kernel) | exact (show ¬ (("set" : Str) = ("watch" : Str)) by decide +kernel) | exact (show ¬ (("set" : Str) = ("turned" : Str)) by decide +kernel) | exact (show ¬ (("set" : Str) = ("heap" : Str)) by decide +kernel) | exact (show ¬ (("set" : Str) = ("pair" : Str)) by decide +kernel))
  | watch h0 hm =>
    intro m d' w' h' e
    cases h' with
    | watch h1 hk =>
      obtain ⟨t1, t2⟩ := List.cons.inj (congrArg tlW e)
      have e1 := num_inj (by omega) (by omega) (congrArg wS t1)
      rw [e1]
    | _ => exact absurd (congrArg hdW e) (by first | exact (show ¬ (("watch" : Str) = ("table" : Str)) by decide +kernel) | exact (show ¬ (("watch" : Str) = ("count" : Str)) by decide +kernel) | exact (show ¬ (("watch" : Str) = ("span" : Str)) by decide +kernel) | exact (show ¬ (("watch" : Str) = ("set" : Str)) by decide +kernel) | exact (show ¬ (("watch" : Str) = ("turned" : Str)) by decide +kernel) | exact (show ¬ (("watch" : Str) = ("heap" : Str)) by decide +kernel) | exact (show ¬ (("watch" : Str) = ("pair" : Str)) by decide +kernel))
  | turn h o hd ih =>
    intro m d' w' h' e
    cases h' with
    | turn h2 o2 hd2 =>
      have := ih h2 (List.cons.inj (congrArg tlW e)).1
      exact this
    | _ => exact absurd (congrArg hdW e) (by first | exact (show ¬ (("turned" : Str) = ("table" : Str)) by decide +kernel) | exact (show ¬ (("turned" : Str) = ("count" : Str)) by decide +kernel) | exact (show ¬ (("turned" : Str) = ("span" : Str)) by decide +kernel) | exact (show ¬ (("turned" : Str) = ("set" : Str)) by decide +kernel) | exact (show ¬ (("turned" : Str) = ("watch" : Str)) by decide +kernel) | exact (show ¬ (("turned" : Str) = ("heap" : Str)) by decide +kernel) | exact (show ¬ (("turned" : Str) = ("pair" : Str)) by decide +kernel))
  | heap h o l6 hd nd ih =>
    intro m d' w' h' e
    cases h' with
    | heap h2 o2 l2 hd2 nd2 => exact congrArg heapNames (ih h2 (List.cons.inj (congrArg tlW e)).1)
    | _ => exact absurd (congrArg hdW e) (by first | exact (show ¬ (("heap" : Str) = ("table" : Str)) by decide +kernel) | exact (show ¬ (("heap" : Str) = ("count" : Str)) by decide +kernel) | exact (show ¬ (("heap" : Str) = ("span" : Str)) by decide +kernel) | exact (show ¬ (("heap" : Str) = ("set" : Str)) by decide +kernel) | exact (show ¬ (("heap" : Str) = ("watch" : Str)) by decide +kernel) | exact (show ¬ (("heap" : Str) = ("turned" : Str)) by decide +kernel) | exact (show ¬ (("heap" : Str) = ("pair" : Str)) by decide +kernel))
  | pair h1 h2 o1 o2 l hd nd ih1 ih2 =>
    intro m d' w' h' e
    cases h' with
    | pair h3 h4 o3 o4 l' hd' nd' =>
      obtain ⟨t1, t2⟩ := List.cons.inj (congrArg tlW e)
      have e1 := ih1 h3 t1
      have e2 := ih2 h4 (List.cons.inj t2).1
      show pairNames _ _ = pairNames _ _
      unfold pairNames
      rw [e1, e2]
    | _ => exact absurd (congrArg hdW e) (by first | exact (show ¬ (("pair" : Str) = ("table" : Str)) by decide +kernel) | exact (show ¬ (("pair" : Str) = ("count" : Str)) by decide +kernel) | exact (show ¬ (("pair" : Str) = ("span" : Str)) by decide +kernel) | exact (show ¬ (("pair" : Str) = ("set" : Str)) by decide +kernel) | exact (show ¬ (("pair" : Str) = ("watch" : Str)) by decide +kernel) | exact (show ¬ (("pair" : Str) = ("turned" : Str)) by decide +kernel) | exact (show ¬ (("pair" : Str) = ("heap" : Str)) by decide +kernel))
theorem Rdb.lab {n m : Nat} {d d' : SD} {w w' : Wd} (h : Rdb n d w) (h' : Rdb m d' w') (hn : n ≤ 9) (hm : m ≤ 9) (e : d.label = d'.label) : d.names = d'.names := by
  have a := h.nw hn
  rw [e, h'.nw hm] at a
  exact h.names h' (List.cons.inj (Option.some.inj a)).1.symm
theorem Smk.lab {d d' : SD} (h : Smk d) (h' : Smk d') (e : d.label = d'.label) : d.names = d'.names := by
  obtain ⟨w, a⟩ := h.r
  obtain ⟨w', a'⟩ := h'.r
  exact a.lab a' (by decide) (by decide) e
theorem cutV_to {xs : List V} {a : Nat} (h : a ≤ xs.length) : cutV xs none (some ((a : Nat) : Int)) = xs.take a := by
  unfold cutV
  rw [HT.sIx_nat, HT.sIx_none, Nat.min_eq_left h, Nat.sub_zero, List.drop_zero]
end L2.DS
/-! The law's own search for a fault. -/
namespace L2.DS
open PySem PySem.Spec PyProof.Rows
/-- the law's tables of a scale: joins, products, never, still -/
def LTb (d : SD) (p : Addr) (G : Hp) : Prop := ∃ pj pp, G p = some (.lst [.ref pj, .ref pp, .int (d.nv.toNat : Nat), .int (d.sl.toNat : Nat)]) ∧ TabN G pj d.names.length d.jn ∧ TabN G pp d.names.length d.th
theorem LTb.mono {d : SD} {p : Addr} {G G' : Hp} (h : LTb d p G) (s : Same G G') : LTb d p G' := let ⟨a, b, c, e, f⟩ := h; ⟨a, b, s _ _ c, e.mono s, f.mono s⟩
theorem ne_I (x y : Nat) : (!decide (((x : Nat) : Int) = ((y : Nat) : Int))) = (!PyData.eqv (dI x) (dI y)) := by
  rw [eqv_I]
  by_cases h : x = y
  · subst h
    simp
  · have h2 : ¬ ((x : Nat) : Int) = (y : Nat) := by omega
    simp [h, h2]
theorem ne_P (x y u v : Nat) : ((!decide (((x : Nat) : Int) = ((y : Nat) : Int))) || (!decide (((u : Nat) : Int) = ((v : Nat) : Int)))) = (!PyData.eqv (.tuple [dI x, dI u]) (.tuple [dI y, dI v])) := by
  rw [ne_I, ne_I]
  simp only [PyData.eqv, PyData.eqvAll, Bool.and_true, Bool.not_and]
theorem fsr_some {β : Type} {g : Nat → Option β} {m j : Nat} {r : β} (hj : j < m) (hN : ∀ k, k < j → g k = none) (e : g j = some r) : (List.range m).findSome? g = some r :=
  fs_some (List.getElem?_range hj) (fun k y hk hy => by
    have hk2 : k < m := by omega
    rw [List.getElem?_range hk2] at hy
    obtain rfl := Option.some.inj hy
    exact hN k hk) e
theorem fsr_none {β : Type} {g : Nat → Option β} {m : Nat} (hN : ∀ k, k < m → g k = none) : (List.range m).findSome? g = none :=
  fs_none fun k y hy => by
    have hk : k < m := by
      have := (List.getElem?_eq_some_iff.mp hy).1
      rw [List.length_range] at this
      exact this
    rw [List.getElem?_range hk] at hy
    obtain rfl := Option.some.inj hy
    exact hN k hk
def mL (n l k : Nat) : Nat := if l > k then n else 1
def lbF (n l : Nat) (F : Nat → Nat → Nat → Bool) (a b : Nat) : Option (List Nat) := (List.range (mL n l 2)).findSome? fun c => cF n l F a b c
def laF (n l : Nat) (F : Nat → Nat → Nat → Bool) (a : Nat) : Option (List Nat) := (List.range (mL n l 1)).findSome? fun b => lbF n l F a b
def lfndF (n l : Nat) (F : Nat → Nat → Nat → Bool) : Option (List Nat) := (List.range n).findSome? fun a => laF n l F a
theorem fs_one {β : Type} {g : Nat → Option β} {x : Nat} : [x].findSome? g = g x := by
  rw [List.findSome?_cons]
  cases g x <;> rfl
theorem lfnd_eq (d : SD) (n : Nat) : ∀ i, i < 9 → lfndF n (lensF i) (failF i d) = fndF n (lensF i) (failF i d) := by
  have r1 : List.range 1 = [0] := rfl
  have l1 : ∀ {F : Nat → Nat → Nat → Bool}, (∀ a b c, F a b c = F a a a) → lfndF n 1 F = fndF n 1 F := fun {F} hF => by
    unfold lfndF fndF
    congr 1
    funext a
    show (List.range 1).findSome? (fun b => lbF n 1 F a b) = ([a] : List Nat).findSome? fun b => bF n 1 F a b
    rw [r1, fs_one, fs_one]
    show (List.range 1).findSome? (fun c => cF n 1 F a 0 c) = ([a] : List Nat).findSome? fun c => cF n 1 F a a c
    rw [r1, fs_one, fs_one]
    unfold cF
    rw [hF a 0 0]
    rfl
  have l2 : ∀ {F : Nat → Nat → Nat → Bool}, (∀ a b c, F a b c = F a b a) → lfndF n 2 F = fndF n 2 F := fun {F} hF => by
    unfold lfndF fndF
    congr 1
    funext a
    show (List.range n).findSome? (fun b => lbF n 2 F a b) = (List.range n).findSome? fun b => bF n 2 F a b
    congr 1
    funext b
    show (List.range 1).findSome? (fun c => cF n 2 F a b c) = ([a] : List Nat).findSome? fun c => cF n 2 F a b c
    rw [r1, fs_one, fs_one]
    unfold cF
    rw [hF a b 0]
    rfl
  have l3 : ∀ {F : Nat → Nat → Nat → Bool}, lfndF n 3 F = fndF n 3 F := fun {F} => rfl
  intro i hi
  match i, hi with
  | 0, _ => exact l1 fun _ _ _ => rfl
  | 1, _ => exact l2 fun _ _ _ => rfl
  | 2, _ => exact l3
  | 3, _ => exact l1 fun _ _ _ => rfl
  | 4, _ => exact l3
  | 5, _ => exact l1 fun _ _ _ => rfl
  | 6, _ => exact l1 fun _ _ _ => rfl
  | 7, _ => exact l3
  | 8, _ => exact l3
theorem lfault_eq (d : SD) : ((List.range 9).findSome? fun i => (lfndF d.names.length (lensF i) (failF i d)).map fun t => (i, t)) = faultF d := by
  unfold faultF
  have : ∀ L : List Nat, (∀ i ∈ L, i < 9) → (L.findSome? fun i => (lfndF d.names.length (lensF i) (failF i d)).map fun t => (i, t)) = L.findSome? fun i => (fndF d.names.length (lensF i) (failF i d)).map fun t => (i, t) := by
    intro L
    induction L with
    | nil => exact fun _ => rfl
    | cons x L ih =>
      intro h
      rw [List.findSome?_cons, List.findSome?_cons, lfnd_eq d _ x (h x List.mem_cons_self), ih fun i hi => h i (List.mem_cons_of_mem _ hi)]
  exact this _ fun i hi => List.mem_range.mp hi
/-! promises -/
def PFls : List V → Hp → HR → Prop := fun vs G R => ∃ (p : Addr) (d : SD) (i a b c : Nat), vs = [.ref p, .int (i : Nat), .int (a : Nat), .int (b : Nat), .int (c : Nat)] ∧ LTb d p G ∧ SdOk d ∧ i < 9 ∧ a < d.names.length ∧ b < d.names.length ∧ c < d.names.length ∧ R = IsV (.bl (failF i d a b c))
def PLft (K : PySem.W.Frag) : List V → Hp → HR → Prop := fun vs G R => ∃ (p pn : Addr) (d : SD), vs = [.ref p, .ref pn] ∧ LTb d p G ∧ SdOk d ∧ G pn = some (.lst (d.names.map V.str)) ∧ R = IsFt K d (faultF d)
/-- l[lo:hi], l newly made -/
theorem ev_slNew {S : SR} {n ka kb kc : Nat} {te : TE} {tl th : TO} {lo hi : Option Int} {σ : L2.St} {G F : Hp} {K : PySem.W.Frag} {xs : List V} (st : Stab S) (h : Ev S n ka te σ G (IsNew F (.lst xs))) (h1 : EvO S (n + ka) kb tl σ G lo) (h2 : EvO S (n + ka + kb) kc th σ G hi) :
    Ev S n (ka + kb + kc) (tSl (rSlL K) te tl th) σ G (IsNew G (.lst (cutV xs lo hi))) := fun G1 H1 s0 s Q q =>
  h G1 H1 s0 s _ fun v G2 H2 s2 e => h1 G2 H2 (s0.trans s2.g) s2.s _ fun G3 H3 s3 => h2 G3 H3 ((s0.trans s2.g).trans s3.g) s3.s _ fun G4 H4 s4 => by
    obtain ⟨p, rfl, _, gp⟩ := e
    have t := (s2.trans s3).trans s4
    have g4 : Same G G4 := s0.trans t.g
    refine ⟨p, xs, rfl, SqL.of (st.sub t.s _ _ ((s3.g.trans s4.g) _ _ gp)), fun q' hp => ?_⟩
    have nn := st.new (o := .lst (cutV xs lo hi)) t.s hp
    have tt : Stp S (n + (ka + kb + kc)) G1 H1 (upd G4 q' (.lst (cutV xs lo hi))) (upd H4 q' (.lst (cutV xs lo hi))) := by
      have z := t.trans nn
      rw [show n + (ka + kb + kc) = n + ka + kb + kc by omega]
      exact z
    exact q (.ref q') _ _ tt ⟨q', rfl, (g4.trans (st.sub t.s)).free hp, upd_same⟩
/-- tables of m places -/
def LTn (m nv sl : Nat) (th jn : Nat → Nat → Int) (p : Addr) (G : Hp) : Prop := ∃ pj pp, G p = some (.lst [.ref pj, .ref pp, .int (nv : Nat), .int (sl : Nat)]) ∧ TabN G pj m jn ∧ TabN G pp m th
theorem LTn.mono {m nv sl : Nat} {th jn : Nat → Nat → Int} {p : Addr} {G G' : Hp} (h : LTn m nv sl th jn p G) (s : Same G G') : LTn m nv sl th jn p G' := let ⟨a, b, c, e, f⟩ := h; ⟨a, b, s _ _ c, e.mono s, f.mono s⟩
structure LTok (m nv sl : Nat) (th jn : Nat → Nat → Int) : Prop where
  nv : nv < m
  sl : sl < m
  th : ∀ a b, a < m → b < m → 0 ≤ th a b ∧ th a b < m
  jn : ∀ a b, a < m → b < m → 0 ≤ jn a b ∧ jn a b < m
theorem LTn.tab {names : List Str} {nv sl : Nat} {th jn : Nat → Nat → Int} {p : Addr} {G : Hp} (h : LTn names.length nv sl th jn p G) : LTb (tabSD names nv sl th jn) p G := h
theorem LTok.tab {names : List Str} {nv sl : Nat} {th jn : Nat → Nat → Int} (h : LTok names.length nv sl th jn) (l1 : 1 ≤ names.length) (l2 : names.length ≤ 16) (nd : names.Nodup) (ok : ∀ nm ∈ names, okNm nm = true) (so : ∀ nm ∈ names, PyData.strOk nm = true) : TbIs names nv sl th jn := ⟨l1, l2, nd, ok, so, h.nv, h.sl, h.th, h.jn⟩
def IsLT (m : Nat) : HR := fun v G => ∃ p nv sl th jn, v = .ref p ∧ LTn m nv sl th jn p G ∧ LTok m nv sl th jn
instance (m) : Mon (IsLT m) := ⟨fun s ⟨p, nv, sl, th, jn, e, a, b⟩ => ⟨p, nv, sl, th, jn, e, a.mono s, b⟩⟩
def IsLTF (F : Hp) (m : Nat) : HR := fun v G => ∃ p, v = .ref p ∧ F p = none ∧ IsLT m v G
instance (F m) : Mon (IsLTF F m) := ⟨fun s ⟨p, e, f, h⟩ => ⟨p, e, f, Mon.mon s h⟩⟩
def PFr9 : Addr → List V → Nat → Nat → Hp → HR → Prop := fun sa vs _ k G R => ∃ m : Nat, vs = [.ref sa, .int (m : Nat)] ∧ 1 ≤ m ∧ m ≤ 3 ∧ k = 20 ∧ R = IsLTF G m
def PLso (K : PySem.W.Frag) (Cs : List Addr) : List V → Hp → HR → Prop := fun vs G R => ∃ (p pn : Addr) (names : List Str) (nv sl : Nat) (th jn : Nat → Nat → Int), vs = [.ref p, .ref pn] ∧ LTn names.length nv sl th jn p G ∧ G pn = some (.lst (names.map V.str)) ∧ TbIs names nv sl th jn ∧ R = IsScD K Cs (tabSD names nv sl th jn)
/-! ### tables whose lists are new -/
def TabF (F G : Hp) (p : Addr) (n : Nat) (f : Nat → Nat → Int) : Prop := F p = none ∧ ∃ vs, G p = some (.lst vs) ∧ RL (fun a => IsIRn F n (f a)) (List.range n) vs G
theorem TabF.mono {F G G' : Hp} {p : Addr} {n : Nat} {f : Nat → Nat → Int} (h : TabF F G p n f) (s : Same G G') : TabF F G' p n f := ⟨h.1, h.2.choose, s _ _ h.2.choose_spec.1, rl_mon s h.2.choose_spec.2⟩
theorem TabF.tab {F G : Hp} {p : Addr} {n : Nat} {f : Nat → Nat → Int} (h : TabF F G p n f) : TabN G p n f := ⟨_, h.2.choose_spec.1, rl_row h.2.choose_spec.2⟩
theorem TabF.back {F F' G : Hp} {p : Addr} {n : Nat} {f : Nat → Nat → Int} (h : TabF F' G p n f) (s : Same F F') : TabF F G p n f := ⟨s.free h.1, h.2.choose, h.2.choose_spec.1, rl_map_imp (fun a v ⟨q, e, f, g⟩ => ⟨q, e, s.free f, g⟩) h.2.choose_spec.2⟩
section
variable {S : SR} {m : Nat} {el : TE} {σ : L2.St} {G : Hp} {K : PySem.W.Frag} {i ja jb : Nat} {p : Addr}
/-- [[el for b in l] for a in l], l a list of whole numbers: the rows are new -/
theorem ev_gridUN {u : Nat → Int} {n : Nat} {f : Nat → Nat → Int} {σa : Nat → L2.St} {σb : Nat → Nat → L2.St} (st : Stab S) (hσ : σ[i]? = some (some (.ref p))) (hp : G p = some (.lst ((List.range n).map fun k => V.int (u k)))) (hn : n ≤ 1000)
    (ea : ∀ a : Nat, (wipe σ [ja]).set ja (some (.int (u a))) = σa a) (wa : ∀ a, wipe (σa a) [ja] = wipe σ [ja]) (ia : ∀ a, (σa a)[i]? = some (some (.ref p))) (eb : ∀ a b : Nat, (wipe (σa a) [jb]).set jb (some (.int (u b))) = σb a b) (wb : ∀ a b, wipe (σb a b) [jb] = wipe (σa a) [jb])
    (hs : ∀ (a b : Nat) G', a < n → b < n → Same G G' → Ev S (m + 0 + 0) 0 el (σb a b) G' (IsV (.int (f a b)))) : Ev S m 0 (tLc (iList K (tVar i)) (gName ja) tYes (tLc (iList K (tVar i)) (gName jb) tYes el [jb]) [ja]) σ G (fun v G' => ∃ q, v = .ref q ∧ TabF G G' q n f) := by
  have lp : ((List.range n).map fun k => V.int (u k)).length = n := by rw [List.length_map, List.length_range]
  refine (ev_lcG (R := fun a => IsIRn G n (f a)) (ss := List.range n) (σf := σa) st (ev_var hσ) (SqL.of hp) (by rw [lp, List.length_range]) (by omega) (fun j y G' J hy s' t' Qs q => ?_) wa (fun j y a G' hy ha s' => ?_)).imp fun v G' s' h => ?_
  · obtain ⟨hj, rfl⟩ := map_get hy
    rw [List.getElem_range] at *
    show Qs ((wipe σ [ja]).set ja (some (.int (u j)))) J
    rw [ea]
    exact q
  · have hj : j < n := by
      have := (List.getElem?_eq_some_iff.mp ha).1
      rw [List.length_range] at this
      exact this
    rw [List.getElem?_range hj] at ha
    obtain rfl := Option.some.inj ha
    refine (ev_lcG (R := fun b : Nat => IsV (.int (f j b))) (ss := List.range n) (σf := σb j) st (ev_var (ia j)) (SqL.of (s' _ _ hp)) (by rw [lp, List.length_range]) (by omega) (fun b z G'' J hz s'' t'' Qs q => ?_) (wb j) (fun b z c G'' hz hc s'' => ?_)).imp fun v G'' s'' h => ?_
    · obtain ⟨hb, rfl⟩ := map_get hz
      rw [List.getElem_range] at *
      show Qs ((wipe (σa j) [jb]).set jb (some (.int (u b)))) J
      rw [eb]
      exact q
    · have hb : b < n := by
        have := (List.getElem?_eq_some_iff.mp hc).1
        rw [List.length_range] at this
        exact this
      rw [List.getElem?_range hb] at hc
      obtain rfl := Option.some.inj hc
      exact hs j b G'' hj hb (s'.trans s'')
    · obtain ⟨q, ys, e, fq, g, rl⟩ := h
      rw [rl_vals rl] at g
      exact ⟨q, e, s'.free fq, g⟩
  · obtain ⟨q, ys, e, fq, g, rl⟩ := h
    exact ⟨q, e, fq, ys, g, rl⟩
end
/-! ### lists that a def writes into, handed over by its caller -/
/-- G that tells of the addresses L what stands in H -/
def pubL (G H : Hp) : List Addr → Hp
  | [] => G
  | a :: L => match H a with
    | some o => upd (pubL G H L) a o
    | none => pubL G H L
theorem pubL_off {G H : Hp} : ∀ {L : List Addr} {b : Addr}, b ∉ L → pubL G H L b = G b
  | [], _, _ => rfl
  | a :: L, b, h => by
    have hb : b ≠ a := fun z => h (by rw [z]; exact List.mem_cons_self)
    have ih := pubL_off (G := G) (H := H) (L := L) (b := b) fun z => h (List.mem_cons_of_mem _ z)
    unfold pubL
    cases H a with
    | some o =>
      show upd (pubL G H L) a o b = _
      rw [upd_ne hb, ih]
    | none => exact ih
theorem pubL_on {G H : Hp} (s : Same G H) : ∀ {L : List Addr} {b : Addr} {o : HO}, b ∈ L → H b = some o → pubL G H L b = some o
  | [], _, _, h, _ => by cases h
  | a :: L, b, o, h, e => by
    by_cases hb : b = a
    · subst hb
      unfold pubL
      rw [e]
      exact upd_same
    · have hL : b ∈ L := by
        rcases List.mem_cons.mp h with z | z
        · exact absurd z hb
        · exact z
      have ih := pubL_on s (L := L) hL e
      unfold pubL
      cases H a with
      | some o' =>
        show upd (pubL G H L) a o' b = _
        rw [upd_ne hb, ih]
      | none => exact ih
theorem pubL_s {S : SR} (st : Stab S) {n0 n : Nat} {G0 H0 G H : Hp} (s0 : S n0 G0 H0) (s : S n G H) : ∀ {L : List Addr}, (∀ b ∈ L, H0 b = none ∧ G b = none) → S n (pubL G H L) H ∧ Same G (pubL G H L)
  | [], _ => ⟨s, Same.refl _⟩
  | a :: L, h => by
    obtain ⟨i1, i2⟩ := pubL_s st s0 s (L := L) fun b hb => h b (List.mem_cons_of_mem _ hb)
    obtain ⟨a0, ag⟩ := h a List.mem_cons_self
    have sg := st.sub i1
    unfold pubL
    split
    · rename_i o ho
      by_cases ha : a ∈ L
      · have e := pubL_on (G := G) (st.sub s) ha ho
        have z : upd (pubL G H L) a o = pubL G H L := by
          funext b
          by_cases hb : b = a
          · rw [hb, upd_same, e]
          · rw [upd_ne hb]
        rw [z]
        exact ⟨i1, i2⟩
      · have e : pubL G H L a = none := by rw [pubL_off ha]; exact ag
        obtain ⟨j1, j2⟩ := st_pub st s0 a0 i1 e ho
        exact ⟨j1, i2.trans j2⟩
    · exact ⟨i1, i2⟩
/-- l[c] = v, both drawn, while GP tells of l -/
theorem q_setKI {S : SR} {n n0 kc ka kb : Nat} {to ti te : TE} {u : TS} {σ : L2.St} {G GP H G0 H0 : Hp} {nx bk ct : L2.St → Hp → Prop} {rt : VK} {D : Addr} {xs : List V} {Pc Pv : Int → Prop} (st : Stab S) (s0 : S n0 G0 H0) (s : S n G H) (gp : Same G GP) (sp : S n GP H) (hD0 : H0 D = none) (gD : G D = none) (hH : H D = some (.lst xs))
    (e : Ev S n kc te σ GP (IsI Pv)) (e1 : Ev S (n + kc) ka to σ GP (IsV (.ref D))) (e2 : Ev S (n + kc + ka) kb ti σ GP (IsI Pc)) (hi : ∀ c, Pc c → 0 ≤ c ∧ c < xs.length)
    (h : ∀ (c v : Int) H', Pc c → Pv v → Kp S H H' → S (n + kc + ka + kb) G (upd H' D (.lst (xs.set c.toNat (.int v)))) → u (Ends.mk nx rt bk ct) σ (upd H' D (.lst (xs.set c.toNat (.int v))))) : tSeq (tAsg te (gSub to ti rSetA)) u (Ends.mk nx rt bk ct) σ H := by
  refine e GP H (Same.refl _) sp _ fun v1 G1 H1 s1 ev1 => ?_
  obtain ⟨v, hv, rfl⟩ := ev1
  refine e1 G1 H1 s1.g s1.s _ fun v2 G2 H2 s2 ev2 => ?_
  obtain rfl := (show _ = _ from ev2)
  refine e2 G2 H2 (s1.g.trans s2.g) s2.s _ fun v3 G3 H3 s3 ev3 => ?_
  obtain ⟨c, hc, rfl⟩ := ev3
  have t3 := (s1.trans s2).trans s3
  have d3 : H3 D = some (.lst xs) := t3.k.k D _ (st.fre s0 hD0) hH
  have z3 := st.anti s s3.s (gp.trans t3.g)
  have hb := hi c hc
  have hx : ixN xs.length c = some c.toNat := by
    unfold ixN
    rw [if_pos (by omega), if_pos (by omega)]
  exact .inl ⟨D, xs, c, c.toNat, rfl, rfl, d3, hx, h c v H3 hc hv t3.k (st.chg s0 hD0 z3 gD)⟩
/-! ### the answers as data -/
def ftD (d : SD) : Option (Nat × List Nat) → PyData
  | none => .none
  | some (i, t) => .tuple [.str (wordsF i), .tuple ((t.map fun k => d.names.getD k ("" : Str)).map PyData.str)]
theorem IsFt.dp {K : PySem.W.Frag} {d : SD} {G : Hp} {v : V} : ∀ {o : Option (Nat × List Nat)}, IsFt K d o v G → Dp K G v (ftD d o)
  | none, h => by
    obtain rfl := (show v = _ from h)
    exact .non
  | some (i, t), h => by
    obtain ⟨p, q, rfl, g, h⟩ := h
    refine .tup g (.cons (.str _) (.cons (.tup (SqT.of h) ?_) .nil))
    have := dp_strs (K := K) (G := G) (t.map fun k => d.names.getD k ("" : Str))
    rw [List.map_map] at this
    exact this
theorem ftD_sml (d : SD) : ∀ o : Option (Nat × List Nat), (∀ i t, o = some (i, t) → t.length ≤ 100000) → Sml (ftD d o) ∧ PyData.depth (ftD d o) ≤ 2
  | none, _ => ⟨.non, by simp [ftD, PyData.depth]⟩
  | some (i, t), h => by
    have ht := h i t rfl
    refine ⟨.tup (by show 2 ≤ 100000; decide) fun x hx => ?_, ?_⟩
    · simp only [List.mem_cons, List.not_mem_nil, or_false] at hx
      rcases hx with rfl | rfl
      · exact .str _
      · refine .tup (by rw [List.length_map, List.length_map]; exact ht) fun y hy => ?_
        obtain ⟨z, _, rfl⟩ := List.mem_map.mp hy
        exact .str z
    · have ds : ∀ l : List Str, PyData.depthAll (l.map PyData.str) = 0 := fun l => by
        induction l with
        | nil => rfl
        | cons a l ih => simp [PyData.depthAll, PyData.depth, ih]
      have e := ds (t.map fun k => d.names.getD k ("" : Str))
      show max 0 (max (PyData.depthAll ((t.map fun k => d.names.getD k ("" : Str)).map PyData.str) + 1) 0) + 1 ≤ 2
      rw [e]
      decide
end L2.DS
/-! Lists that grow in one another; joined ways; the rows of a pair and of a heap as the law makes them. -/
namespace L2.DS
open PySem PySem.Spec PyProof.Rows
section
variable {α : Type} {R : α → HR} {S : SR} {n n0 m k c1 : Nat} {te el : TE} {t ta tb : TA} {u t1 t2 : TS} {tt : TT} {σ : L2.St} {G H G1 H1 G3 J G4 H4 : Hp} {nx bk ct : L2.St → Hp → Prop} {rt : VK} {i j : Nat} {K : PySem.W.Frag} {D p : Addr} {ss : List α} {x : α} {acc xs : List V}
/-- the list at D grows; G3 tells all else -/
structure LcO (S : SR) (G1 H1 : Hp) (n : Nat) (D : Addr) (R : α → HR) (ss : List α) (G3 J : Hp) : Prop where
  s : Stp S n G1 H1 G3 J
  d : G3 D = none
  a : ∃ acc, J D = some (.lst acc) ∧ RL R ss acc G3
theorem LcO.q (h : LcO S G1 H1 n D R ss G3 J) : LcQ S G1 H1 n D R ss J := let ⟨acc, a, b⟩ := h.a; ⟨G3, acc, h.s, h.d, a, b⟩
theorem LcQ.o (h : LcQ S G1 H1 n D R ss J) : ∃ G3, LcO S G1 H1 n D R ss G3 J := let ⟨G3, acc, a, b, c, d⟩ := h; ⟨G3, a, b, acc, c, d⟩
theorem LcO.go (st : Stab S) [∀ a, Mon (R a)] (a : S n0 G1 H1) (hD : H1 D = none) (h : LcO S G1 H1 n D R ss G3 J) (s4 : Stp S m G3 J G4 H4) : LcO S G1 H1 m D R ss G4 H4 := by
  obtain ⟨s3, c, acc, d, r⟩ := h
  refine ⟨s3.trans s4, ?_, acc, s4.k.k D _ (st.fre a hD) d, rl_mon s4.g r⟩
  cases e : G4 D with
  | none => rfl
  | some o =>
    rcases s4.n D o e with q | q
    · rw [c] at q
      cases q
    · rw [d] at q
      cases q
/-- D.append(x), x told of what stands there now -/
theorem q_appO (st : Stab S) [∀ a, Mon (R a)] (a : S n0 G1 H1) (hD : H1 D = none) (h : LcO S G1 H1 n D R ss G3 J) (hl : ss.length < 100000) (hv : σ[j]? = some (some (.ref D))) (e : EvA S n k t σ G3 (RL R [x]))
    (hN : ∀ G4 J', Same G3 G4 → LcO S G1 H1 (n + k) D R (ss ++ [x]) G4 J' → u (Ends.mk nx rt bk ct) σ J') : tSeq (tDrop (tBM K "list" rAppend (tVar j) t)) u (Ends.mk nx rt bk ct) σ J := by
  obtain ⟨s3, c, acc, d, r⟩ := h
  refine ⟨_, hv, .inl ⟨rfl, _, SqL.of d⟩, e G3 J (Same.refl _) s3.s _ fun ws G4 H4 s4 ev => ?_⟩
  obtain ⟨y, _, rfl, ry, rn⟩ := ev
  obtain rfl := (show _ = [] from rn)
  have d4 : H4 D = some (.lst acc) := s4.k.k D _ (st.fre a hD) d
  have h4 := LcO.go st a hD ⟨s3, c, acc, d, r⟩ s4
  have lr := rl_len r
  refine ⟨D, acc, y, rfl, rfl, d4, by have : (100000 : Nat) ≤ sizeLine := by decide
                                      omega, ?_⟩
  refine hN G4 _ s4.g ⟨⟨h4.s.g, kp_new h4.s.k hD, st.chg a hD h4.s.s h4.d, h4.s.n⟩, h4.d, acc ++ [y], upd_same, rl_app (rl_mon s4.g r) (rl_one ry)⟩
/-- D = [] -/
theorem q_newO (st : Stab S) [∀ a, Mon (R a)] (s : S n G H)
    (h : ∀ D G1 H1 J, Stp S n G H G1 H1 → H1 D = none → LcO S G1 H1 n D R [] G1 J → u (Ends.mk nx rt bk ct) (σ.set i (some (.ref D))) J) :
    tSeq (tAsg (tLst tNil) (gName i)) u (Ends.mk nx rt bk ct) σ H := by
  refine ⟨by decide, fun D hD => ?_⟩
  have gD : G D = none := (st.sub s).free hD
  exact h D G H _ (Stp.refl s) hD ⟨⟨Same.refl _, kp_new (Kp.refl H) hD, st.chg s hD s gD, fun _ _ h => .inl h⟩, gD, [], upd_same, rfl⟩
theorem LcO.pub (st : Stab S) [∀ a, Mon (R a)] (a : S n0 G1 H1) (hn : n0 ≤ n) (hD : H1 D = none) (h : LcO S G1 H1 n D R ss G3 J) : ∃ G', Stp S n G1 H1 G' J ∧ Same G3 G' ∧ IsNX G1 (RL R ss) (.ref D) G' := by
  obtain ⟨s3, c, acc, d, r⟩ := h
  obtain ⟨b1, b2⟩ := st_pub st a hD s3.s c d
  refine ⟨upd G3 D (.lst acc), ⟨s3.g.trans b2, s3.k, b1, fun b o e => ?_⟩, b2, D, acc, rfl, (st.sub a).free hD, upd_same, rl_mon b2 r⟩
  by_cases hb : b = D
  · rw [hb]
    exact .inr hD
  · rw [upd_ne hb] at e
    exact s3.n b o e
/-- [..], all told, new -/
theorem ev_lstXN {RA : HRs} (st : Stab S) [Mons RA] (h : EvA S n k t σ G RA) (hl : ∀ vs G', RA vs G' → vs.length ≤ 100000) : Ev S n k (tLst t) σ G (IsNX G RA) := fun G1 H1 s0 s Q q =>
  h G1 H1 s0 s _ fun vs G2 H2 s2 e => ⟨Nat.le_trans (hl vs G2 e) (by decide), fun p hp => by
    have g := st.new (o := .lst vs) s2.s hp
    exact q (.ref p) _ _ (s2.trans g) ⟨p, vs, rfl, s0.free (s2.g.free ((st.sub s2.s).free hp)), upd_same, Mons.mon g.g e⟩⟩
/-- two ways that meet -/
theorem q_ifB {P : Bool → Prop} (st : Stab S) (Jn : L2.St → Hp → Prop) (s : S n G H) (e : EvT S n k tt σ G P) (hu : ∀ σ' H', Jn σ' H' → u (Ends.mk nx rt bk ct) σ' H')
    (h1 : ∀ H', (∀ σ' H', Jn σ' H' → u (Ends.mk nx rt bk ct) σ' H') → P true → Kp S H H' → S (n + k) G H' → t1 (Ends.mk (u (Ends.mk nx rt bk ct)) rt bk ct) σ H')
    (h2 : ∀ H', (∀ σ' H', Jn σ' H' → u (Ends.mk nx rt bk ct) σ' H') → P false → Kp S H H' → S (n + k) G H' → t2 (Ends.mk (u (Ends.mk nx rt bk ct)) rt bk ct) σ H') : tSeq (tIfS tt t1 t2) u (Ends.mk nx rt bk ct) σ H :=
  q_if st s e (fun H' p k s => h1 H' hu p k s) (fun H' p k s => h2 H' hu p k s)
/-- [[el for b in range(..)] for a in range(..)] -/
theorem ev_grid2 {n : Nat} {f : Nat → Nat → Int} {ja jb : Nat} {σa : Nat → L2.St} {σb : Nat → Nat → L2.St} (st : Stab S) (e : EvA S m 0 ta σ G (IsVs [.int (n : Nat)])) (hn : n ≤ 1000)
    (ea : ∀ a : Nat, (wipe σ [ja]).set ja (some (.int (a : Nat))) = σa a) (wa : ∀ a, wipe (σa a) [ja] = wipe σ [ja]) (e2 : ∀ a G', Same G G' → EvA S (m + 0) 0 tb (σa a) G' (IsVs [.int (n : Nat)])) (eb : ∀ a b : Nat, (wipe (σa a) [jb]).set jb (some (.int (b : Nat))) = σb a b) (wb : ∀ a b, wipe (σb a b) [jb] = wipe (σa a) [jb])
    (hs : ∀ (a b : Nat) G', a < n → b < n → Same G G' → Ev S (m + 0 + 0) 0 el (σb a b) G' (IsV (.int (f a b)))) : Ev S m 0 (tLc (iRng1 ta) (gName ja) tYes (tLc (iRng1 tb) (gName jb) tYes el [jb]) [ja]) σ G (IsNX G (RL (fun a => IsIRow n (f a)) (List.range n))) := by
  refine (ev_lcFR (R := fun a => IsIRow n (f a)) (b := fun _ => true) (sj := fun a => a) (σf := σa) st e (by omega) (by omega) (fun j J Q q => ?_) wa (fun _ _ _ _ => et_yes) (fun a G' ha _ s' => ?_)).imp fun v G' s' r => ?_
  · show Q ((wipe σ [ja]).set ja (some (.int (j : Nat)))) J
    rw [ea]
    exact q
  · refine (ev_lcFR (R := fun v : V => IsV v) (b := fun _ => true) (sj := fun b => .int (f a b)) (σf := σb a) st (e2 a G' s') (by omega) (by omega) (fun j J Q q => ?_) (wb a) (fun _ _ _ _ => et_yes) (fun b G'' hb _ s'' => ?_)).imp fun v G'' s'' r => ?_
    · show Q ((wipe (σa a) [jb]).set jb (some (.int (j : Nat)))) J
      rw [eb]
      exact q
    · exact hs a b G'' (by omega) (by omega) (s'.trans s'')
    · rw [filt_true, Int.toNat_natCast] at r
      obtain ⟨q, e, _, g⟩ := isNX_V (f := fun v : V => v) r
      rw [List.map_id'] at g
      exact ⟨q, e, g⟩
  · rw [filt_true, Int.toNat_natCast, List.map_id'] at r
    exact r
end
/-- l[i] = v, l told, what v is told by R -/
theorem q_setNewR {S : SR} {n kc ka kb n0 : Nat} {to ti te : TE} {u : TS} {σ : L2.St} {G H G0 H0 : Hp} {nx bk ct : L2.St → Hp → Prop} {rt : VK} {D : Addr} {xs : List V} {i : Nat} {R : HR} (st : Stab S) (s0 : S n0 G0 H0) (hD0 : H0 D = none) (s : S n G H) (hc : ∀ m G' J, S m G' J → S m (cut G' (· = D)) J) (hD : G D = some (.lst xs)) (hi : i < xs.length)
    (e : Ev S n kc te σ G R) (e1 : ∀ G', Same G G' → Ev S (n + kc) ka to σ G' (IsV (.ref D))) (e2 : ∀ G', Same G G' → Ev S (n + kc + ka) kb ti σ G' (IsV (.int (i : Nat))))
    (h : ∀ v G' H', R v G' → Same G G' → S (n + kc + ka + kb) (upd G' D (.lst (xs.set i v))) H' → u (Ends.mk nx rt bk ct) σ H') : tSeq (tAsg te (gSub to ti rSetA)) u (Ends.mk nx rt bk ct) σ H := by
  refine e G H (Same.refl _) s _ fun v1 G1 H1 s1 ev1 => ?_
  refine e1 G1 s1.g G1 H1 (Same.refl _) s1.s _ fun v2 G2 H2 s2 ev2 => ?_
  obtain rfl := (show _ = _ from ev2)
  refine e2 G1 s1.g G2 H2 s2.g s2.s _ fun v3 G3 H3 s3 ev3 => ?_
  obtain rfl := (show _ = _ from ev3)
  have s23 := s2.trans s3
  have z3 := st.anti s1.s s23.s s23.g
  have hD1 := s1.g _ _ hD
  have hH3 : H3 D = some (.lst xs) := st.sub z3 _ _ hD1
  have cD : cut G1 (· = D) D = none := cut_in rfl
  have c3 := hc _ _ _ z3
  have chg := st.chg (o := .lst (xs.set i v1)) s0 hD0 c3 cD
  have pb := st.pub (o := .lst (xs.set i v1)) s0 hD0 chg cD upd_same
  have ec : upd (cut G1 (· = D)) D (.lst (xs.set i v1)) = upd G1 D (.lst (xs.set i v1)) := by
    funext b
    by_cases hb : b = D
    · subst hb
      rw [upd_same, upd_same]
    · rw [upd_ne hb, upd_ne hb]
      exact cut_out (X := fun x => x = D) hb
  rw [ec] at pb
  have hx : ixN xs.length ((i : Nat) : Int) = some i := by
    unfold ixN
    rw [if_pos (by omega), if_pos (by omega)]
    rfl
  exact .inl ⟨D, xs, (i : Nat), i, rfl, rfl, hH3, hx, h v1 G1 _ ev1 s1.g pb⟩
/-- a def that draws, its result told by less -/
theorem ev_callSW {st cl : Addr} {n ka kb : Nat} {t : TA} {σ : L2.St} {G : Hp} {R : HR} {RA : HRs} {P : Addr → List V → Nat → Nat → Hp → HR → Prop} {dvs : List V} {E : XK} (h : EvA (Src st cl) n ka t σ G RA) (hp : ∀ vs G', Same G G' → RA vs G' → ∃ R0, P st (vs ++ dvs) (n + ka) kb G' R0 ∧ ∀ v G2, R0 v G2 → R v G2) : Ev (Src st cl) n (ka + kb) (tCall (spS P) dvs E t) σ G R := fun G1 H1 s0 s Q q =>
  h G1 H1 s0 s _ fun vs G2 H2 s2 e => by
    obtain ⟨R0, hP, hR⟩ := hp vs G2 (s0.trans s2.g) e
    exact ⟨st, cl, n + ka, kb, G2, R0, s2.s, hP, fun v G' H' g r => q v G' H' (s2.trans g).up (hR v G' r)⟩
def IsTbN (n : Nat) (f : Nat → Nat → Int) : HR := fun v G => ∃ p, v = .ref p ∧ TabN G p n f
instance (n f) : Mon (IsTbN n f) := ⟨fun s ⟨p, e, h⟩ => ⟨p, e, h.mono s⟩⟩
def nm9 : List (List Str) := [["p", "q"], ["x", "y"], ["h", "i", "j"]]
theorem nm9_ok : ∀ l ∈ nm9, ∀ m, m < 4 → (l.take m).Nodup ∧ ∀ nm ∈ l.take m, okNm nm = true ∧ PyData.strOk nm = true := by decide +kernel
theorem nm9_pair : ∀ m1, m1 < 3 → ∀ m2, m2 < 3 → (pairN ((["p", "q"] : List Str).take m1) ((["x", "y"] : List Str).take m2)).Nodup ∧ ∀ nm ∈ pairN ((["p", "q"] : List Str).take m1) ((["x", "y"] : List Str).take m2), nm.length ≤ 100 := by decide +kernel
theorem nm9_heap : ∀ m, m < 4 → (heapNames ((["h", "i", "j"] : List Str).take m)).Nodup := by decide +kernel
theorem nm9_len {l : List Str} {m : Nat} (h : m ≤ l.length) : (l.take m).length = m := by rw [List.length_take]; omega
theorem faultF_len {d : SD} {i : Nat} {t : List Nat} (h : faultF d = some (i, t)) : t.length ≤ 3 := by
  obtain ⟨j, _, h⟩ := List.exists_of_findSome?_eq_some h
  obtain ⟨t', ht, e⟩ := Option.map_eq_some_iff.mp h
  cases e
  obtain ⟨a, ha, h⟩ := List.exists_of_findSome?_eq_some ht
  obtain ⟨b, hb, h⟩ := List.exists_of_findSome?_eq_some h
  obtain ⟨c, hc, h⟩ := List.exists_of_findSome?_eq_some h
  unfold cF at h
  split at h
  · obtain rfl := Option.some.inj h
    rw [List.length_take]
    exact Nat.min_le_right _ _
  · cases h
theorem like_ft {K : PySem.W.Frag} {G : Hp} {d : SD} {u v : V} (h1 : IsFt K d (faultF d) u G) (h2 : IsFt K d (faultF d) v G) : PLike K 4 [u, v] G (IsV (.bl true)) := by
  obtain ⟨a, b⟩ := ftD_sml d (faultF d) fun i t e => Nat.le_trans (faultF_len e) (by decide)
  exact ⟨u, v, _, rfl, by omega, a, h1.dp, h2.dp, rfl⟩
/-! the tables behind the changes -/
theorem srcF {L : List Nat} {m : Nat} : ∀ a, (List.range m).filter (fun k => decide (a / 2 ^ k % 2 = 1)) = bitsOf m a := fun a => by
  unfold bitsOf
  refine List.filter_congr fun k _ => ?_
  rw [band_bit, Nat.testBit_eq_decide_div_mod_eq]
theorem TabN.updP {G : Hp} {p a b pt : Addr} {c e : Int} {o : HO} {m : Nat} {f : Nat → Nat → Int} (gp : G p = some (.lst [.ref a, .ref b, .int c, .int e])) (h : TabN G pt m f) (m1 : 1 ≤ m) : TabN (upd G p o) pt m f := by
  obtain ⟨vs, hp, lv, hat⟩ := h.at
  have n1 : pt ≠ p := fun z => by
    rw [z, gp] at hp
    injection hp with hp
    injection hp with hp
    have l4 : m = 4 := by rw [← lv, ← hp]; rfl
    obtain ⟨q, hq, _⟩ := hat 2 (by omega)
    rw [← hp] at hq
    cases hq
  refine ⟨vs, by rw [upd_ne n1]; exact hp, rl_of_get (by rw [List.length_range]; exact lv) fun i s y hs hy => ?_⟩
  have hi : i < m := by
    have := (List.getElem?_eq_some_iff.mp hs).1
    rw [List.length_range] at this
    exact this
  rw [List.getElem?_range hi] at hs
  obtain rfl := Option.some.inj hs
  obtain ⟨q, hq, gq⟩ := hat i hi
  rw [hq] at hy
  obtain rfl := Option.some.inj hy
  refine ⟨q, rfl, ?_⟩
  rw [upd_ne fun z => ?_]
  · exact gq
  · rw [z, gp] at gq
    injection gq with gq
    injection gq with gq
    have h3 := congrArg (fun l : List V => l[0]?) gq
    have h4 : ((List.range m).map fun k => V.int (f i k))[0]? = some (V.int (f i 0)) := by
      rw [List.getElem?_map, List.getElem?_range (by omega)]
      rfl
    cases h3.trans h4
theorem cut_upd {G : Hp} {p : Addr} {o : HO} : Same (cut G (· = p)) (upd G p o) := fun b u e => by
  by_cases hb : b = p
  · rw [hb, cut_in (X := fun x => x = p) rfl] at e
    cases e
  · rw [upd_ne hb]
    rw [cut_out (X := fun x => x = p) hb] at e
    exact e
theorem ScD.updP {K : PySem.W.Frag} {Cs : List Addr} {d : SD} {x p : Addr} {G : Hp} {xs : List V} {o : HO} (gp : G p = some (.lst xs)) (h : ScD K Cs d x G) : ScD K Cs d x (upd G p o) := by
  obtain ⟨C, hC, ok, sc⟩ := h
  exact (show ScD K Cs d x (cut G (· = p)) from ⟨C, hC, ok, sc.cut fun b hb => ⟨xs, by rw [show b = p from hb]; exact gp⟩⟩).mono cut_upd
def nN9 (m : Nat) : List Str := (List.range m).map fun k => ("n" : Str) ++ (toString (((k : Nat) : Int) * 7 % 97) : Str)
theorem nN9_ok : ∀ m, m < 17 → (nN9 m).Nodup ∧ ∀ nm ∈ nN9 m, okNm nm = true ∧ PyData.strOk nm = true := by decide +kernel
theorem nN9_sm : ∀ k, k < 17 → (((k : Nat) : Int) * 7 % 97).natAbs.log2 < 1920 ∧ ("n" : Str).length + (toString (((k : Nat) : Int) * 7 % 97) : Str).length ≤ 100 := by decide +kernel
theorem nN9_len (m : Nat) : (nN9 m).length = m := by unfold nN9; rw [List.length_map, List.length_range]
end L2.DS
namespace L2.DS
open PySem PySem.Spec PyProof.Rows
def top (i : Nat) : Stmt := PySem.Challenge.pw_deedscale_k09_first_fault.main.body.getD i (.Pass ⟨0, 0, 0, 0⟩)
local macro_rules | `(tactic| walk_at "sq") => `(tactic| first | assumption | exact SqL.of (by assumption) | exact SqT.of (by assumption) | (refine Same.seq (by assumption) ?_; walk_at "sq") | (refine same_t (by assumption) ?_; walk_at "sq"))
local macro_rules | `(tactic| walk_at "sd") => `(tactic| first | assumption | omega | decide | (simp; done) | (simp_all; done))
local macro_rules | `(tactic| walk_at "rv") => `(tactic| first
  | with_reducible exact v_add (by assumption) | with_reducible exact v_sub (by assumption) | with_reducible exact v_lt (by assumption) | with_reducible exact v_le (by assumption) | with_reducible exact v_gt (by assumption) | with_reducible exact v_ge (by assumption)
  | with_reducible exact v_eqI (by assumption) | with_reducible exact v_eqB (by assumption) | with_reducible exact v_eqS (by assumption) | with_reducible exact v_neI (by assumption) | with_reducible exact v_neS (by assumption)
  | ((with_reducible refine v_mod (by assumption) ?_); walk_at "sd") | ((with_reducible refine v_mul (by assumption) ?_); first | exact .inl ⟨by omega, by omega⟩ | exact .inr ⟨by omega, by omega⟩) | ((with_reducible refine v_div (by assumption) ?_); exact ⟨by omega, by omega⟩)
  | ((with_reducible apply v_ixL); assumption; walk_at "sq"; walk_at "sd") | ((with_reducible apply v_ixT); assumption; walk_at "sq"; walk_at "sd")
  | exact v_isN (by assumption) | exact v_notN (by assumption))
local macro_rules | `(tactic| walk_at "rc") => `(tactic| first
  | ((with_reducible apply c_lenL); assumption; walk_at "sq") | ((with_reducible apply c_lenT); assumption; walk_at "sq") | with_reducible exact c_abs (by assumption) | with_reducible exact c_int (by assumption) | with_reducible exact c_intB (by assumption))
local macro_rules | `(tactic| walk_at "ev") => `(tactic| first
  | with_reducible exact ev_c
  | ((with_reducible apply ev_var); rfl)
  | ((with_reducible apply ev_opV); walk_at "ev"; walk_at "ev"; walk_at "rv")
  | ((with_reducible apply ev_unV); walk_at "ev"; exact u_neg (by assumption))
  | ((with_reducible apply ev_ifV); assumption; walk_at "et"; (intro _; walk_at "ev"); (intro _; walk_at "ev"))
  | ((with_reducible apply ev_cbV); walk_at "ea"; walk_at "rc")
  | ((with_reducible apply ev_andV); assumption; walk_at "ev"; (intro _; walk_at "ev"))
  | ((with_reducible apply ev_orV); assumption; walk_at "ev"; (intro _; walk_at "ev"))
  | ((with_reducible apply ev_notV); walk_at "ev")
  | assumption)
local macro_rules | `(tactic| walk_at "ea") => `(tactic| first
  | with_reducible exact ea_nilV
  | ((with_reducible apply ea_consV); walk_at "ev"; walk_at "ea"))
local macro_rules | `(tactic| walk_at "et") => `(tactic| first
  | ((with_reducible apply et_testV); walk_at "ev")
  | ((with_reducible apply et_B); walk_at "ev")
  | ((with_reducible apply et_and); assumption; walk_at "et"; (intro _; walk_at "et"))
  | ((with_reducible apply et_or); assumption; walk_at "et"; (intro _; walk_at "et"))
  | ((with_reducible apply et_not); walk_at "et"))
local macro_rules | `(tactic| walk_at "qn") => `(tactic| repeat (with_reducible refine q_end ?_))
local macro_rules | `(tactic| walk_at "qif") => `(tactic| (walk_at "qn"; (with_reducible apply q_if); assumption; assumption; walk_at "et"))
local macro_rules | `(tactic| walk_at "qret") => `(tactic| (walk_at "qn"; (with_reducible apply q_retV); assumption; assumption; walk_at "ev"))
local macro_rules | `(tactic| walk_at "qset") => `(tactic| (walk_at "qn"; (with_reducible apply q_setV); assumption; assumption; walk_at "ev"))
section
variable {P : Program} {w : World} {K : PySem.W.Frag} {mg : Str → Option Value} {base : Heap}
theorem getInt {ns : List Int} {j : Nat} {x : V} (h : (ns.map V.int)[j]? = some x) : ∃ i, ns[j]? = some i ∧ x = .int i := by
  rw [List.getElem?_map] at h
  cases e : ns[j]? with
  | none => rw [e] at h; cases h
  | some i => rw [e] at h; exact ⟨i, rfl, (Option.some.inj h).symm⟩
theorem mapRange {ns : List Int} (g : Int → Int) {x : Nat → V} (m : Nat) (hm : m = ns.length) (h : ∀ j i, ns[j]? = some i → x j = .int (g i)) : (List.range m).map x = (ns.map g).map V.int := by
  subst hm
  refine List.ext_getElem? fun j => ?_
  rw [List.getElem?_map, List.getElem?_map, List.getElem?_map]
  by_cases hj : j < ns.length
  · rw [List.getElem?_range hj, List.getElem?_eq_getElem hj]
    show some (x j) = some (V.int (g ns[j]))
    rw [h j _ (List.getElem?_eq_getElem hj)]
  · rw [List.getElem?_eq_none (l := List.range ns.length) (by rw [List.length_range]; omega), List.getElem?_eq_none (l := ns) (by omega)]
    rfl
theorem getRev {ns : List Int} {j : Nat} (hj : j < ns.length) : atI (ns.map V.int) (((ns.map V.int).length : Int) - 1 - (j : Int)) = some (.int (ns.getD (ns.length - 1 - j) 0)) := by
  rw [show (((ns.map V.int).length : Nat) : Int) = (ns.length : Int) by rw [List.length_map]]
  have e : ((ns.length : Int) - 1 - (j : Int)) = ((ns.length - 1 - j : Nat) : Int) := by omega
  have h1 : ixN ns.length ((ns.length - 1 - j : Nat) : Int) = some (ns.length - 1 - j) := by
    unfold ixN
    rw [if_pos (by omega), if_pos (by omega)]
    all_goals rfl
  unfold atI
  rw [e, List.length_map, h1]
  show (ns.map V.int)[ns.length - 1 - j]? = _
  rw [List.getElem?_map, List.getElem?_eq_getElem (by omega), List.getD_eq_getElem?_getD, List.getElem?_eq_getElem (by omega)]
  rfl
theorem merge_src {cl : Addr} {l m t : Int} : mergeK [] (srcK cl l m t) = srcK cl l m t := by
  have a := ne_lc
  have b := ne_mc
  have c := ne_tc
  have d := ne_ml
  have e := ne_tl
  have f := ne_tm
  simp [mergeK, srcK, putK, a, b, c, d, e, f]
abbrev s__law_source : Stmt := top 32
theorem sc__law_source : FnScope ["_law_script", "_law_mixed", "_law_cell", "_law_cells", "_law_k"] ["_law_script"] (defScope s__law_source) := ⟨rfl, rfl, rfl, by decide +kernel, rfl, by decide +kernel, by decide +kernel⟩
theorem ok_source {f : Addr} {fd : FuncData} (Z : Bi mg) (F : Fun K "_law_source" "_law_source" s__law_source f fd) : FnOk P w K mg base CX0 1 f fd ["_law_script"] (sp_source K) := by
  refine F.ok sc__law_source (fun vs H Q E h => ?_) (fun cdv A outer s H vs Q E hr h => ?_)
  · obtain ⟨p, ns, rfl, _⟩ := h
    rfl
  · obtain ⟨p, ns, rfl, hq, hl, q⟩ := h
    refine ⟨_, (pss_cons (ps_set (i := 1) sc__law_source.nd rfl (Or.inl rfl) pe_int)
  (pss_cons (ps_for PassesOwn.never rfl (pi_listK K (pv 0)) (pg_name (i := 2) sc__law_source.nd rfl (Or.inl rfl)) (pss_cons (ps_set (i := 1) sc__law_source.nd rfl (Or.inl rfl) (pe_op op_modA (pe_callTy call_intA (by rfl) Z.z_int (by decide +kernel) (pa_cons (pe_op op_addA (pe_op op_addA (pe_op op_mulA (pv 1) pe_int) (pe_op op_mulA (pv 2) pe_int)) pe_int) pa_nil)) pe_int))
  pss_nil))
  (pss_cons (ps_set (i := 3) sc__law_source.nd rfl (Or.inr rfl) (pe_lc (own := [("_law_cell", 2)]) (g := (gName 2)) rfl sc__law_source.nd (pi_listK K (pv 0)) (blkOk_by (by kernel_rfl)) (fun _ _ _ _ _ => (pg_name (i := 2) sc__law_source.nd rfl (Or.inl rfl))) (fun _ _ _ _ _ => pts_nil) (fun _ _ _ _ _ => (pe_callB call_absA (by rfl) Z.z_abs (by decide +kernel) (pa_cons (pv 2) pa_nil)))))
  (pss_cons (ps_ret (pe_disp (pps_cons pe_str (pe_lc (own := [("_law_k", 4)]) (g := (gName 4)) rfl sc__law_source.nd (pi_range1 (by rfl) Z.z_range (pa_cons (pe_callB (call_lenA K) (by rfl) Z.z_len PySem.boot_len (pa_cons (pv 3) pa_nil)) pa_nil)) (blkOk_by (by kernel_rfl)) (fun _ _ _ _ _ => (pg_name (i := 4) sc__law_source.nd rfl (Or.inl rfl))) (fun _ _ _ _ _ => pts_nil) (fun _ _ _ _ _ => (pe_ix (ix_any K (hu_of hr)) (pv 3) (pe_op op_subA (pe_op op_subA (pe_callB (call_lenA K) (by rfl) Z.z_len PySem.boot_len (pa_cons (pv 3) pa_nil)) pe_int) (pv 4)) (fun _ _ => rfl)))) (pps_cons pe_str pe_int (pps_cons pe_str (pv 1) (pps_cons pe_str pe_int pps_nil)))) (by rfl) (by rfl) (fun z => by cases z) (by decide)))
  pss_nil)))), ?_⟩
    have st := stab0 H H
    have hS : SP0 H H 0 H H := Grow.refl (Same.refl H)
    show tSeq _ _ (Ends.mk _ _ _ _) [some _, none, none, none, none] _
    walk_at "qset"
    intro H1 k1 h1
    walk_at "qn"
    refine q_forL st h1 (ev_var rfl) hq (fun _ => 0) (fun j σ' G' H' => ∃ m c, 0 ≤ m ∧ m < 2147483629 ∧ σ' = [some (.ref p), some (.int m), c, none, none]) rfl (fun H2 k2 h2 => ⟨11, none, by decide, by decide, rfl⟩) (fun j x σ' G' H2 hx s2 h2 hp => ?_) (fun σ' G' H2 s2 h2 hp => ?_)
    · obtain ⟨m, c, hm0, hm1, rfl⟩ := hp
      obtain ⟨i, hi, rfl⟩ := getInt hx
      show tSeq _ _ (Ends.mk _ _ _ _) [some (.ref p), some (.int m), some (.int i), none, none] _
      have e1 : CMul m 69069 := .inr ⟨by decide, by decide⟩
      have e2 : CMul i 31 := .inr ⟨by decide, by decide⟩
      refine q_setV st h2 (ev_opV (ev_cbV (ea_consV (ev_opV (ev_opV (ev_opV (ev_var rfl) ev_c (v_mul st e1)) (ev_opV (ev_var rfl) ev_c (v_mul st e2)) (v_add st)) ev_c (v_add st)) ea_nilV) (c_int st)) ev_c (v_mod st (by decide))) fun H3 k3 h3 => ?_
      refine q_end ⟨G', s2, st.wk h3 (by omega), _, _, Int.emod_nonneg _ (by decide), Int.emod_lt_of_pos _ (by decide), rfl⟩
    · obtain ⟨m, c, hm0, hm1, rfl⟩ := hp
      walk_at "qn"
      refine q_set h2 (ev_lcL (c1 := 0) st (fun j => IsV (.int (if ns.getD j 0 < 0 then -ns.getD j 0 else ns.getD j 0))) (ev_var rfl) (s2.seq hq) (by rw [List.length_map]; exact hl) (fun j x G2 hx s3 => ?_) (fun x => rfl)) fun v G3 H3 s3 hv => ?_
      · obtain ⟨i, hi, rfl⟩ := getInt hx
        have e : ns.getD j 0 = i := by rw [List.getD_eq_getElem?_getD, hi]; rfl
        rw [e]
        exact ev_cbV (ea_consV (ev_var rfl) ea_nilV) (c_abs st)
      · obtain ⟨pl, rfl, hpl⟩ := isLR_V (K := K) hv.lr
        rw [mapRange (ns := ns) (fun i => if i < 0 then -i else i) _ (by rw [List.length_map]) (fun j i h => by rw [List.getD_eq_getElem?_getD, h]; rfl)] at hpl
        generalize hc : ns.map (fun i : Int => if i < 0 then -i else i) = cs at hpl
        have lc : cs.length = ns.length := by rw [← hc, List.length_map]
        have cp : ∀ c ∈ cs, 0 ≤ c := by
          intro c h
          rw [← hc] at h
          obtain ⟨i, _, rfl⟩ := List.mem_map.mp h
          show 0 ≤ (if i < 0 then -i else i)
          split <;> omega
        walk_at "qn"
        show tDisp _ _ _ Q
        intro sa hsa
        have sH3 : Same H H3 := s3.s.h
        have sA : Same G3 (upd H3 sa (.dK [])) := fun b o e => by
          rw [upd_ne (ne_of_none (s3.s.s b o e) hsa)]
          exact s3.s.s b o e
        have stA := stab0 G3 (upd H3 sa (.dK []))
        have hA : SP0 G3 (upd H3 sa (.dK [])) 0 G3 (upd H3 sa (.dK [])) := Grow.refl sA
        unfold tPairs
        refine tC_run ?_
        show tLc _ _ _ _ _ _ _ _
        refine ev_lcR (c1 := 0) stA (fun j => IsV (.int (cs.getD (cs.length - 1 - j) 0))) (ea_consV (ev_cbV (ea_consV (ev_var rfl) ea_nilV) (c_lenL stA hpl)) ea_nilV) (by omega) (by rw [List.length_map]; omega) (fun j G4 hj s4 => ?_) (fun x => rfl) G3 _ (Same.refl _) hA _ fun v G4 H4 s4 hv4 => ?_
        · rw [List.length_map] at hj
          exact ev_opV (ev_var rfl) (ev_opV (ev_opV (ev_cbV (ea_consV (ev_var rfl) ea_nilV) (c_lenL stA (s4.seq hpl))) ev_c (v_sub stA)) (ev_var rfl) (v_sub stA)) (v_ixL stA (s4.seq hpl) (getRev (by omega)))
        · obtain ⟨cl, ys, rfl, f4, h4, l4, r4⟩ := hv4
          have hsa4 : H4 sa = some (.dK []) := s4.k.k sa _ (fun z => z) upd_same
          have l5 : ys.length = cs.length := by rw [l4, Int.toNat_natCast, List.length_map]
          have ecl : ys = ((List.range cs.length).map fun j => cs.getD (cs.length - 1 - j) 0).map V.int := by
            refine List.ext_getElem? fun j => ?_
            by_cases hj : j < cs.length
            · have q1 : ys[j]? = some ys[j] := List.getElem?_eq_getElem (by omega)
              rw [q1, show ys[j] = V.int (cs.getD (cs.length - 1 - j) 0) from r4 j _ q1, List.getElem?_map, List.getElem?_map, List.getElem?_range hj]
              rfl
            · rw [List.getElem?_eq_none (by omega), List.getElem?_eq_none (by rw [List.length_map, List.length_map, List.length_range]; omega)]
          have hcl : H4 cl = some (.lst (((List.range cs.length).map fun j => cs.getD (cs.length - 1 - j) 0).map V.int)) := by
            rw [← ecl]
            exact (stA.sub s4.s) _ _ h4
          have nsa : cl ≠ sa := fun z => by
            rw [z, hsa4] at hcl
            cases hcl
          unfold tPairs
          refine tC_run (tC_run ?_)
          unfold tPairs
          refine tC_run (tVar_run rfl ?_)
          unfold tPairs
          refine tC_run (tC_run ?_)
          unfold tPairs
          refine ⟨hsa4, srcK cl 1 m 0, rfl, (by decide : 4 ≤ 15), ?_⟩
          rw [merge_src]
          refine q sa cl _ (fun b o e => ?_) (sH3.free hsa) ((s2.trans s3.g).free f4) ⟨_, 1, m, 0, upd_same, by rw [upd_ne nsa]; exact hcl, fun c hc => ?_, by decide, hm0, hm1, by decide, by decide⟩
          · have e3 := sH3 b o e
            have nb := ne_of_none e3 hsa
            rw [upd_ne nb]
            exact s4.k.k b o (fun z => z) (by rw [upd_ne nb]; exact e3)
          · obtain ⟨j, hj, rfl⟩ := List.mem_map.mp hc
            have := List.mem_range.mp hj
            rw [List.getD_eq_getElem?_getD, List.getElem?_eq_getElem (by omega)]
            exact cp _ (List.getElem_mem _)
abbrev s__law_pick : Stmt := top 33
theorem sc__law_pick : FnScope ["_law_source_here", "_law_many", "_law_cells", "_law_left", "_law_turn", "_law_mixed"] ["_law_source_here", "_law_many"] (defScope s__law_pick) := ⟨rfl, rfl, rfl, by decide +kernel, rfl, by decide +kernel, by decide +kernel⟩
theorem kp_upd {S : SR} {H J : Hp} {a : Addr} {o : HO} (k : Kp S H J) (m : S.m a) : Kp S H (upd J a o) := ⟨fun b u nm e => by
  rw [upd_ne (fun z => nm (by rw [z]; exact m))]
  exact k.k b u nm e, fun b e => by
  by_cases hb : b = a
  · rw [hb, upd_same] at e
    cases e
  · rw [upd_ne hb] at e
    exact k.v b e⟩
theorem src_end {sa cl : Addr} {n : Nat} {G H F : Hp} (sG : Same G H) (gs : G sa = none) (gc : G cl = none) (k : Kp (Src sa cl) H F) (h : SrcAt sa cl n F) : Stp (Src sa cl) n G H G F :=
  ⟨Same.refl _, k, ⟨fun b o e => k.k b o (fun z => by
    rcases z with z | z
    · rw [z, gs] at e
      cases e
    · rw [z, gc] at e
      cases e) (sG b o e), gs, gc, h⟩, fun _ _ e => .inl e⟩
/-- cells are popped until a number is left -/
def PopAt (st cl : Addr) (mx t : Int) (H0 : Hp) (cs : List Int) (l : Int) (H : Hp) : Prop := Kp (Src st cl) H0 H ∧ H st = some (srcD cl l mx t) ∧ H cl = some (.lst (cs.map V.int)) ∧ (∀ c ∈ cs, 0 ≤ c) ∧ 0 ≤ l
theorem ok_pick {f : Addr} {fd : FuncData} (Z : Bi mg) (F : Fun K "_law_pick" "_law_pick" s__law_pick f fd) : FnOk P w K mg base CX0 1 f fd ["_law_source_here", "_law_many"] sp_pick := by
  refine F.ok sc__law_pick (fun vs H Q E h => ?_) (fun cdv A outer s H vs Q E hr h => ?_)
  · obtain ⟨_, _, _, _, _, _, _, ⟨_, rfl, _⟩, _⟩ := h
    rfl
  · obtain ⟨sa, cl, n, k, G, R, hS, ⟨many, rfl, hm1, hm2, rfl, rfl⟩, q⟩ := h
    refine ⟨_, (pss_cons (ps_if (pt_cmpR op_ltA (pv 1) pe_int (nomark _)) (pss_cons (ps_ret pe_int)
  pss_nil) pss_nil)
  (pss_cons (ps_set (i := 2) sc__law_pick.nd rfl (Or.inl rfl) (pe_ix (ix_any K (hu_of hr)) (pv 0) pe_str (fun _ _ => rfl)))
  (pss_cons (ps_while PassesOwn.never (PW.pt (pw_and (pt_cmpR op_ltA (pe_ix (ix_any K (hu_of hr)) (pv 0) pe_str (fun _ _ => rfl)) pe_int (nomark _)) (pw_and1 (pt_cmpR op_gtA (pe_callB (call_lenA K) (by rfl) Z.z_len PySem.boot_len (pa_cons (pv 2) pa_nil)) pe_int (nomark _))))) (pss_cons (ps_asg (pe_bm0 PySem.F.plainAttrs_list PySem.F.slot_list_pop PySem.F.type_list_pop mt_pop (pv 2)) (pg_sub (pv 0) pe_str (set_any (hu_of hr))))
  pss_nil))
  (pss_cons (ps_set (i := 3) sc__law_pick.nd rfl (Or.inl rfl) (pe_ix (ix_any K (hu_of hr)) (pv 0) pe_str (fun _ _ => rfl)))
  (pss_cons (ps_if (pt_cmpR op_gtA (pv 3) pe_int (nomark _)) (pss_cons (ps_asg (pe_op op_divA (pv 3) (pv 1)) (pg_sub (pv 0) pe_str (set_any (hu_of hr))))
  (pss_cons (ps_ret (pe_op op_modA (pe_callTy call_intA (by rfl) Z.z_int (by decide +kernel) (pa_cons (pv 3) pa_nil)) (pv 1)))
  pss_nil)) pss_nil)
  (pss_cons (ps_asg (pe_op op_addA (pe_ix (ix_any K (hu_of hr)) (pv 0) pe_str (fun _ _ => rfl)) pe_int) (pg_sub (pv 0) pe_str (set_any (hu_of hr))))
  (pss_cons (ps_set (i := 4) sc__law_pick.nd rfl (Or.inl rfl) (pe_ix (ix_any K (hu_of hr)) (pv 0) pe_str (fun _ _ => rfl)))
  (pss_cons (ps_set (i := 5) sc__law_pick.nd rfl (Or.inl rfl) (pe_op op_modA (pe_callTy call_intA (by rfl) Z.z_int (by decide +kernel) (pa_cons (pe_op op_addA (pe_ix (ix_any K (hu_of hr)) (pv 0) pe_str (fun _ _ => rfl)) (pe_op op_mulA (pv 4) pe_int)) pa_nil)) pe_int))
  (pss_cons (ps_set (i := 5) sc__law_pick.nd rfl (Or.inl rfl) (pe_op op_modA (pe_callTy call_intA (by rfl) Z.z_int (by decide +kernel) (pa_cons (pe_op op_addA (pe_op op_mulA (pv 5) (pv 5)) (pe_op op_mulA (pv 4) pe_int)) pa_nil)) pe_int))
  (pss_cons (ps_if (pt_cmpR op_gtA (pv 1) (pe_op op_pow pe_int pe_int) (nomark _)) (pss_cons (ps_set (i := 5) sc__law_pick.nd rfl (Or.inl rfl) (pe_op op_pow (pe_callTy call_intA (by rfl) Z.z_int (by decide +kernel) (pa_cons (pe_op op_addA (pe_op op_mulA (pv 5) pe_int) (pv 4)) pa_nil)) pe_int))
  pss_nil) pss_nil)
  (pss_cons (ps_ret (pe_op op_modA (pe_callTy call_intA (by rfl) Z.z_int (by decide +kernel) (pa_cons (pe_op op_divA (pv 5) pe_int) pa_nil)) (pv 1)))
  pss_nil))))))))))), ?_⟩
    obtain ⟨sG, gs, gc, cs, l, mx, t, hsa, hcl, hcs, hl0, hx0, hx1, ht0, ht1⟩ := hS
    have nsc : sa ≠ cl := ne_of hsa hcl (by intro z; cases z)
    have st := stab0 H H
    have h0 : SP0 H H 0 H H := Grow.refl (Same.refl H)
    show tSeq _ _ (Ends.mk _ _ _ _) [some _, some _, none, none, none, none] _
    refine q_if st h0 (et_testV (ev_opV (ev_var rfl) ev_c (v_lt st))) (fun H1 p k1 h1 => ?_) (fun H1 p k1 h1 => ?_)
    · refine q_retV st h1 ev_c fun H2 k2 h2 => ?_
      have p : many < 2 := by simpa using p
      have kk := k1.trans k2
      refine q _ G H2 ⟨Same.refl _, ⟨fun b o _ e => kk.k b o (fun z => z) e, kk.v⟩, ⟨fun b o e => h2.s _ _ (sG b o e), gs, gc, cs, l, mx, t, h2.s _ _ hsa, h2.s _ _ hcl, hcs, hl0, hx0, hx1, ht0, by omega⟩, fun _ _ e => .inl e⟩ ⟨0, ⟨by decide, .inr ⟨p, rfl⟩⟩, rfl⟩
    · have p : 2 ≤ many := by simpa using p
      refine q_end ?_
      refine q_setV st h1 (ev_opV (ev_var rfl) ev_c (v_ixDs st hsa src_c)) fun H2 k2 h2 => ?_
      have hPop : PopAt sa cl mx t H cs l H2 := ⟨⟨fun b o _ e => (k1.trans k2).k b o (fun z => z) e, (k1.trans k2).v⟩, h2.s _ _ hsa, h2.s _ _ hcl, hcs, hl0⟩
      clear hsa hcl
      refine ⟨fun m σ' J => σ' = [some (.ref sa), some (.int many), some (.ref cl), none, none, none] ∧ ∃ cs l, m = cs.length ∧ PopAt sa cl mx t H cs l J, ⟨cs.length, rfl, cs, l, rfl, hPop⟩, ?_⟩
      clear hPop hcs hl0 cs l
      rintro m σ' J ⟨rfl, cs, l, rfl, kJ, hsa, hcl, hcs, hl0⟩
      have stJ := stab0 J J
      have hJ : SP0 J J 0 J J := Grow.refl (Same.refl J)
      refine et_and stJ (et_testV (ev_opV (ev_opV (ev_var rfl) ev_c (v_ixDs stJ hsa src_l)) ev_c (v_lt stJ))) (fun _ => et_testV (ev_opV (ev_cbV (ea_consV (ev_var rfl) ea_nilV) (c_lenL stJ (SqL.of hcl))) ev_c (v_gt stJ))) J J (Same.refl _) hJ _ fun b G2 J2 s2 e => ?_
      have sJ := s2.same
      have kJ2 : Kp (Src sa cl) H J2 := kJ.trans ⟨fun b o _ e => sJ b o e, fun b h => sJ.free h⟩
      have hsa2 := sJ _ _ hsa
      have hcl2 := sJ _ _ hcl
      cases b with
      | true =>
        rw [if_pos rfl]
        have e := (Bool.and_eq_true _ _).mp e.symm
        have e1 : 0 < cs.length := by have := e.2; simpa using this
        refine ⟨fun σ3 J3 => ∃ m', m' < cs.length ∧ σ3 = [some (.ref sa), some (.int many), some (.ref cl), none, none, none] ∧ ∃ cs l, m' = cs.length ∧ PopAt sa cl mx t H cs l J3, fun _ _ z => z, ?_⟩
        have ed : (cs.map V.int).dropLast = cs.dropLast.map V.int := by rw [List.map_dropLast]
        have hy : (cs.map V.int)[(cs.map V.int).length - 1]? = some (.int (cs.getD (cs.length - 1) 0)) := by
          rw [List.length_map, List.getElem?_map, List.getElem?_eq_getElem (by omega), List.getD_eq_getElem?_getD, List.getElem?_eq_getElem (by omega)]
          rfl
        refine ⟨_, rfl, .inl ⟨rfl, _, SqL.of hcl2⟩, cl, _, _, rfl, rfl, hcl2, hy, ?_⟩
        rw [ed]
        have hs3 : upd J2 cl (.lst (cs.dropLast.map V.int)) sa = some (srcD cl l mx t) := by rw [upd_ne nsc]; exact hsa2
        refine ⟨_, rfl, tC_run (.inr ⟨sa, _, rfl, DPut.k (k := .inr ("left" : Str)) hs3 src_len, ?_⟩)⟩
        rw [put_l]
        refine ⟨cs.length - 1, by omega, rfl, cs.dropLast, cs.getD (cs.length - 1) 0, by rw [List.length_dropLast], kp_upd (kp_upd kJ2 (.inr rfl)) (.inl rfl), upd_same, by rw [upd_ne (Ne.symm nsc)]; exact upd_same, fun c hc => hcs c (List.dropLast_subset _ hc), ?_⟩
        rw [List.getD_eq_getElem?_getD, List.getElem?_eq_getElem (by omega)]
        exact hcs _ (List.getElem_mem _)
      | false =>
        rw [if_neg (by decide)]
        have e : 2 ≤ l ∨ cs = [] := by
          by_cases h2 : l < 2
          · simp [h2] at e
            exact .inr e
          · exact .inl (by omega)
        generalize hB : J2 = B at *
        have stB := stab0 B B
        have hB : SP0 B B 0 B B := Grow.refl (Same.refl B)
        refine q_setV stB hB (ev_opV (ev_var rfl) ev_c (v_ixDs stB hsa2 src_l)) fun C1 kc1 hc1 => ?_
        refine q_if stB hc1 (et_testV (ev_opV (ev_var rfl) ev_c (v_gt stB))) (fun C2 p2 kc2 hc2 => ?_) (fun C2 p2 kc2 hc2 => ?_)
        · have p2 : 1 < l := by simpa using p2
          refine (ev_opV (ev_var rfl) (ev_var rfl) (v_divW stB (wide_div (b := 2000) (by omega) (by omega) (by decide) (by decide)))) B C2 (Same.refl _) hc2 _ fun v G3 C3 s3 ev => ?_
          obtain rfl : v = _ := ev
          have s3 := s3.same
          have hsa3 : C3 sa = some (srcD cl l mx t) := s3 _ _ (hc2.s _ _ hsa2)
          refine ⟨_, rfl, tC_run (.inr ⟨sa, _, rfl, DPut.k (k := .inr ("left" : Str)) hsa3 src_len, ?_⟩)⟩
          rw [put_l]
          show tSeq _ _ (Ends.mk _ _ _ _) [some (.ref sa), some (.int many), some (.ref cl), some (.int l), none, none] (upd C3 sa (srcD cl (l / many) mx t))
          have kE : Kp (Src sa cl) H (upd C3 sa (srcD cl (l / many) mx t)) := kp_upd ((kJ2.trans (Kp.of hc2.s)).trans (Kp.of s3)) (.inl rfl)
          have hE1 : upd C3 sa (srcD cl (l / many) mx t) sa = some (srcD cl (l / many) mx t) := upd_same
          have hE2 : upd C3 sa (srcD cl (l / many) mx t) cl = some (.lst (cs.map V.int)) := by
            rw [upd_ne (Ne.symm nsc)]
            exact s3 _ _ (hc2.s _ _ hcl2)
          generalize upd C3 sa (srcD cl (l / many) mx t) = C at *
          have stE := stab0 C C
          have hE : SP0 C C 0 C C := Grow.refl (Same.refl C)
          refine q_retV stE hE (ev_opV (ev_cbV (ea_consV (ev_var rfl) ea_nilV) (c_int stE)) (ev_var rfl) (v_mod stE (j := many) (by omega))) fun F kf hf => ?_
          exact q _ G F (src_end sG gs gc (kE.trans (Kp.of hf.s)) ⟨cs, _, mx, t, hf.s _ _ hE1, hf.s _ _ hE2, hcs, Int.ediv_nonneg hl0 (by omega), hx0, hx1, ht0, by omega⟩) ⟨_, ⟨Int.emod_nonneg _ (by omega), .inl (Int.emod_lt_of_pos _ (by omega))⟩, rfl⟩
        · have p2 : ¬ 1 < l := by simpa using p2
          refine q_end ?_
          refine (ev_opV (ev_opV (ev_var rfl) ev_c (v_ixDs stB hsa2 src_t)) ev_c (v_add stB)) B C2 (Same.refl _) hc2 _ fun v G3 C3 s3 ev => ?_
          obtain rfl : v = _ := ev
          have s3 := s3.same
          have hsa3 : C3 sa = some (srcD cl l mx t) := s3 _ _ (hc2.s _ _ hsa2)
          refine ⟨_, rfl, tC_run (.inr ⟨sa, _, rfl, DPut.k (k := .inr ("turn" : Str)) hsa3 src_len, ?_⟩)⟩
          rw [put_t]
          show tSeq _ _ (Ends.mk _ _ _ _) [some (.ref sa), some (.int many), some (.ref cl), some (.int l), none, none] (upd C3 sa (srcD cl l mx (t + 1)))
          have kE : Kp (Src sa cl) H (upd C3 sa (srcD cl l mx (t + 1))) := kp_upd ((kJ2.trans (Kp.of hc2.s)).trans (Kp.of s3)) (.inl rfl)
          have hE1 : upd C3 sa (srcD cl l mx (t + 1)) sa = some (srcD cl l mx (t + 1)) := upd_same
          have hE2 : upd C3 sa (srcD cl l mx (t + 1)) cl = some (.lst (cs.map V.int)) := by
            rw [upd_ne (Ne.symm nsc)]
            exact s3 _ _ (hc2.s _ _ hcl2)
          generalize upd C3 sa (srcD cl l mx (t + 1)) = C at *
          have stE := stab0 C C
          have hE : SP0 C C 0 C C := Grow.refl (Same.refl C)
          refine q_setV stE hE (ev_opV (ev_var rfl) ev_c (v_ixDs stE hE1 src_t)) fun F1 kf1 hf1 => ?_
          refine q_setV stE hf1 (ev_opV (ev_cbV (ea_consV (ev_opV (ev_opV (ev_var rfl) ev_c (v_ixDs stE hE1 src_m)) (ev_opV (ev_var rfl) ev_c (v_mul stE (.inr ⟨by decide, by decide⟩))) (v_add stE)) ea_nilV) (c_int stE)) ev_c (v_mod stE (by decide))) fun F2 kf2 hf2 => ?_
          have r1 : 0 ≤ (mx + (t + 1) * 104729) % 998244353 := Int.emod_nonneg _ (by decide)
          have r2 : (mx + (t + 1) * 104729) % 998244353 < 998244353 := Int.emod_lt_of_pos _ (by decide)
          generalize (mx + (t + 1) * 104729) % 998244353 = m1 at *
          refine q_setV stE hf2 (ev_opV (ev_cbV (ea_consV (ev_opV (ev_opV (ev_var rfl) (ev_var rfl) (v_mul stE (.inl ⟨by omega, by omega⟩))) (ev_opV (ev_var rfl) ev_c (v_mul stE (.inr ⟨by decide, by decide⟩))) (v_add stE)) ea_nilV) (c_int stE)) ev_c (v_mod stE (by decide))) fun F3 kf3 hf3 => ?_
          have r3 : 0 ≤ (m1 * m1 + (t + 1) * 17) % 2147483647 := Int.emod_nonneg _ (by decide)
          have r4 : (m1 * m1 + (t + 1) * 17) % 2147483647 < 2147483647 := Int.emod_lt_of_pos _ (by decide)
          generalize (m1 * m1 + (t + 1) * 17) % 2147483647 = m2 at *
          refine q_if stE hf3 (et_testV (ev_opV (ev_var rfl) (ev_opV ev_c ev_c (v_pow stE ⟨by decide, by decide, by decide⟩)) (v_gt stE))) (fun F4 p4 kf4 hf4 => ?_) (fun F4 p4 kf4 hf4 => ?_)
          · have p4 : (10 : Int) ^ (7 : Nat) < many := of_decide_eq_true p4.symm
            have nb : n < 2 ^ 60 := hm2 p4
            refine q_setV stE hf4 (ev_opV (ev_cbV (ea_consV (ev_opV (ev_opV (ev_var rfl) ev_c (v_mul stE (.inr ⟨by decide, by decide⟩))) (ev_var rfl) (v_add stE)) ea_nilV) (c_int stE)) ev_c (v_pow stE ⟨by decide, by decide, ?_⟩)) fun F5 kf5 hf5 => ?_
            · omega
            · refine q_end ?_
              refine q_retV stE hf5 (ev_opV (ev_cbV (ea_consV (ev_opV (ev_var rfl) ev_c (v_div stE ⟨by decide, by decide⟩)) ea_nilV) (c_int stE)) (ev_var rfl) (v_mod stE (by omega))) fun F6 kf6 hf => ?_
              exact q _ G F6 (src_end sG gs gc (kE.trans (Kp.of hf.s)) ⟨cs, _, mx, t + 1, hf.s _ _ hE1, hf.s _ _ hE2, hcs, hl0, hx0, hx1, by omega, by omega⟩) ⟨_, ⟨Int.emod_nonneg _ (by omega), .inl (Int.emod_lt_of_pos _ (by omega))⟩, rfl⟩
          · refine q_end ?_
            refine q_retV stE hf4 (ev_opV (ev_cbV (ea_consV (ev_opV (ev_var rfl) ev_c (v_div stE ⟨by decide, by decide⟩)) ea_nilV) (c_int stE)) (ev_var rfl) (v_mod stE (by omega))) fun F6 kf6 hf => ?_
            exact q _ G F6 (src_end sG gs gc (kE.trans (Kp.of hf.s)) ⟨cs, _, mx, t + 1, hf.s _ _ hE1, hf.s _ _ hE2, hcs, hl0, hx0, hx1, by omega, by omega⟩) ⟨_, ⟨Int.emod_nonneg _ (by omega), .inl (Int.emod_lt_of_pos _ (by omega))⟩, rfl⟩
abbrev s__law_like : Stmt := top 38
theorem sc__law_like : FnScope ["_law_found", "_law_due", "_law_kinds", "_law_key", "_law_k"] ["_law_found", "_law_due"] (defScope s__law_like) := ⟨rfl, rfl, rfl, by decide +kernel, rfl, by decide +kernel, by decide +kernel⟩
theorem ok_like {f : Addr} {fd : FuncData} (Z : Bi mg) (F : Fun K "_law_like" "_law_like" s__law_like f fd) (hmg : mg "_law_like" = some (.ref f)) (hk : PySem.W.keepIn K (.ref f) = true) (hb : Binds K fd ["_law_found", "_law_due"] []) : ∀ N : Nat, FnOk P w K mg base CX0 N f fd ["_law_found", "_law_due"] (spP (PLike K N)) := by
  intro N
  induction N with
  | zero =>
    refine ⟨fun vs H Q E h => ?_, fun A outer s H args us vs Q E hr h0 hb hv h => ?_⟩
    · obtain ⟨_, _, _, ⟨x, y, d, rfl, hd, _⟩, _⟩ := h
      exact absurd hd (Nat.not_lt_zero _)
    · obtain ⟨_, _, _, ⟨x, y, d, rfl, hd, _⟩, _⟩ := h
      exact absurd hd (Nat.not_lt_zero _)
  | succ N ih =>
    have c__law_like : Callee P w K mg base "_law_like" CX0 N ["_law_found", "_law_due"] [] (spP (PLike K N)) := ⟨f, fd, [], hmg, hk, ih, hb, .nil⟩
    refine F.ok sc__law_like (fun vs H Q E h => ?_) (fun cdv A outer s H vs Q E hr h => ?_)
    · obtain ⟨_, _, _, ⟨x, y, d, rfl, _⟩, _⟩ := h
      rfl
    · obtain ⟨G, R, hs, ⟨x, y, d, rfl, hd, hsm, dx, dy, rfl⟩, q⟩ := h
      refine ⟨_, (pss_cons (ps_if (pt_cmpR op_isN (pv 1) pe_non (nomark _)) (pss_cons (ps_ret (pe_cmpR op_isN (pv 0) pe_non (nomark _)))
  pss_nil) pss_nil)
  (pss_cons (ps_set (i := 2) sc__law_like.nd rfl (Or.inl rfl) (pe_lst (pa_cons (pe_cmpR (op_eqA K hr.units) (pe_callB (call_isiA K) (by rfl) Z.z_isinstance (by decide +kernel) (pa_cons (pv 0) (pa_cons (pe_bltn (v := .ty "bool") (by rfl) Z.z_bool (by decide +kernel) rfl) pa_nil))) (pe_callB (call_isiA K) (by rfl) Z.z_isinstance (by decide +kernel) (pa_cons (pv 1) (pa_cons (pe_bltn (v := .ty "bool") (by rfl) Z.z_bool (by decide +kernel) rfl) pa_nil))) (nomark _)) (pa_cons (pe_cmpR (op_eqA K hr.units) (pe_callB (call_isiA K) (by rfl) Z.z_isinstance (by decide +kernel) (pa_cons (pv 0) (pa_cons (pe_bltn (v := .ty "str") (by rfl) Z.z_str (by decide +kernel) rfl) pa_nil))) (pe_callB (call_isiA K) (by rfl) Z.z_isinstance (by decide +kernel) (pa_cons (pv 1) (pa_cons (pe_bltn (v := .ty "str") (by rfl) Z.z_str (by decide +kernel) rfl) pa_nil))) (nomark _)) pa_nil))))
  (pss_cons (ps_expr (pe_bm PySem.F.plainAttrs_list PySem.F.slot_list_append PySem.F.type_list_append mt_append (pv 2) (pa_cons (pe_cmpR (op_eqA K hr.units) (pe_callB (call_isiA K) (by rfl) Z.z_isinstance (by decide +kernel) (pa_cons (pv 0) (pa_cons (pe_bltn (v := .ty "list") (by rfl) Z.z_list (by decide +kernel) rfl) pa_nil))) (pe_callB (call_isiA K) (by rfl) Z.z_isinstance (by decide +kernel) (pa_cons (pv 1) (pa_cons (pe_bltn (v := .ty "list") (by rfl) Z.z_list (by decide +kernel) rfl) pa_nil))) (nomark _)) pa_nil)))
  (pss_cons (ps_expr (pe_bm PySem.F.plainAttrs_list PySem.F.slot_list_append PySem.F.type_list_append mt_append (pv 2) (pa_cons (pe_cmpR (op_eqA K hr.units) (pe_callB (call_isiA K) (by rfl) Z.z_isinstance (by decide +kernel) (pa_cons (pv 0) (pa_cons (pe_bltn (v := .ty "tuple") (by rfl) Z.z_tuple (by decide +kernel) rfl) pa_nil))) (pe_callB (call_isiA K) (by rfl) Z.z_isinstance (by decide +kernel) (pa_cons (pv 1) (pa_cons (pe_bltn (v := .ty "tuple") (by rfl) Z.z_tuple (by decide +kernel) rfl) pa_nil))) (nomark _)) pa_nil)))
  (pss_cons (ps_expr (pe_bm PySem.F.plainAttrs_list PySem.F.slot_list_append PySem.F.type_list_append mt_append (pv 2) (pa_cons (pe_cmpR (op_eqA K hr.units) (pe_callB (call_isiA K) (by rfl) Z.z_isinstance (by decide +kernel) (pa_cons (pv 0) (pa_cons (pe_bltn (v := .ty "dict") (by rfl) Z.z_dict (by decide +kernel) rfl) pa_nil))) (pe_callB (call_isiA K) (by rfl) Z.z_isinstance (by decide +kernel) (pa_cons (pv 1) (pa_cons (pe_bltn (v := .ty "dict") (by rfl) Z.z_dict (by decide +kernel) rfl) pa_nil))) (nomark _)) pa_nil)))
  (pss_cons (ps_if (pt_cmpR (op_inA K (hu_of hr)) pe_bl (pv 2) (by rfl)) (pss_cons (ps_ret pe_bl)
  pss_nil) pss_nil)
  (pss_cons (ps_if (pt_val (pe_callB (call_isiA K) (by rfl) Z.z_isinstance (by decide +kernel) (pa_cons (pv 1) (pa_cons (pe_bltn (v := .ty "dict") (by rfl) Z.z_dict (by decide +kernel) rfl) pa_nil)))) (pss_cons (ps_if (pt_cmpR (op_neA K hr.units) (pe_callTy (call_listA K) (by rfl) Z.z_list (by decide +kernel) (pa_cons (pv 0) pa_nil)) (pe_callTy (call_listA K) (by rfl) Z.z_list (by decide +kernel) (pa_cons (pv 1) pa_nil)) (nomark _)) (pss_cons (ps_ret pe_bl)
  pss_nil) pss_nil)
  (pss_cons (ps_ret (pe_cmpR (op_ninA K (hu_of hr)) pe_bl (pe_lc (own := [("_law_key", 3)]) (g := (gName 3)) rfl sc__law_like.nd (pi_listK K (pv 1)) (blkOk_by (by kernel_rfl)) (fun _ _ _ _ _ => (pg_name (i := 3) sc__law_like.nd rfl (Or.inl rfl))) (fun _ _ _ _ _ => pts_nil) (fun _ _ _ _ _ => (pe_callC c__law_like hr pass0 (pa_cons (pe_ix (ix_any K (hu_of hr)) (pv 0) (pv 3) (fun _ _ => rfl)) (pa_cons (pe_ix (ix_any K (hu_of hr)) (pv 1) (pv 3) (fun _ _ => rfl)) pa_nil))))) (by rfl)))
  pss_nil)) pss_nil)
  (pss_cons (ps_if (pt_val (pe_callB (call_isiTA K) (by rfl) Z.z_isinstance (by decide +kernel) (pa_cons (pv 1) (pa_cons (pe_tup (pa_cons (pe_bltn (v := .ty "list") (by rfl) Z.z_list (by decide +kernel) rfl) (pa_cons (pe_bltn (v := .ty "tuple") (by rfl) Z.z_tuple (by decide +kernel) rfl) pa_nil))) pa_nil)))) (pss_cons (ps_if (pt_cmpR (op_neA K hr.units) (pe_callB (call_lenA K) (by rfl) Z.z_len PySem.boot_len (pa_cons (pv 0) pa_nil)) (pe_callB (call_lenA K) (by rfl) Z.z_len PySem.boot_len (pa_cons (pv 1) pa_nil)) (nomark _)) (pss_cons (ps_ret pe_bl)
  pss_nil) pss_nil)
  (pss_cons (ps_ret (pe_cmpR (op_ninA K (hu_of hr)) pe_bl (pe_lc (own := [("_law_k", 4)]) (g := (gName 4)) rfl sc__law_like.nd (pi_range1 (by rfl) Z.z_range (pa_cons (pe_callB (call_lenA K) (by rfl) Z.z_len PySem.boot_len (pa_cons (pv 1) pa_nil)) pa_nil)) (blkOk_by (by kernel_rfl)) (fun _ _ _ _ _ => (pg_name (i := 4) sc__law_like.nd rfl (Or.inl rfl))) (fun _ _ _ _ _ => pts_nil) (fun _ _ _ _ _ => (pe_callC c__law_like hr pass0 (pa_cons (pe_ix (ix_any K (hu_of hr)) (pv 0) (pv 4) (fun _ _ => rfl)) (pa_cons (pe_ix (ix_any K (hu_of hr)) (pv 1) (pv 4) (fun _ _ => rfl)) pa_nil))))) (by rfl)))
  pss_nil)) pss_nil)
  (pss_cons (ps_ret (pe_cmpR (op_eqA K hr.units) (pv 0) (pv 1) (nomark _)))
  pss_nil))))))))), ?_⟩
      have st := stab0 G H
      have hS : SP0 G H 0 G H := Grow.refl hs
      show tSeq _ _ (Ends.mk _ _ _ _) [some _, some _, none, none, none] _
      refine q_if st hS (et_testV (ev_opV (ev_var rfl) ev_c (v_isN st))) (fun H1 p1 k1 h1 => ?_) (fun H1 p1 k1 h1 => ?_)
      · have p1 : y = .non := of_decide_eq_true p1.symm
        subst p1
        have e : x = .non := by
          cases dy
          cases dx
          rfl
        refine q_retV st h1 (ev_opV (ev_var rfl) ev_c (v_isN st)) fun H2 k2 h2 => ?_
        exact q _ _ _ h2 (by rw [decide_eq_true e]; rfl)
      · have p1 : ¬ y = .non := of_decide_eq_false p1.symm
        refine q_end ?_
        have isi : ∀ {n : Nat} {c : String} {σ : L2.St} {i : Nat} {z : V}, Dp K G z d → c ∈ ["bool", "str", "list", "tuple", "dict", "int"] → σ[i]? = some (some z) → Ev (SP0 G H) n (0 + (0 + 0)) (tCB (rIsi K) (tCons (tVar i) (tCons (tC (.ty c)) tNil))) σ G (IsV (.bl (isiB (tyS d) c))) :=
          fun dz hc hi => ev_cbV (ea_consV (ev_var hi) (ea_consV ev_c ea_nilV)) (c_isiD st dz hc)
        refine q_newL st h1 (ea_consV (ev_opV (isi dx (by decide) rfl) (isi dy (by decide) rfl) (v_eqB st)) (ea_consV (ev_opV (isi dx (by decide) rfl) (isi dy (by decide) rfl) (v_eqB st)) ea_nilV)) (by simp) fun p H2 hp gp k2 h2 e2 => ?_
        refine q_app st h1 hp k2 h2 gp e2 (by simp) rfl (ea_consV (ev_opV (isi dx (by decide) rfl) (isi dy (by decide) rfl) (v_eqB st)) ea_nilV) fun H3 k3 h3 e3 => ?_
        refine q_app st h1 hp k3 h3 gp e3 (by simp) rfl (ea_consV (ev_opV (isi dx (by decide) rfl) (isi dy (by decide) rfl) (v_eqB st)) ea_nilV) fun H4 k4 h4 e4 => ?_
        refine q_app st h1 hp k4 h4 gp e4 (by simp) rfl (ea_consV (ev_opV (isi dx (by decide) rfl) (isi dy (by decide) rfl) (v_eqB st)) ea_nilV) fun H5 k5 h5 e5 => ?_
        obtain ⟨L, hL, e5⟩ : ∃ L, L = _ ∧ H5 p = some (.lst L) := ⟨_, rfl, e5⟩
        obtain ⟨h6, sg⟩ := st_pub st h1 hp h5 gp e5
        have hp6 : upd G p (.lst L) p = some (.lst L) := upd_same
        generalize upd G p (.lst L) = G1 at h6 sg hp6
        change SP0 G H 0 G1 H5 at h6
        replace dx := dp_mon sg dx
        replace dy := dp_mon sg dy
        clear isi
        refine q_if st h6 (et_testV (ev_opV ev_c (ev_var rfl) (v_inL (neg := false) st (SqL.of hp6) rfl (by rw [hL]; rfl)))) (fun H7 p7 k7 h7 => ?_) (fun H7 p7 k7 h7 => ?_)
        · exact absurd p7 (by rw [hL]; simp [inV, eqV])
        refine q_end ?_
        refine q_if st h7 (et_B (ev_cbV (ea_consV (ev_var rfl) (ea_consV ev_c ea_nilV)) (c_isiD st dy (by decide)))) (fun H8 p8 k8 h8 => ?_) (fun H8 p8 k8 h8 => ?_)
        · rw [isi_dict dy] at p8
          cases p8
        refine q_end ?_
        refine q_if st h8 (et_B (ev_cb (ea_cons (ev_var rfl) (ea_cons (ev_tupN st (ea_consV ev_c (ea_consV ev_c ea_nilV)) (by simp)) ea_nil)) (R := IsV (.bl (isiB (tyS d) "list" || isiB (tyS d) "tuple"))) fun vs G2 s2 e => ?_)) (fun H9 p9 k9 h9 => ?_) (fun H9 p9 k9 h9 => ?_)
        · obtain ⟨_, _, rfl, e1, _, _, rfl, ⟨tp, rfl, _, ht⟩, e3⟩ := e
          obtain rfl := (show _ = _ from e1)
          obtain rfl := (show _ = _ from e3)
          exact c_isiLT st (dp_mon s2 dy) ht
        · have p9 := p9.symm
          obtain ⟨ds, px, xs, hds, rfl, hx, ax⟩ := dp_seq dx p9
          obtain ⟨ds2, py, ys, hds2, rfl, hy, ay⟩ := dp_seq dy p9
          obtain rfl : ds2 = ds := by
            rcases hds with rfl | rfl <;> rcases hds2 with e | e <;> cases e <;> rfl
          obtain ⟨hlen, hsub⟩ := hsm.len hds
          have lx := dpAll_len ax
          have ly := dpAll_len ay
          refine q_if st h9 (et_testV (ev_opV (ev_cbV (ea_consV (ev_var rfl) ea_nilV) (c_lenQ st hx)) (ev_cbV (ea_consV (ev_var rfl) ea_nilV) (c_lenQ st hy)) (v_neI st))) (fun H10 p10 k10 h10 => ?_) (fun H10 p10 k10 h10 => ?_)
          · rw [lx, ly] at p10
            simp at p10
          refine q_end ?_
          refine q_ret h10 (R := IsV (.bl true)) (ev_op ev_c (ev_lcR (c1 := 0) st (fun _ => IsV (.bl true)) (ea_consV (ev_cbV (ea_consV (ev_var rfl) ea_nilV) (c_lenQ st hy)) ea_nilV) (by omega) (by omega) (fun j G2 hj s2 => ?_) (fun x => rfl)) fun a b G2 s2 ea eb => ?_) fun v G2 H11 s3 ev => ?_
          · have hj : j < ds2.length := by omega
            have ej : ds2[j]? = some ds2[j] := List.getElem?_eq_getElem hj
            obtain ⟨xj, exj, dxj⟩ := dpAll_get ax ej
            obtain ⟨yj, eyj, dyj⟩ := dpAll_get ay ej
            refine ev_callV (ws := [xj, yj]) st (ea_consV (ev_opV (ev_var rfl) (ev_var rfl) (v_ixQ st (sq_mon s2 hx) (atI_nat exj))) (ea_consV (ev_opV (ev_var rfl) (ev_var rfl) (v_ixQ st (sq_mon s2 hy) (atI_nat eyj))) ea_nilV)) fun G3 s3 => ?_
            refine ⟨xj, yj, _, rfl, ?_, hsub _ (List.getElem_mem hj), dp_mon (s2.trans s3) dxj, dp_mon (s2.trans s3) dyj, rfl⟩
            have := depth_get ej
            have := depth_seq hds
            omega
          · obtain rfl := (show _ = _ from ea)
            obtain ⟨pl, zs, rfl, _, hz, _, hr⟩ := eb
            have hall : ∀ z ∈ zs, z = V.bl true := fun z hz => by
              obtain ⟨i, hi⟩ := List.getElem?_of_mem hz
              exact hr i z hi
            have e := v_inL (K := K) (x := .bl false) (neg := true) st (SqL.of hz) rfl (inV_all hall).2
            have hi : inV (.bl false) zs = false := (inV_all hall).1
            rw [hi] at e
            exact e
          · exact q _ _ _ s3.s ev
        · have p9 := p9.symm
          rw [Bool.or_eq_false_iff] at p9
          refine q_end ?_
          rcases dp_scal dx p9.1 p9.2 with ⟨rfl, rfl⟩ | ⟨b, rfl, rfl⟩ | ⟨i, rfl, rfl⟩ | ⟨z, rfl, rfl⟩
          · cases dy
            exact absurd rfl p1
          · cases dy
            exact q_retV st h9 (ev_opV (ev_var rfl) (ev_var rfl) (v_eqB st)) fun H10 k10 h10 => q _ _ _ h10 (by simp [IsV])
          · cases dy
            exact q_retV st h9 (ev_opV (ev_var rfl) (ev_var rfl) (v_eqI st)) fun H10 k10 h10 => q _ _ _ h10 (by simp [IsV])
          · cases dy
            exact q_retV st h9 (ev_opV (ev_var rfl) (ev_var rfl) (v_eqS st)) fun H10 k10 h10 => q _ _ _ h10 (by simp [IsV])
abbrev s_Scale___init__ : Stmt := inClass (top 20) 0
theorem sc_Scale___init__ : FnScope ["self", "label", "names", "never_at", "still_at", "depth", "places", "place", "name", "a", "b"] ["self", "label", "names", "never_at", "still_at", "depth"] (defScope s_Scale___init__) := ⟨rfl, rfl, rfl, by decide +kernel, rfl, by decide +kernel, by decide +kernel⟩
theorem ok_Scale_init {C : Addr} {PT PJ : List V → Hp → HR → Prop} (Z : Bi mg) (hC : Cls K C) (hN : ∀ f ∈ scF, NoAttr K C f) (c_then : Method P w K mg base C "make_then" CX0 5 ["self", "first", "second"] [] (spP PT)) (c_join : Method P w K mg base C "make_join" CX0 5 ["self", "first", "second"] [] (spP PJ))
    {f : Addr} {fd : FuncData} (F : FunD K "__init__" "Scale.__init__" (defArgs s_Scale___init__) (defBody s_Scale___init__) (defScope s_Scale___init__) [.int 1] [] f fd) : FnOk P w K mg base CX0 6 f fd ["self", "label", "names", "never_at", "still_at", "depth"] (spI (PScI K C PT PJ)) := by
  refine okD F sc_Scale___init__ (fun vs H Q E h => ?_) (fun cdv A outer s H vs Q E hr h => ?_)
  · obtain ⟨x, C', dx, fs, rest, G, R, rfl, _, _, _, ⟨_, label, pn, names, nv, sl, dep, th, jn, rfl, _⟩, _⟩ := h
    rfl
  · obtain ⟨x, C', dx, fs, rest, G, R, rfl, hx, hG, gx, ⟨rfl, label, pn, names, nv, sl, dep, th, jn, rfl, hq, hnl, hnd, hfl, hm1, hm2, hM, rfl⟩, q⟩ := h
    refine ⟨_, (pss_cons (ps_fld (pv 0) (pv 1) rfl)
  (pss_cons (ps_fld (pv 0) (pe_callB (call_lenA K) (by rfl) Z.z_len PySem.boot_len (pa_cons (pv 2) pa_nil)) rfl)
  (pss_cons (ps_fld (pv 0) (pv 3) rfl)
  (pss_cons (ps_fld (pv 0) (pv 4) rfl)
  (pss_cons (ps_fld (pv 0) (pv 5) rfl)
  (pss_cons (ps_fld (pv 0) (pe_callTy (call_tupleA K) (by rfl) Z.z_tuple (by decide +kernel) (pa_cons (pv 2) pa_nil)) rfl)
  (pss_cons (ps_fld (pv 0) (pe_dc (own := [("place", 7), ("name", 8)]) (g := (gTup _ 2 (gCons (gName 7) (gCons (gName 8) gNil)))) rfl sc_Scale___init__.nd (pi_enum (by rfl) Z.z_enumerate (pa_cons (pv 2) pa_nil)) (blkOk_by (by kernel_rfl)) (fun _ _ _ _ _ => (pg_tup rfl (pgs_cons (pg_name (i := 7) sc_Scale___init__.nd rfl (Or.inl rfl)) (pgs_cons (pg_name (i := 8) sc_Scale___init__.nd rfl (Or.inl rfl)) pgs_nil)))) (fun _ _ _ _ _ => pts_nil) (fun _ _ _ _ _ => (pv 8)) (fun _ _ _ _ _ => (pv 7))) rfl)
  (pss_cons (ps_set (i := 6) sc_Scale___init__.nd rfl (Or.inr rfl) (pe_listRg rfl (by rfl) Z.z_list (prg_1 (by rfl) Z.z_range (pe_callB (call_lenA K) (by rfl) Z.z_len PySem.boot_len (pa_cons (pv 2) pa_nil)))))
  (pss_cons (ps_fld (pv 0) (pe_callTy (call_tupleA K) (by rfl) Z.z_tuple (by decide +kernel) (pa_cons (pe_lc (own := [("a", 9)]) (g := (gName 9)) rfl sc_Scale___init__.nd (pi_listK K (pv 6)) (blkOk_by (by kernel_rfl)) (fun _ _ _ _ _ => (pg_name (i := 9) sc_Scale___init__.nd rfl (Or.inr rfl))) (fun _ _ _ _ _ => pts_nil) (fun _ _ _ _ _ => (pe_callTy (call_tupleA K) (by rfl) Z.z_tuple (by decide +kernel) (pa_cons (pe_lc (own := [("b", 10)]) (g := (gName 10)) rfl sc_Scale___init__.nd (pi_listK K (pv 6)) (blkOk_by (by kernel_rfl)) (fun _ _ _ _ _ => (pg_name (i := 10) sc_Scale___init__.nd rfl (Or.inl rfl))) (fun _ _ _ _ _ => pts_nil) (fun _ _ _ _ _ => (pe_methC c_then (hr.mono (by decide)) pass0 (pv 0) (pa_cons (pv 9) (pa_cons (pv 10) pa_nil))))) pa_nil)))) pa_nil)) rfl)
  (pss_cons (ps_fld (pv 0) (pe_callTy (call_tupleA K) (by rfl) Z.z_tuple (by decide +kernel) (pa_cons (pe_lc (own := [("a", 9)]) (g := (gName 9)) rfl sc_Scale___init__.nd (pi_listK K (pv 6)) (blkOk_by (by kernel_rfl)) (fun _ _ _ _ _ => (pg_name (i := 9) sc_Scale___init__.nd rfl (Or.inr rfl))) (fun _ _ _ _ _ => pts_nil) (fun _ _ _ _ _ => (pe_callTy (call_tupleA K) (by rfl) Z.z_tuple (by decide +kernel) (pa_cons (pe_lc (own := [("b", 10)]) (g := (gName 10)) rfl sc_Scale___init__.nd (pi_listK K (pv 6)) (blkOk_by (by kernel_rfl)) (fun _ _ _ _ _ => (pg_name (i := 10) sc_Scale___init__.nd rfl (Or.inl rfl))) (fun _ _ _ _ _ => pts_nil) (fun _ _ _ _ _ => (pe_methC c_join (hr.mono (by decide)) pass0 (pv 0) (pa_cons (pv 9) (pa_cons (pv 10) pa_nil))))) pa_nil)))) pa_nil)) rfl)
  pss_nil)))))))))), ?_⟩
    have n1 : ∀ {f : Str}, f ∈ scF → NoAttr K C' f := fun h => hN _ h
    have l0 : names.map V.str = names.map V.str := rfl
    have ll : ((names.map V.str).length : Int) = (names.length : Nat) := by rw [List.length_map]
    have h0 := own_start (o := .ins C' dx fs) hG gx hx 0
    show tSeq _ _ (Ends.mk _ _ _ _) [some _, some _, some _, some _, some _, some _, none, none, none, none, none] _
    refine q_fldV h0 (ev_var rfl) rfl hC (n1 (by decide)) (by omega) fun H1 h1 => ?_
    have z1 := putF_len ("label" : Str) (.str label) fs
    have st := stabO G H x (.ins C' dx (putF ("label" : Str) (.str label) fs))
    refine q_fldV h1 (ev_cbV (ea_consV (ev_var rfl) ea_nilV) (c_lenL st hq)) rfl hC (n1 (by decide)) (by omega) fun H2 h2 => ?_
    rw [ll] at h2
    generalize e2 : putF ("size" : Str) (.int (names.length : Nat)) (putF ("label" : Str) (.str label) fs) = f2 at h2
    have z2 : f2.length ≤ fs.length + 2 := by rw [← e2]; exact Nat.le_trans (putF_len _ _ _) (by omega)
    refine q_fldV h2 (ev_var rfl) rfl hC (n1 (by decide)) (by omega) fun H3 h3 => ?_
    generalize e3 : putF ("never_at" : Str) (.int nv) f2 = f3 at h3
    have z3 : f3.length ≤ fs.length + 3 := by rw [← e3]; exact Nat.le_trans (putF_len _ _ _) (by omega)
    refine q_fldV h3 (ev_var rfl) rfl hC (n1 (by decide)) (by omega) fun H4 h4 => ?_
    generalize e4 : putF ("still_at" : Str) (.int sl) f3 = f4 at h4
    have z4 : f4.length ≤ fs.length + 4 := by rw [← e4]; exact Nat.le_trans (putF_len _ _ _) (by omega)
    refine q_fldV h4 (ev_var rfl) rfl hC (n1 (by decide)) (by omega) fun H5 h5 => ?_
    generalize e5 : putF ("depth" : Str) (.int dep) f4 = f5 at h5
    have z5 : f5.length ≤ fs.length + 5 := by rw [← e5]; exact Nat.le_trans (putF_len _ _ _) (by omega)
    have st5 := stabO G H x (.ins C' dx f5)
    refine q_fldO h5 (ev_cbV (ea_consV (ev_var rfl) ea_nilV) (c_tupN st5 hq)) rfl hC (n1 (by decide)) (by omega) fun v6 G6 H6 s6 h6 r6 => ?_
    obtain ⟨p6, rfl, _, g6⟩ := r6
    generalize e6 : putF ("worth_names" : Str) (.ref p6) f5 = f6 at h6
    have z6 : f6.length ≤ fs.length + 6 := by rw [← e6]; exact Nat.le_trans (putF_len _ _ _) (by omega)
    have st6 := stabO G H x (.ins C' dx f6)
    refine q_fldO h6 (ev_dcE st6 (ea_consV (ev_var rfl) ea_nilV) (s6.seq hq) (by omega) hnd (by decide) (Nat.le_of_ble_eq_true rfl) (Nat.le_of_ble_eq_true rfl) (fun _ _ => rfl)) rfl hC (n1 (by decide)) (by omega) fun v7 G7 H7 s7 h7 r7 => ?_
    obtain ⟨p7, rfl, _, g7⟩ := r7
    generalize e7 : putF ("worth_places" : Str) (.ref p7) f6 = f7 at h7
    have z7 : f7.length ≤ fs.length + 7 := by rw [← e7]; exact Nat.le_trans (putF_len _ _ _) (by omega)
    have st7 := stabO G H x (.ins C' dx f7)
    have s67 := s6.trans s7
    refine q_set h7 (ev_listRg st7 (ev_cbV (ea_consV (ev_var rfl) ea_nilV) (c_lenL st7 (s67.seq hq))) (by omega) (by rw [ll]; omega)) fun v8 G8 H8 s8 r8 => ?_
    obtain ⟨p8, rfl, _, g8⟩ := r8
    rw [ll, Int.toNat_natCast] at g8
    have off7 : ∀ f, f ∉ scF → f7.lookup f = fs.lookup f := fun f hf => by
      rw [← e7, ← e6, ← e5, ← e4, ← e3, ← e2]
      iterate 7 rw [lk_off hf (by decide)]
    have s08 := s67.trans s8.g
    refine q_fldO s8.s (ev_look (R := IsTN names.length fun i => IsTN names.length fun j => IsV (.int (th i j))) (fun G1 s1 x1 => ev_table stabA upd_same (by rw [off7 _ (by decide)]; exact hm1) (by rw [upd_ne (ne_of_none (s1 _ _ g8) x1)]; exact s1 _ _ g8) (by omega)
      (fun G' s' a b ha hb => (hM x dx f7 G' (fun c o e => s' c o (by rw [upd_ne (ne_of_none (s1 _ _ (s08 _ _ e)) x1)]; exact s1 _ _ (s08 _ _ e))) (s' _ _ upd_same) off7 a b ha hb).1)) (fun v G2 r z => tab_del r z)) rfl hC (n1 (by decide)) (by omega) fun v9 G9 H9 s9 h9 r9 => ?_
    obtain ⟨p9, ys9, rfl, r9⟩ := r9
    have r9 : Tab G9 p9 names.length th := ⟨p9, ys9, rfl, r9⟩
    generalize e9 : putF ("product_table" : Str) (.ref p9) f7 = f9 at h9
    have z9 : f9.length ≤ fs.length + 8 := by rw [← e9]; exact Nat.le_trans (putF_len _ _ _) (by omega)
    have off9 : ∀ f, f ∉ scF → f9.lookup f = fs.lookup f := fun f hf => by
      rw [← e9, lk_off hf (by decide)]
      exact off7 f hf
    have s09 := s08.trans s9
    have g8' := s9 _ _ g8
    refine q_fldO h9 (ev_look (R := IsTN names.length fun i => IsTN names.length fun j => IsV (.int (jn i j))) (fun G1 s1 x1 => ev_table stabA upd_same (by rw [off9 _ (by decide)]; exact hm2) (by rw [upd_ne (ne_of_none (s1 _ _ g8') x1)]; exact s1 _ _ g8') (by omega)
      (fun G' s' a b ha hb => (hM x dx f9 G' (fun c o e => s' c o (by rw [upd_ne (ne_of_none (s1 _ _ (s09 _ _ e)) x1)]; exact s1 _ _ (s09 _ _ e))) (s' _ _ upd_same) off9 a b ha hb).2)) (fun v G2 r z => tab_del r z)) rfl hC (n1 (by decide)) (by omega) fun v10 G10 H10 s10 h10 r10 => ?_
    obtain ⟨p10, ys10, rfl, r10⟩ := r10
    have r10 : Tab G10 p10 names.length jn := ⟨p10, ys10, rfl, r10⟩
    refine q_end (q _ _ _ (own_n h10) ⟨⟨?_, ?_, ?_, ?_, ?_, ⟨p6, ?_, s10 _ _ (s9 _ _ (s8.g _ _ (s7 _ _ g6)))⟩, ⟨p7, ?_, s10 _ _ (s9 _ _ (s8.g _ _ g7))⟩, ⟨p9, ?_, r9.mono s10⟩, ⟨p10, ?_, r10⟩⟩, fun f hf => ?_, ?_⟩)
    · rw [← e9, ← e7, ← e6, ← e5, ← e4, ← e3, ← e2]
      iterate 8 rw [lk_ne (by decide +kernel)]
      exact lk_eq
    · rw [← e9, ← e7, ← e6, ← e5, ← e4, ← e3, ← e2]
      iterate 7 rw [lk_ne (by decide +kernel)]
      exact lk_eq
    · rw [← e9, ← e7, ← e6, ← e5, ← e4, ← e3]
      iterate 6 rw [lk_ne (by decide +kernel)]
      exact lk_eq
    · rw [← e9, ← e7, ← e6, ← e5, ← e4]
      iterate 5 rw [lk_ne (by decide +kernel)]
      exact lk_eq
    · rw [← e9, ← e7, ← e6, ← e5]
      iterate 4 rw [lk_ne (by decide +kernel)]
      exact lk_eq
    · rw [← e9, ← e7, ← e6]
      iterate 3 rw [lk_ne (by decide +kernel)]
      exact lk_eq
    · rw [← e9, ← e7]
      iterate 2 rw [lk_ne (by decide +kernel)]
      exact lk_eq
    · rw [← e9, lk_ne (by decide +kernel)]
      exact lk_eq
    · exact lk_eq
    · rw [lk_off hf (by decide)]
      exact off9 f hf
    · exact Nat.le_trans (putF_len _ _ _) (by omega)
abbrev s_Scale_then_at : Stmt := inClass (top 20) 3
theorem sc_Scale_then_at : FnScope ["self", "first", "second"] ["self", "first", "second"] (defScope s_Scale_then_at) := ⟨rfl, rfl, rfl, by decide +kernel, rfl, by decide +kernel, by decide +kernel⟩
theorem ok_then_at {f : Addr} {fd : FuncData} (F : Fun K "then_at" "Scale.then_at" s_Scale_then_at f fd) : FnOk P w K mg base CX0 1 f fd ["self", "first", "second"] (spP (PAt K fun th _ a b => .int (th a b))) := by
  refine F.ok sc_Scale_then_at (fun vs H Q E h => ?_) (fun cdv A outer s H vs Q E hr h => ?_)
  · obtain ⟨G, R, _, ⟨_, _, _, _, _, _, _, _, _, _, rfl, _⟩, _⟩ := h
    rfl
  · obtain ⟨G, R, hs, ⟨label, names, nv, sl, dep, th, jn, x, a, b, rfl, ⟨C, dx, fs, hx, hC, hN, hS⟩, ha, hb, rfl⟩, q⟩ := h
    refine ⟨_, (pss_cons (ps_ret (pe_ix (ix_any K (hu_of hr)) (pe_ix (ix_any K (hu_of hr)) (pe_fldK K (pv 0)) (pv 1) (fun _ _ => rfl)) (pv 2) (fun _ _ => rfl)))
  pss_nil), ?_⟩
    obtain ⟨p, hp, ht⟩ := hS.pro
    have st := stab0 G H
    have h0 : SP0 G H 0 G H := Grow.refl hs
    show tSeq _ _ (Ends.mk _ _ _ _) [some _, some _, some _] _
    exact q_retV st h0 (ev_tab st (ev_fld st (ev_var rfl) hx hC (hN _ (by decide)) hp) ht ha hb rfl rfl) fun H1 k1 h1 => q _ _ _ h1 rfl
abbrev s_Scale_join_at : Stmt := inClass (top 20) 4
theorem sc_Scale_join_at : FnScope ["self", "first", "second"] ["self", "first", "second"] (defScope s_Scale_join_at) := ⟨rfl, rfl, rfl, by decide +kernel, rfl, by decide +kernel, by decide +kernel⟩
theorem ok_join_at {f : Addr} {fd : FuncData} (F : Fun K "join_at" "Scale.join_at" s_Scale_join_at f fd) : FnOk P w K mg base CX0 1 f fd ["self", "first", "second"] (spP (PAt K fun _ jn a b => .int (jn a b))) := by
  refine F.ok sc_Scale_join_at (fun vs H Q E h => ?_) (fun cdv A outer s H vs Q E hr h => ?_)
  · obtain ⟨G, R, _, ⟨_, _, _, _, _, _, _, _, _, _, rfl, _⟩, _⟩ := h
    rfl
  · obtain ⟨G, R, hs, ⟨label, names, nv, sl, dep, th, jn, x, a, b, rfl, ⟨C, dx, fs, hx, hC, hN, hS⟩, ha, hb, rfl⟩, q⟩ := h
    refine ⟨_, (pss_cons (ps_ret (pe_ix (ix_any K (hu_of hr)) (pe_ix (ix_any K (hu_of hr)) (pe_fldK K (pv 0)) (pv 1) (fun _ _ => rfl)) (pv 2) (fun _ _ => rfl)))
  pss_nil), ?_⟩
    obtain ⟨p, hp, ht⟩ := hS.joi
    have st := stab0 G H
    have h0 : SP0 G H 0 G H := Grow.refl hs
    show tSeq _ _ (Ends.mk _ _ _ _) [some _, some _, some _] _
    exact q_retV st h0 (ev_tab st (ev_fld st (ev_var rfl) hx hC (hN _ (by decide)) hp) ht ha hb rfl rfl) fun H1 k1 h1 => q _ _ _ h1 rfl
abbrev s_Scale_name_at : Stmt := inClass (top 20) 6
theorem sc_Scale_name_at : FnScope ["self", "place"] ["self", "place"] (defScope s_Scale_name_at) := ⟨rfl, rfl, rfl, by decide +kernel, rfl, by decide +kernel, by decide +kernel⟩
theorem ok_name_at {f : Addr} {fd : FuncData} (F : Fun K "name_at" "Scale.name_at" s_Scale_name_at f fd) : FnOk P w K mg base CX0 1 f fd ["self", "place"] (spP (PName K)) := by
  refine F.ok sc_Scale_name_at (fun vs H Q E h => ?_) (fun cdv A outer s H vs Q E hr h => ?_)
  · obtain ⟨G, R, _, ⟨_, _, _, _, _, _, _, _, _, _, rfl, _⟩, _⟩ := h
    rfl
  · obtain ⟨G, R, hs, ⟨label, names, nv, sl, dep, th, jn, x, a, nm, rfl, ⟨C, dx, fs, hx, hC, hN, hS⟩, ha, rfl⟩, q⟩ := h
    refine ⟨_, (pss_cons (ps_ret (pe_ix (ix_any K (hu_of hr)) (pe_fldK K (pv 0)) (pv 1) (fun _ _ => rfl)))
  pss_nil), ?_⟩
    obtain ⟨p, hp, ht⟩ := hS.nam
    have st := stab0 G H
    have h0 : SP0 G H 0 G H := Grow.refl hs
    show tSeq _ _ (Ends.mk _ _ _ _) [some _, some _] _
    exact q_retV st h0 (ev_opV (ev_fld st (ev_var rfl) hx hC (hN _ (by decide)) hp) (ev_var rfl) (v_ixT st (SqT.of ht) (atI_nat (by rw [List.getElem?_map, ha]; rfl)))) fun H1 k1 h1 => q _ _ _ h1 rfl
abbrev s_is_table_name : Stmt := top 21
theorem sc_is_table_name : FnScope ["name", "sign"] ["name"] (defScope s_is_table_name) := ⟨rfl, rfl, rfl, by decide +kernel, rfl, by decide +kernel, by decide +kernel⟩
abbrev s_table_places : Stmt := top 22
theorem sc_table_places : FnScope ["places", "table", "found", "row", "name"] ["places", "table"] (defScope s_table_places) := ⟨rfl, rfl, rfl, by decide +kernel, rfl, by decide +kernel, by decide +kernel⟩
abbrev s_TableScale___init__ : Stmt := inClass (top 23) 0
theorem sc_TableScale___init__ : ScS ["self", "names", "joins", "products", "never", "still", "places", "blocks", "table", "label", "place", "name", "row"] ["self", "names", "joins", "products", "never", "still"] (defScope s_TableScale___init__) := ⟨rfl, rfl, rfl, by decide +kernel, rfl, by decide +kernel, by decide +kernel, rfl, by decide +kernel, rfl⟩
abbrev s_TableScale_make_then : Stmt := inClass (top 23) 1
theorem sc_TableScale_make_then : FnScope ["self", "first", "second"] ["self", "first", "second"] (defScope s_TableScale_make_then) := ⟨rfl, rfl, rfl, by decide +kernel, rfl, by decide +kernel, by decide +kernel⟩
abbrev s_TableScale_make_join : Stmt := inClass (top 23) 2
theorem sc_TableScale_make_join : FnScope ["self", "first", "second"] ["self", "first", "second"] (defScope s_TableScale_make_join) := ⟨rfl, rfl, rfl, by decide +kernel, rfl, by decide +kernel, by decide +kernel⟩
theorem ok_is_table_name {tS : Tok} {f : Addr} {fd : FuncData} (Z : Bi mg) (g_SIGNS : mg "SIGNS" = some (.str signsL tS)) (F : Fun K "is_table_name" "is_table_name" s_is_table_name f fd) : FnOk P w K mg base CX0 1 f fd ["name"] (spP PIsN) := by
  refine F.ok sc_is_table_name (fun vs H Q E h => ?_) (fun cdv A outer s H vs Q E hr h => ?_)
  · obtain ⟨_, _, _, ⟨_, rfl, _⟩, _⟩ := h
    rfl
  · obtain ⟨G, R, hs, ⟨nm, rfl, hl, rfl⟩, q⟩ := h
    refine ⟨_, (pss_cons (ps_ret (pe_and (pe_chain op_leA op_leA pe_int (pe_callB (call_lenA K) (by rfl) Z.z_len PySem.boot_len (pa_cons (pv 0) pa_nil)) pe_int) (pe_one (pe_callB (call_allA K) (by rfl) Z.z_all (by decide +kernel) (pa_cons (pe_lc (own := [("sign", 1)]) (g := (gName 1)) rfl sc_is_table_name.nd (pi_str (pv 0)) (blkOk_by (by kernel_rfl)) (fun _ _ _ _ _ => (pg_name (i := 1) sc_is_table_name.nd rfl (Or.inl rfl))) (fun _ _ _ _ _ => pts_nil) (fun _ _ _ _ _ => (pe_cmpR op_in_str (pv 1) (pe_glob (v := .str "abcdefghijklmnopqrstuvwxyz0123456789") rfl g_SIGNS ⟨_, rfl⟩) (by rfl)))) pa_nil)))))
  pss_nil), ?_⟩
    have st := stab0 G H
    have h0 : SP0 G H 0 G H := Grow.refl hs
    show tSeq _ _ (Ends.mk _ _ _ _) [some _, none] _
    have hsz : (1000 : Nat) ≤ sizeLine := by decide
    refine q_retV st h0 (x := .bl (okNm nm)) (ev_andV st (ev_chain st ev_c (ev_cbV (ea_consV (ev_var rfl) ea_nilV) (c_lenS st (Nat.le_trans hl hsz))) (v_le st) ev_c (v_le st)) (fun _ => ev_cb (ea_cons (ev_lcS (f := fun c => .bl (sgn c)) st (ev_var rfl) (by omega) (fun _ => rfl) fun c G' hc s' => ev_opV (ev_var rfl) ev_c (v_inS st)) ea_nil) fun vs G' s' e => ?_)) fun H1 k1 h1 => q _ _ _ h1 rfl
    obtain ⟨_, _, rfl, ⟨p, rfl, _, g⟩, e2⟩ := e
    obtain rfl := (show _ = _ from e2)
    exact c_all st (SqL.of (by rw [g, List.map_map]; rfl))
theorem ok_table_places {f : Addr} {fd : FuncData} (Z : Bi mg) (F : Fun K "table_places" "table_places" s_table_places f fd) : FnOk P w K mg base CX0 1 f fd ["places", "table"] (spP PTp) := by
  refine F.ok sc_table_places (fun vs H Q E h => ?_) (fun cdv A outer s H vs Q E hr h => ?_)
  · obtain ⟨_, _, _, ⟨_, _, _, _, rfl, _⟩, _⟩ := h
    rfl
  · obtain ⟨G, R, hs, ⟨pd, pt, names, rows, rfl, hd, hnd, hn, ⟨vs, ht, rl⟩, hl, hr2, rfl⟩, q⟩ := h
    refine ⟨_, (pss_cons (ps_if (PW.pt (pw_or (pt_cmpR (op_neA K hr.units) (pe_callB (call_lenA K) (by rfl) Z.z_len PySem.boot_len (pa_cons (pv 1) pa_nil)) (pe_callB (call_lenA K) (by rfl) Z.z_len PySem.boot_len (pa_cons (pv 0) pa_nil)) (nomark _)) (pw_or1 (pt_val (pe_callB (call_anyA K) (by rfl) Z.z_any (by decide +kernel) (pa_cons (pe_lc (own := [("row", 3)]) (g := (gName 3)) rfl sc_table_places.nd (pi_listK K (pv 1)) (blkOk_by (by kernel_rfl)) (fun _ _ _ _ _ => (pg_name (i := 3) sc_table_places.nd rfl (Or.inl rfl))) (fun _ _ _ _ _ => pts_nil) (fun _ _ _ _ _ => (pe_cmpR (op_neA K hr.units) (pe_callB (call_lenA K) (by rfl) Z.z_len PySem.boot_len (pa_cons (pv 3) pa_nil)) (pe_callB (call_lenA K) (by rfl) Z.z_len PySem.boot_len (pa_cons (pv 0) pa_nil)) (nomark _)))) pa_nil)))))) (pss_cons ps_never
  pss_nil) pss_nil)
  (pss_cons (ps_setLc (i := 2) (own := [("row", 3)]) (g := (gName 3)) rfl sc_table_places.nd rfl rfl (sw_true rfl rfl rfl (by decide +kernel)) (pi_listK K (pv 1)) (blkOk_by (by kernel_rfl)) (fun _ _ _ _ _ => (pg_name (i := 3) sc_table_places.nd rfl (Or.inl rfl))) (fun _ _ _ _ _ => pts_nil) (fun _ _ _ _ _ => (pe_lc (own := [("name", 4)]) (g := (gName 4)) rfl sc_table_places.nd (pi_listK K (pv 3)) (blkOk_by (by kernel_rfl)) (fun _ _ _ _ _ => (pg_name (i := 4) sc_table_places.nd rfl (Or.inl rfl))) (fun _ _ _ _ _ => pts_nil) (fun _ _ _ _ _ => (pe_dget1 (hu_of hr) (pv 0) (pv 4) ⟨rfl, rfl, rfl, rfl⟩)))))
  (pss_cons (ps_if (pt_val (pe_callB (call_anyA K) (by rfl) Z.z_any (by decide +kernel) (pa_cons (pe_lc (own := [("row", 3)]) (g := (gName 3)) rfl sc_table_places.nd (pi_listK K (pv 2)) (blkOk_by (by kernel_rfl)) (fun _ _ _ _ _ => (pg_name (i := 3) sc_table_places.nd rfl (Or.inl rfl))) (fun _ _ _ _ _ => pts_nil) (fun _ _ _ _ _ => (pe_cmpR (op_inA K (hu_of hr)) pe_non (pv 3) (by rfl)))) pa_nil))) (pss_cons ps_never
  pss_nil) pss_nil)
  (pss_cons (ps_ret (pv 2))
  pss_nil)))), ?_⟩
    have st := stab0 G H
    have h0 : SP0 G H 0 G H := Grow.refl hs
    show tSeq _ _ (Ends.mk _ _ _ _) [some _, some _, none, none, none] _
    have lv := rl_len rl
    have lp := plc_len names 0
    have row : ∀ {j : Nat} {y : V} {G' : Hp}, vs[j]? = some y → Same G G' → ∃ r, rows[j]? = some r ∧ r ∈ rows ∧ IsSR r y G' := fun {j y G'} hy s' => by
      have hj : j < rows.length := by
        have := (List.getElem?_eq_some_iff.mp hy).1
        omega
      have e1 : rows[j]? = some rows[j] := List.getElem?_eq_getElem hj
      obtain ⟨u, hu, iu⟩ := rl_get rl e1
      rw [hu] at hy
      obtain rfl := Option.some.inj hy
      exact ⟨_, e1, List.getElem_mem hj, Mon.mon s' iu⟩
    refine q_if st h0 (et_or st (et_testV (ev_opV (ev_cbV (ea_consV (ev_var rfl) ea_nilV) (c_lenL st (SqL.of ht))) (ev_cbV (ea_consV (ev_var rfl) ea_nilV) (c_lenD st hd)) (v_neI st))) (fun _ => et_B (b := false) (ev_cb (ea_cons (ev_lcVL (f := fun _ => .bl false) st (ev_var rfl) (SqL.of ht) (by omega) (fun _ => rfl) fun j y G' hy s' => ?_) ea_nil) fun us G' s' e => ?_))) (fun H1 p1 k1 h1 => ?_) (fun H1 p1 k1 h1 => ?_)
    · obtain ⟨r, _, hm, p, rfl, hp⟩ := row hy s'
      refine ev_eq ?_ (ev_opV (ev_cbV (ea_consV (ev_var rfl) ea_nilV) (c_lenL st (SqL.of hp))) (ev_cbV (ea_consV (ev_var rfl) ea_nilV) (c_lenD st (s' _ _ hd))) (v_neI st))
      rw [List.length_map, lp, (hr2 r hm).1]
      simp
    · obtain ⟨_, _, rfl, ⟨p, rfl, _, g⟩, e2⟩ := e
      obtain rfl := (show _ = _ from e2)
      have e3 : (vs.map fun _ => false).any id = false := by
        rw [List.any_eq_false]
        intro b hb
        obtain ⟨_, _, rfl⟩ := List.mem_map.mp hb
        simp
      rw [← e3]
      exact c_any st (SqL.of (by rw [g, List.map_map]; rfl))
    · rw [lv, hl, lp] at p1
      simp at p1
    refine q_end ?_
    refine q_set (R := IsNX G (RL (IsIR names) rows)) h1 (ev_lcG (R := IsIR names) (ss := rows) (σf := fun j => [some (.ref pd), some (.ref pt), none, vs[j]?, none]) st (ev_var rfl) (SqL.of ht) lv (by omega) (fun j y G' J hy s' t' Qs q' => ?_) (fun _ => rfl) (fun j y r G' hy hrj s' => ?_)) fun v2 G2 H2 s2 r2 => ?_
    · rw [hy] at q'
      exact q'
    · show Ev _ _ _ _ [some (.ref pd), some (.ref pt), none, vs[j]?, none] _ _
      rw [hy]
      obtain ⟨r', er, hm, p, rfl, hp⟩ := row hy s'
      rw [hrj] at er
      obtain rfl := Option.some.inj er
      refine (ev_lcVL (f := fun v => match v with | .str e => .int (names.idxOf e : Nat) | _ => .non) st (ev_var rfl) (SqL.of hp) (by rw [List.length_map, (hr2 r hm).1]; omega) (fun _ => rfl) fun i z G'' hz s'' => ?_).imp fun v G'' s'' ⟨p2, e, _, g⟩ => ⟨p2, e, by rw [g, List.map_map]; rfl⟩
      obtain ⟨hi, rfl⟩ := map_get hz
      have hmem := (hr2 r hm).2 _ (List.getElem_mem hi)
      refine ev_eq ?_ (ev_dget (k := .inr r[i]) st (ev_var rfl) (s'' _ _ (s' _ _ hd)) (ev_var rfl))
      rw [plc_some hnd (idx_get hmem), Nat.zero_add]
      rfl
    obtain ⟨p2, ws, rfl, _, g2, rl2⟩ := r2
    have lw := rl_len rl2
    refine q_if st s2.s (et_B (b := false) (ev_cb (ea_cons (ev_lcVL (f := fun _ => .bl false) st (ev_var rfl) (SqL.of g2) (by omega) (fun _ => rfl) fun j y G' hy s' => ?_) ea_nil) fun us G' s' e => ?_)) (fun H3 p3 k3 h3 => ?_) (fun H3 p3 k3 h3 => ?_)
    · have hj : j < rows.length := by
        have := (List.getElem?_eq_some_iff.mp hy).1
        omega
      obtain ⟨u, hu, p, rfl, hp⟩ := rl_get rl2 (List.getElem?_eq_getElem hj)
      rw [hu] at hy
      obtain rfl := Option.some.inj hy
      refine ev_eq ?_ (ev_opV ev_c (ev_var rfl) (v_inL (neg := false) st (SqL.of (s' _ _ hp)) rfl ?_))
      · have e4 : inV .non (rows[j].map fun e => V.int (names.idxOf e : Nat)) = false := by
          unfold inV
          rw [List.any_eq_false]
          intro b hb
          obtain ⟨_, _, rfl⟩ := List.mem_map.mp hb
          exact Bool.false_ne_true
        rw [e4]
        rfl
      · rw [List.all_map, List.all_eq_true]
        exact fun _ _ => rfl
    · obtain ⟨_, _, rfl, ⟨p, rfl, _, g⟩, e2⟩ := e
      obtain rfl := (show _ = _ from e2)
      have e3 : (ws.map fun _ => false).any id = false := by
        rw [List.any_eq_false]
        intro b hb
        obtain ⟨_, _, rfl⟩ := List.mem_map.mp hb
        simp
      rw [← e3]
      exact c_any st (SqL.of (by rw [g, List.map_map]; rfl))
    · cases p3
    · refine q_end ?_
      refine q_ret h3 (ev_var rfl) fun v G4 H4 s4 e4 => q v G4 H4 s4.s ⟨p2, e4, ws, s4.g _ _ g2, rl_mon s4.g rl2⟩
theorem ok_tb_m {C : Addr} {fld : Str} (hC : Cls K C) (hN : NoAttr K C fld) {G H : Hp} {x dx p : Addr} {fs : List (Str × V)} {names : List Str} {rows : List (List Str)} {a b : Nat} {σ : L2.St} {n : Nat} (st : Stab (SP0 G H)) (h0 : σ[0]? = some (some (.ref x))) (h1 : σ[1]? = some (some (.int (a : Nat)))) (h2 : σ[2]? = some (some (.int (b : Nat))))
    (hx : G x = some (.ins C dx fs)) (hf : fs.lookup fld = some (.ref p)) (ht : TabI names G p rows) (ha : a < rows.length) (hb : ∀ r ∈ rows, b < r.length) : Ev (SP0 G H) n (0 + 0 + 0) (tOp (rIxA K) (tOp (rIxA K) (tFld K (tVar 0) fld) (tVar 1)) (tVar 2)) σ G (IsV (.int (idxT names rows a b))) := by
  obtain ⟨vs, hp, rl⟩ := ht
  have e1 : rows[a]? = some rows[a] := List.getElem?_eq_getElem ha
  obtain ⟨u, hu, q, rfl, hq⟩ := rl_get rl e1
  have hb' := hb _ (List.getElem_mem ha)
  refine ev_opV (ev_opV (ev_fld st (ev_var h0) hx hC hN hf) (ev_var h1) (v_ixL st (SqL.of hp) (atI_nat hu))) (ev_var h2) (v_ixL st (SqL.of hq) (atI_nat ?_))
  unfold idxT
  rw [List.getElem?_map, List.getElem?_eq_getElem hb', List.getD_eq_getElem?_getD, List.getD_eq_getElem?_getD, e1]
  show _ = some (V.int ((names.idxOf ((rows[a])[b]?.getD ("" : Str)) : Nat)))
  rw [List.getElem?_eq_getElem hb']
  rfl
theorem ok_tb_then {C : Addr} (hC : Cls K C) (hN : NoAttr K C "written_products") {f : Addr} {fd : FuncData} (F : Fun K "make_then" "TableScale.make_then" s_TableScale_make_then f fd) : FnOk P w K mg base CX0 5 f fd ["self", "first", "second"] (spP (PTbM C "written_products")) := by
  refine F.ok sc_TableScale_make_then (fun vs H Q E h => ?_) (fun cdv A outer s H vs Q E hr h => ?_)
  · obtain ⟨G, R, _, ⟨_, _, _, _, _, _, _, _, rfl, _⟩, _⟩ := h
    rfl
  · obtain ⟨G, R, hs, ⟨x, dx, p, fs, names, rows, a, b, rfl, hx, hf, ht, ha, hb, rfl⟩, q⟩ := h
    refine ⟨_, (pss_cons (ps_ret (pe_ix (ix_any K (hu_of hr)) (pe_ix (ix_any K (hu_of hr)) (pe_fldK K (pv 0)) (pv 1) (fun _ _ => rfl)) (pv 2) (fun _ _ => rfl)))
  pss_nil), ?_⟩
    have st := stab0 G H
    have h0 : SP0 G H 0 G H := Grow.refl hs
    show tSeq _ _ (Ends.mk _ _ _ _) [some _, some _, some _] _
    exact q_retV st h0 (ok_tb_m hC hN st rfl rfl rfl hx hf ht ha hb) fun H1 k1 h1 => q _ _ _ h1 rfl
theorem ok_tb_join {C : Addr} (hC : Cls K C) (hN : NoAttr K C "written_joins") {f : Addr} {fd : FuncData} (F : Fun K "make_join" "TableScale.make_join" s_TableScale_make_join f fd) : FnOk P w K mg base CX0 5 f fd ["self", "first", "second"] (spP (PTbM C "written_joins")) := by
  refine F.ok sc_TableScale_make_join (fun vs H Q E h => ?_) (fun cdv A outer s H vs Q E hr h => ?_)
  · obtain ⟨G, R, _, ⟨_, _, _, _, _, _, _, _, rfl, _⟩, _⟩ := h
    rfl
  · obtain ⟨G, R, hs, ⟨x, dx, p, fs, names, rows, a, b, rfl, hx, hf, ht, ha, hb, rfl⟩, q⟩ := h
    refine ⟨_, (pss_cons (ps_ret (pe_ix (ix_any K (hu_of hr)) (pe_ix (ix_any K (hu_of hr)) (pe_fldK K (pv 0)) (pv 1) (fun _ _ => rfl)) (pv 2) (fun _ _ => rfl)))
  pss_nil), ?_⟩
    have st := stab0 G H
    have h0 : SP0 G H 0 G H := Grow.refl hs
    show tSeq _ _ (Ends.mk _ _ _ _) [some _, some _, some _] _
    exact q_retV st h0 (ok_tb_m hC hN st rfl rfl rfl hx hf ht ha hb) fun H1 k1 h1 => q _ _ _ h1 rfl
theorem ok_TableScale_init {C fS : Addr} (Z : Bi mg) (hC : Cls K C) (hN : ∀ f ∈ ("written_joins" : Str) :: "written_products" :: scF, NoAttr K C f) (opq : PySem.W.nsIn K cStatics "thirdparty.any" = some none) (top0 : (P.main.scope.names.lookup ("super" : Str)).isSome = false)
    (hm : PySem.W.mroIn K C (.ref C) = some true) (hf : PySem.W.ks_superIn K C C "__init__" = some (some (.ref fS))) (c_super : SupC P w K mg base fS CX0 6 ["self", "label", "names", "never_at", "still_at", "depth"] [.int 1] (spI (PScI K C (PTbM C "written_products") (PTbM C "written_joins"))))
    (c_is_table_name : Callee P w K mg base "is_table_name" CX0 1 ["name"] [] (spP PIsN)) (c_table_places : Callee P w K mg base "table_places" CX0 1 ["places", "table"] [] (spP PTp)) {f : Addr} {fd : FuncData} (F : FunSD P K "__init__" "TableScale.__init__" s_TableScale___init__ [] [] f fd C) :
    FnOk P w K mg base (L2.CX P w) 10 f fd ["self", "names", "joins", "products", "never", "still"] (spI (PTbI C)) := by
  refine F.toS.okX sc_TableScale___init__ Z.z_super opq top0 rfl rfl (fun vs H Q E h => ?_) (fun cdv cc A outer s H vs Q E hr h SA => ?_)
  · obtain ⟨x, C', dx, fs, rest, G, R, rfl, _, _, _, ⟨_, _, _, _, _, _, _, _, _, _, rfl, _⟩, _⟩ := h
    rfl
  · obtain ⟨x, C', dx, fs, rest, G, R, rfl, hx, hG, gx, ⟨rfl, rfl, pn, pj, pp, names, joins, products, never, still, rfl, gn, tj, tp, T, rfl⟩, q⟩ := h
    refine ⟨_, (psa_cons (ps_setDc (i := 6) (own := [("place", 10), ("name", 11)]) (g := (gTup _ 2 (gCons (gName 10) (gCons (gName 11) gNil)))) rfl sc_TableScale___init__.nd rfl rfl (sw_dc rfl rfl rfl (by decide +kernel)) (pi_enum (by rfl) Z.z_enumerate (pa_cons (pv 1) pa_nil)) (blkOk_by (by kernel_rfl)) (fun _ _ _ _ _ => (pg_tup rfl (pgs_cons (pg_name (i := 10) sc_TableScale___init__.nd rfl (Or.inl rfl)) (pgs_cons (pg_name (i := 11) sc_TableScale___init__.nd rfl (Or.inl rfl)) pgs_nil)))) (fun _ _ _ _ _ => pts_nil) (fun _ _ _ _ _ => (pv 11)) (fun _ _ _ _ _ => (pv 10)))
  (psa_cons (ps_if (PW.pt (pw_or (pt_not (pt_chain op_leA op_leA pe_int (pe_callB (call_lenA K) (by rfl) Z.z_len PySem.boot_len (pa_cons (pv 1) pa_nil)) pe_int)) (pw_or1 (pt_cmpR (op_neA K hr.units) (pe_callB (call_lenA K) (by rfl) Z.z_len PySem.boot_len (pa_cons (pv 6) pa_nil)) (pe_callB (call_lenA K) (by rfl) Z.z_len PySem.boot_len (pa_cons (pv 1) pa_nil)) (nomark _))))) (pss_cons ps_never
  pss_nil) pss_nil)
  (psa_cons (ps_if (PW.pt (pw_or (pt_not (pt_val (pe_callB (call_allA K) (by rfl) Z.z_all (by decide +kernel) (pa_cons (pe_lc (own := [("name", 11)]) (g := (gName 11)) rfl sc_TableScale___init__.nd (pi_listK K (pv 1)) (blkOk_by (by kernel_rfl)) (fun _ _ _ _ _ => (pg_name (i := 11) sc_TableScale___init__.nd rfl (Or.inl rfl))) (fun _ _ _ _ _ => pts_nil) (fun _ _ _ _ _ => (pe_callC c_is_table_name (hr.mono (by decide)) pass0 (pa_cons (pv 11) pa_nil)))) pa_nil)))) (pw_or (pt_cmpR (op_ninA K (hu_of hr)) (pv 4) (pv 6) (by rfl)) (pw_or1 (pt_cmpR (op_ninA K (hu_of hr)) (pv 5) (pv 6) (by rfl)))))) (pss_cons ps_never
  pss_nil) pss_nil)
  (psa_cons (ps_fld (pv 0) (pe_callC c_table_places (hr.mono (by decide)) pass0 (pa_cons (pv 6) (pa_cons (pv 2) pa_nil))) rfl)
  (psa_cons (ps_fld (pv 0) (pe_callC c_table_places (hr.mono (by decide)) pass0 (pa_cons (pv 6) (pa_cons (pv 3) pa_nil))) rfl)
  (psa_cons (ps_set (i := 7) sc_TableScale___init__.nd rfl (Or.inl rfl) (pe_lst (pa_cons (pe_joinK K pe_str (pv 1)) (pa_cons (pe_joined (PJ.cons (pe_fmt (pv 4)) (PJ.cons pe_str (PJ.cons (pe_fmt (pv 5)) PJ.nil)))) pa_nil))))
  (psa_cons (ps_for (passes_of rfl) rfl (pi_listK K (pe_lst (pa_cons (pv 2) (pa_cons (pv 3) pa_nil)))) (pg_name (i := 8) sc_TableScale___init__.nd rfl (Or.inl rfl)) (pss_cons (ps_expr (pe_bm PySem.F.plainAttrs_list PySem.F.slot_list_append PySem.F.type_list_append mt_append (pv 7) (pa_cons (pe_joinK K pe_str (pe_lc (own := [("row", 12)]) (g := (gName 12)) rfl sc_TableScale___init__.nd (pi_listK K (pv 8)) (blkOk_by (by kernel_rfl)) (fun _ _ _ _ _ => (pg_name (i := 12) sc_TableScale___init__.nd rfl (Or.inl rfl))) (fun _ _ _ _ _ => pts_nil) (fun _ _ _ _ _ => (pe_joinK K pe_str (pv 12))))) pa_nil)))
  pss_nil))
  (psa_cons (ps_set (i := 9) sc_TableScale___init__.nd rfl (Or.inl rfl) (pe_joined (PJ.cons pe_str (PJ.cons (pe_fmt (pe_ix (ix_any K (hu_of hr)) (pv 7) pe_int (fun _ _ => rfl))) (PJ.cons pe_str (PJ.cons (pe_fmt (pe_ix (ix_any K (hu_of hr)) (pv 7) pe_int (fun _ _ => rfl))) (PJ.cons pe_str (PJ.cons (pe_fmt (pe_ix (ix_any K (hu_of hr)) (pv 7) pe_int (fun _ _ => rfl))) (PJ.cons pe_str (PJ.cons (pe_fmt (pe_ix (ix_any K (hu_of hr)) (pv 7) pe_int (fun _ _ => rfl))) (PJ.cons pe_str PJ.nil)))))))))))
  (psa_supC SA rfl (Or.inl rfl) c_super (hr.mono (by decide)) pass0 (pa_cons (pv 9) (pa_cons (pv 1) (pa_cons (pe_ix (ix_any K (hu_of hr)) (pv 6) (pv 4) (fun _ _ => rfl)) (pa_cons (pe_ix (ix_any K (hu_of hr)) (pv 6) (pv 5) (fun _ _ => rfl)) pa_nil))))
  (psa_end pss_nil)))))))))), ?_⟩
    have h0 := own_start (o := .ins C' dx []) hG gx hx 0
    have st0 := stabO G H x (.ins C' dx [])
    show tSeq _ _ (Ends.mk _ _ _ _) [some _, some _, some _, some _, some _, some _, none, none, none, none, none, none, none] _
    have l1 := T.l1
    have l2 := T.l2
    have lm : (names.map V.str).length = names.length := List.length_map _
    refine q_set h0 (ev_dcE st0 (ea_consV (ev_var rfl) ea_nilV) (SqL.of gn) (by omega) T.nd (by decide) (Nat.le_of_ble_eq_true rfl) (Nat.le_of_ble_eq_true rfl) (fun _ _ => rfl)) fun v1 G1 H1 s1 r1 => ?_
    obtain ⟨pd, rfl, _, gd⟩ := r1
    have gn1 := s1.g _ _ gn
    have lp := plc_len names 0
    refine q_if st0 s1.s (et_or st0 (et_not (et_testV (ev_chain st0 ev_c (ev_cbV (ea_consV (ev_var rfl) ea_nilV) (c_lenL st0 (SqL.of gn1))) (v_le st0) ev_c (v_le st0)))) (fun _ => et_testV (ev_opV (ev_cbV (ea_consV (ev_var rfl) ea_nilV) (c_lenD st0 gd)) (ev_cbV (ea_consV (ev_var rfl) ea_nilV) (c_lenL st0 (SqL.of gn1))) (v_neI st0)))) (fun H2 p2 k2 h2 => ?_) (fun H2 p2 k2 h2 => ?_)
    · refine absurd p2 ?_
      rw [lm, lp]
      simp
      omega
    refine q_end ?_
    have isn : ∀ {nm : Str}, nm ∈ names → okNm nm = true := fun h => T.ok _ h
    refine q_if st0 h2 (et_or st0 (et_not (et_B (b := true) (ev_cb (ea_cons (ev_lcVL (f := fun _ => .bl true) st0 (ev_var rfl) (SqL.of gn1) (by omega) (fun _ => rfl) fun j y G' hy s' => ?_) ea_nil) fun us G' s' e => ?_))) (fun _ => et_or st0 (et_testV (ev_opV (ev_var rfl) (ev_var rfl) (v_inD (neg := true) (key := .inr never) st0 gd))) (fun _ => et_testV (ev_opV (ev_var rfl) (ev_var rfl) (v_inD (neg := true) (key := .inr still) st0 gd))))) (fun H3 p3 k3 h3 => ?_) (fun H3 p3 k3 h3 => ?_)
    · obtain ⟨hj, rfl⟩ := map_get hy
      exact ev_eq (congrArg V.bl (isn (List.getElem_mem hj))) (ev_callV st0 (ea_consV (ev_var rfl) ea_nilV) fun G6 s6 => ⟨_, rfl, by have := okNm_len (isn (List.getElem_mem hj)); omega, rfl⟩)
    · obtain ⟨_, _, rfl, ⟨p, rfl, _, g⟩, e2⟩ := e
      obtain rfl := (show _ = _ from e2)
      have e3 : ((names.map V.str).map fun _ => true).all id = true := by
        rw [List.all_eq_true]
        intro b hb
        obtain ⟨_, _, rfl⟩ := List.mem_map.mp hb
        rfl
      rw [← e3]
      exact c_all st0 (SqL.of (by rw [g, List.map_map, List.map_map, List.map_map]; rfl))
    · refine absurd p3 ?_
      rw [plc_some T.nd (idx_get T.nv), plc_some T.nd (idx_get T.sl)]
      simp
    refine q_end ?_
    refine q_fldO h3 (ev_callV (R := fun v G' => ∃ p, v = .ref p ∧ TabI names G' p joins) (ws := [.ref pd, .ref pj]) st0 (ea_consV (ev_var rfl) (ea_consV (ev_var rfl) ea_nilV)) fun G' s' => ⟨pd, pj, names, joins, rfl, s' _ _ gd, T.nd, by omega, tj.mono (s1.g.trans s'), T.jl, T.jr, rfl⟩) rfl hC (hN _ (by decide)) (by decide) fun v4 G4 H4 s4 h4 r4 => ?_
    obtain ⟨p4, rfl, t4⟩ := r4
    generalize e4 : putF ("written_joins" : Str) (.ref p4) [] = f4 at h4
    have z4 : f4.length ≤ 1 := by rw [← e4]; exact putF_len _ _ _
    have st4 := stabO G H x (.ins C' dx f4)
    have gd4 := s4 _ _ gd
    refine q_fldO h4 (ev_callV (R := fun v G' => ∃ p, v = .ref p ∧ TabI names G' p products) (ws := [.ref pd, .ref pp]) st4 (ea_consV (ev_var rfl) (ea_consV (ev_var rfl) ea_nilV)) fun G' s' => ⟨pd, pp, names, products, rfl, s' _ _ gd4, T.nd, by omega, tp.mono ((s1.g.trans s4).trans s'), T.pl, T.pr, rfl⟩) rfl hC (hN _ (by decide)) (by omega) fun v5 G5 H5 s5 h5 r5 => ?_
    obtain ⟨p5, rfl, t5⟩ := r5
    generalize e5 : putF ("written_products" : Str) (.ref p5) f4 = f5 at h5
    have z5 : f5.length ≤ 2 := by rw [← e5]; exact Nat.le_trans (putF_len _ _ _) (by omega)
    have on4 : f5.lookup ("written_joins" : Str) = some (.ref p4) := by rw [← e5, lk_ne (by decide +kernel), ← e4]; exact lk_eq
    have on5 : f5.lookup ("written_products" : Str) = some (.ref p5) := by rw [← e5]; exact lk_eq
    have off5 : ∀ f, f ≠ ("written_joins" : Str) → f ≠ ("written_products" : Str) → f5.lookup f = none := fun f a b => by rw [← e5, lk_ne b, ← e4, lk_ne a]; rfl
    have st5 := stabO G H x (.ins C' dx f5)
    have s15 := (s1.g.trans s4).trans s5
    have gn5 := s15 _ _ gn
    have nj := names_join T.ok l2
    have jj := joinR_len T.ok l2 T.jl T.jr
    have jp := joinR_len T.ok l2 T.pl T.pr
    have hsz : (100000 : Nat) ≤ sizeLine := by decide
    have w1 : (" " : Str).length = 1 := by decide +kernel
    have ln := okNm_len (T.ok _ T.nv)
    have ls := okNm_len (T.ok _ T.sl)
    have ee : ∀ z : Str, Str.empty ++ z = z := Str.empty_append
    refine q_newX (R := fun s : Str => IsV (.str s)) (ss := [Txt.join (" " : Str) names, never ++ (" " : Str) ++ still]) st5 h5 (ea_cons (ev_join st5 ev_c ((ev_var rfl).imp fun v G' s' e => ⟨pn, e, SqL.of (s' _ _ gn5)⟩) (by rw [w1]; exact nj.1)) (ea_cons (ev_joined (ej_cons (ev_fmtS (ev_var rfl) (by omega)) (by rw [ee]; omega) (ej_cons ev_c (by rw [ee, Str.length_append]; omega) (ej_cons (ev_fmtS (ev_var rfl) (by omega)) (by rw [ee, Str.length_append, Str.length_append]; omega) (by rw [ee]; exact ej_nil))))) ea_nil)) (by simp) fun D G6 H6 J s6 hD hJ => ?_
    obtain ⟨G7, g7, s7, mv⟩ := hJ.step2 st5 s6.s hD
    have old : ∀ {b : Addr} {o : HO} {G' : Hp}, G b = some o → Same G6 G' → G' b = some o := fun e s' => s' _ _ (s6.g _ _ (s15 _ _ e))
    have rowsJ : ∀ {rows : List (List Str)} {pt : Addr} {G' : Hp} {n : Nat} {σ : L2.St}, TabS G pt rows → (∀ r ∈ rows, (r.map (·.length)).sum + r.length * 1 ≤ 208 ∧ (Txt.join (" " : Str) r).length ≤ 208) → rows.length ≤ 16 → ((rows.map fun r => Txt.join (" " : Str) r).map (·.length)).sum + (rows.map fun r => Txt.join (" " : Str) r).length * 1 ≤ 16777216 → Same G6 G' →
        σ = [some (.ref x), some (.ref pn), some (.ref pj), some (.ref pp), some (.str never), some (.str still), some (.ref pd), some (.ref D), some (.ref pt), none, none, none, none] →
        Ev (Own G H x (.ins C' dx f5)) n (0 + 0) (tM1 (rJoinK K) (tC (.str (" " : Str))) (tLc (iList K (tVar 8)) (gName 12) tYes (tM1 (rJoinK K) (tC (.str (" " : Str))) (tVar 12)) [12])) σ G' (IsV (.str (joinR rows))) := fun {rows pt G' n σ} ht hl h16 hs' s' eσ => by
      subst eσ
      obtain ⟨vs, hp, rl⟩ := ht
      have lv := rl_len rl
      refine ev_join st5 ev_c ((ev_lcG (R := fun r : List Str => IsV (.str (Txt.join (" " : Str) r))) (ss := rows) (σf := fun j => [some (.ref x), some (.ref pn), some (.ref pj), some (.ref pp), some (.str never), some (.str still), some (.ref pd), some (.ref D), some (.ref pt), none, none, none, vs[j]?]) st5 (ev_var rfl) (SqL.of (old hp s')) lv (by omega) (fun j y G'' J'' hy s'' t'' Qs q' => ?_) (fun _ => rfl) (fun j y r G'' hy hr s'' => ?_)).imp fun v G'' s'' ⟨p, ys, e, _, g, rl'⟩ => ?_) (by rw [w1]; exact hs')
      · rw [hy] at q'
        exact q'
      · show Ev _ _ _ _ [some (.ref x), some (.ref pn), some (.ref pj), some (.ref pp), some (.str never), some (.str still), some (.ref pd), some (.ref D), some (.ref pt), none, none, none, vs[j]?] _ _
        rw [hy]
        obtain ⟨u, hu, pr, rfl, hpr⟩ := rl_get rl hr
        rw [hu] at hy
        obtain rfl := Option.some.inj hy
        exact ev_join st5 ev_c ((ev_var rfl).imp fun v G3 s3 e => ⟨pr, e, SqL.of (s3 _ _ (s'' _ _ (old hpr s')))⟩) (by rw [w1]; have := (hl r (List.mem_of_getElem? hr)).1; omega)
      · rw [rl_vals rl'] at g
        exact ⟨p, e, SqL.of (by rw [g, List.map_map]; rfl)⟩
    refine q_forIX (RA := IsVs [.ref pj, .ref pp]) st5 s7 ((ev_lstN st5 (ea_consV (ev_var rfl) (ea_consV (ev_var rfl) ea_nilV)) (by simp)).imp fun v G' s' ⟨p, e, _, g⟩ => ⟨p, _, e, g, rfl⟩)
      (fun q j τ J => (∃ a, τ = [some (.ref x), some (.ref pn), some (.ref pj), some (.ref pp), some (.str never), some (.str still), some (.ref pd), some (.ref D), a, none, none, none, none]) ∧ LcQ (Own G H x (.ins C' dx f5)) G6 H6 0 D (fun s : Str => IsV (.str s)) ([Txt.join (" " : Str) names, never ++ (" " : Str) ++ still] ++ [joinR joins, joinR products].take j) J ∧ J q = some (.lst [.ref pj, .ref pp]) ∧ q ≠ D) fun q0 xs G8 H8 s8 gq ex => ?_
    obtain rfl := (show xs = _ from ex)
    refine ⟨fun j τ J hp => SqL.of hp.2.2.1, ⟨⟨_, rfl⟩, (mv s8).1, st5.sub s8.s _ _ gq, fun e => by rw [e, (mv s8).2] at gq; cases gq⟩, fun j y σ' J hy hp => ?_, fun σ' J hp => ?_⟩
    · obtain ⟨⟨a, rfl⟩, hq, hJq, hne⟩ := hp
      rcases j with _ | _ | j
      · cases hy
        show tSeq _ _ (Ends.mk _ _ _ _) [some (.ref x), some (.ref pn), some (.ref pj), some (.ref pp), some (.str never), some (.str still), some (.ref pd), some (.ref D), some (.ref pj), none, none, none, none] _
        exact q_appX2 st5 s6.s hD hq (x := joinR joins) (by simp) rfl (fun G' g' => ea_cons (rowsJ tj (rows_len T.ok l2 T.jl T.jr) (by rw [T.jl]; exact l2) jj.1 g' rfl) ea_nil) fun J' h' kp => q_end ⟨⟨_, rfl⟩, h', kp _ _ (fun z => z) hne hJq, hne⟩
      · cases hy
        show tSeq _ _ (Ends.mk _ _ _ _) [some (.ref x), some (.ref pn), some (.ref pj), some (.ref pp), some (.str never), some (.str still), some (.ref pd), some (.ref D), some (.ref pp), none, none, none, none] _
        exact q_appX2 st5 s6.s hD hq (x := joinR products) (by simp) rfl (fun G' g' => ea_cons (rowsJ tp (rows_len T.ok l2 T.pl T.pr) (by rw [T.pl]; exact l2) jp.1 g' rfl) ea_nil) fun J' h' kp => q_end ⟨⟨_, rfl⟩, h', kp _ _ (fun z => z) hne hJq, hne⟩
      · simp at hy
    · obtain ⟨⟨a, rfl⟩, hq, _, _⟩ := hp
      obtain ⟨G9, s9, r9⟩ := hq.pub st5 s6.s (Nat.le_refl _) hD
      obtain ⟨p9, ys, e, _, g9, rl9⟩ := r9
      obtain rfl : D = p9 := by cases e; rfl
      rw [rl_vals (g := V.str) rl9] at g9
      have ix : ∀ {n j : Nat} {z : Str} {σ : L2.St}, σ[7]? = some (some (.ref D)) → [Txt.join (" " : Str) names, never ++ (" " : Str) ++ still, joinR joins, joinR products][j]? = some z → Ev (Own G H x (.ins C' dx f5)) n (0 + 0) (tOp (rIxA K) (tVar 7) (tC (.int (j : Nat)))) σ G9 (IsV (.str z)) := fun hv hz => ev_opV (ev_var hv) ev_c (v_ixL st5 (SqL.of g9) (atI_nat (by
        show (List.map V.str [Txt.join (" " : Str) names, never ++ (" " : Str) ++ still, joinR joins, joinR products])[_]? = _
        rw [List.getElem?_map, hz]
        rfl)))
      have c1 : ("(table (" : Str).length = 8 ∧ (") " : Str).length = 2 ∧ (" (" : Str).length = 2 ∧ (") (" : Str).length = 3 ∧ ("))" : Str).length = 2 := by decide +kernel
      have la : ∀ a b : Str, (a ++ b).length = a.length + b.length := Str.length_append
      refine q_setV st5 s9.s (x := .str (tbLab names never still joins products)) (ev_joined (ej_cons ev_c (by rw [ee]; omega) (ej_cons (ev_fmtS (ix (j := 0) rfl rfl) (by omega)) (by simp only [ee, la]; omega) (ej_cons ev_c (by simp only [ee, la]; omega) (ej_cons (ev_fmtS (ix (j := 1) rfl rfl) (by simp only [la]; omega)) (by simp only [ee, la]; omega)
        (ej_cons ev_c (by simp only [ee, la]; omega) (ej_cons (ev_fmtS (ix (j := 2) rfl rfl) (by omega)) (by simp only [ee, la]; omega) (ej_cons ev_c (by simp only [ee, la]; omega) (ej_cons (ev_fmtS (ix (j := 3) rfl rfl) (by omega)) (by simp only [ee, la]; omega) (ej_cons ev_c (by simp only [ee, la]; omega) (by rw [ee]; exact ej_nil))))))))))) fun H10 k10 h10 => ?_
      have s69 := s6.g.trans s9.g
      have gd9 : G9 pd = some (.dK (plc names 0)) := s69 _ _ (s5 _ _ (s4 _ _ gd))
      refine q_supO h10 rfl hm hf (ea_cons (ev_var rfl) (ea_cons (ev_var rfl) (ea_cons (ev_opV (ev_var rfl) (ev_var rfl) (v_ixDs st5 gd9 (plc_some T.nd (idx_get T.nv)))) (ea_cons (ev_opV (ev_var rfl) (ev_var rfl) (v_ixDs st5 gd9 (plc_some T.nd (idx_get T.sl)))) ea_nil))))
        (RO := fun _ _ fs' G' => ScIs (tbLab names never still joins products) names (names.idxOf never : Nat) (names.idxOf still : Nat) 1 (idxT names products) (idxT names joins) fs' G' ∧ (∀ f, f ∉ scF → fs'.lookup f = f5.lookup f) ∧ fs'.length ≤ f5.length + 9) (fun vs G2 s2 r2 => ?_) (fun f6 G11 H11 s11 h11 r11 => ?_)
      · obtain ⟨_, _, rfl, a1, _, _, rfl, a2, _, _, rfl, a3, _, _, rfl, a4, a5⟩ := r2
        obtain rfl := (show _ = _ from a1)
        obtain rfl := (show _ = _ from a2)
        obtain rfl := (show _ = _ from a3)
        obtain rfl := (show _ = _ from a4)
        obtain rfl := (show _ = _ from a5)
        have sGs : Same G5 G2 := s69.trans s2
        refine ⟨rfl, tbLab names never still joins products, pn, names, (names.idxOf never : Nat), (names.idxOf still : Nat), 1, idxT names products, idxT names joins, by rw [Nat.zero_add, Nat.zero_add]; rfl, SqL.of (s2 _ _ (old gn s9.g)), by omega, T.nd, by omega, off5 _ (by decide +kernel) (by decide +kernel), off5 _ (by decide +kernel) (by decide +kernel), fun y dy fs' G' s3 hy hfs a b ha hb => ?_, rfl⟩
        have w4 := (hfs ("written_joins" : Str) (by decide +kernel)).trans on4
        have w5 := (hfs ("written_products" : Str) (by decide +kernel)).trans on5
        exact ⟨⟨y, dy, p5, fs', names, products, a, b, rfl, hy, w5, t5.mono (sGs.trans s3), by rw [T.pl]; exact ha, fun r hr => by rw [(T.pr r hr).1]; exact hb, rfl⟩, ⟨y, dy, p4, fs', names, joins, a, b, rfl, hy, w4, t4.mono ((s5.trans sGs).trans s3), by rw [T.jl]; exact ha, fun r hr => by rw [(T.jr r hr).1]; exact hb, rfl⟩⟩
      · exact q_end (q f6 _ _ (own_n h11) ⟨r11.1, fun f hf h1 => (r11.2.1 f hf).trans (off5 f (fun e => h1 (by rw [e]; decide)) (fun e => h1 (by rw [e]; decide)))⟩)
abbrev s_depth_above : Stmt := top 26
theorem sc_depth_above : FnScope ["size", "inner", "depth", "scale"] ["size", "inner"] (defScope s_depth_above) := ⟨rfl, rfl, rfl, by decide +kernel, rfl, by decide +kernel, by decide +kernel⟩
abbrev s_half_places : Stmt := top 28
theorem sc_half_places : FnScope ["place", "many"] ["place", "many"] (defScope s_half_places) := ⟨rfl, rfl, rfl, by decide +kernel, rfl, by decide +kernel, by decide +kernel⟩
abbrev s_PairScale___init__ : Stmt := inClass (top 27) 0
theorem sc_PairScale___init__ : ScS ["self", "left", "right", "depth", "pairs", "names", "never", "still", "a", "b"] ["self", "left", "right"] (defScope s_PairScale___init__) := ⟨rfl, rfl, rfl, by decide +kernel, rfl, by decide +kernel, by decide +kernel, rfl, by decide +kernel, rfl⟩
abbrev s_PairScale_make_then : Stmt := inClass (top 27) 1
theorem sc_PairScale_make_then : FnScope ["self", "first", "second", "a", "b", "c", "d"] ["self", "first", "second"] (defScope s_PairScale_make_then) := ⟨rfl, rfl, rfl, by decide +kernel, rfl, by decide +kernel, by decide +kernel⟩
abbrev s_PairScale_make_join : Stmt := inClass (top 27) 2
theorem sc_PairScale_make_join : FnScope ["self", "first", "second", "a", "b", "c", "d"] ["self", "first", "second"] (defScope s_PairScale_make_join) := ⟨rfl, rfl, rfl, by decide +kernel, rfl, by decide +kernel, by decide +kernel⟩
abbrev s_TurnedScale___init__ : Stmt := inClass (top 29) 0
theorem sc_TurnedScale___init__ : ScS ["self", "inner", "depth", "names", "place"] ["self", "inner"] (defScope s_TurnedScale___init__) := ⟨rfl, rfl, rfl, by decide +kernel, rfl, by decide +kernel, by decide +kernel, rfl, by decide +kernel, rfl⟩
abbrev s_TurnedScale_make_then : Stmt := inClass (top 29) 1
theorem sc_TurnedScale_make_then : FnScope ["self", "first", "second"] ["self", "first", "second"] (defScope s_TurnedScale_make_then) := ⟨rfl, rfl, rfl, by decide +kernel, rfl, by decide +kernel, by decide +kernel⟩
abbrev s_TurnedScale_make_join : Stmt := inClass (top 29) 2
theorem sc_TurnedScale_make_join : FnScope ["self", "first", "second"] ["self", "first", "second"] (defScope s_TurnedScale_make_join) := ⟨rfl, rfl, rfl, by decide +kernel, rfl, by decide +kernel, by decide +kernel⟩
theorem ok_depth_above {Cs : List Addr} {tM tD : Tok} (Z : Bi mg) (g_MOST_WORTHS : mg "MOST_WORTHS" = some (.int 64 tM)) (g_DEEPEST : mg "DEEPEST" = some (.int 10 tD)) {f : Addr} {fd : FuncData} (F : Fun K "depth_above" "depth_above" s_depth_above f fd) (hm : mg "depth_above" = some (.ref f)) (hk : PySem.W.keepIn K (.ref f) = true) :
    CalleeR P w K mg base "depth_above" CX0 2 (spP (PDepC K Cs)) := by
  refine ⟨f, hm, hk, (okStar (ps := ["size"]) (pv := "inner") (k := 1) (sp0 := spP (PDep K Cs)) F sc_depth_above (fun kV doc pm an cdv ct => StX.bind_star1 (p1 := "size") (pv := "inner") (B := fun us => bindArgs (PySem.W.fnOf "depth_above" "depth_above" (defArgs s_depth_above) (defBody s_depth_above) (defScope s_depth_above) .none kV doc pm an cdv ct) ⟨us, []⟩) (fun a => rfl) (fun a r rs => rfl)) (fun cdv A outer s H vs Q E hr h => ?_)).imp fun vs H Q E h => ?_⟩
  · obtain ⟨G, R, hs, ⟨size, p, xs, ds, rfl, hp, rl, hz, hd, rfl⟩, q⟩ := h
    refine ⟨_, (pss_cons (ps_set (i := 2) sc_depth_above.nd rfl (Or.inl rfl) pe_int)
  (pss_cons (ps_for PassesOwn.never rfl (pi_tupK K (pv 1)) (pg_name (i := 3) sc_depth_above.nd rfl (Or.inl rfl)) (pss_cons (ps_if (pt_cmpR op_geA (pe_fldK K (pv 3)) (pv 2) (nomark _)) (pss_cons (ps_set (i := 2) sc_depth_above.nd rfl (Or.inl rfl) (pe_op op_addA (pe_fldK K (pv 3)) pe_int))
  pss_nil) pss_nil)
  pss_nil))
  (pss_cons (ps_if (PW.pt (pw_or (pt_cmpR op_gtA (pv 0) (pe_glob (v := .int 64) rfl g_MOST_WORTHS ⟨_, rfl⟩) (nomark _)) (pw_or1 (pt_cmpR op_gtA (pv 2) (pe_glob (v := .int 10) rfl g_DEEPEST ⟨_, rfl⟩) (nomark _))))) (pss_cons ps_never
  pss_nil) pss_nil)
  (pss_cons (ps_ret (pv 2))
  pss_nil)))), ?_⟩
    have st := stab0 G H
    have h0 : SP0 G H 0 G H := Grow.refl hs
    show tSeq _ _ (Ends.mk _ _ _ _) [some _, some _, none, none] _
    refine q_setV st h0 ev_c fun H1 k1 h1 => ?_
    have lx := rl_len rl
    refine q_forPT st h1 (ev_var rfl) (SqT.of hp) (fun j σ' => ∃ a, σ' = [some (.int size), some (.ref p), some (.int (depL (ds.take j))), a]) ⟨_, rfl⟩ (fun j y σ' J hy hp' s2 => ?_) (fun σ' J hp' s2 => ?_)
    · obtain ⟨a, rfl⟩ := hp'
      have hj : j < ds.length := by
        have := (List.getElem?_eq_some_iff.mp hy).1
        omega
      obtain ⟨u, hu, x, rfl, hx⟩ := rl_get rl (List.getElem?_eq_getElem hj)
      rw [hu] at hy
      obtain rfl := Option.some.inj hy
      have e : depL (ds.take (j + 1)) = if (ds[j]).dep ≥ depL (ds.take j) then (ds[j]).dep + 1 else depL (ds.take j) := by
        unfold depL
        rw [List.take_succ_eq_append_getElem hj, List.foldl_append]
        rfl
      rw [e]
      generalize depL (ds.take j) = acc
      show tSeq _ _ (Ends.mk _ _ _ _) [some (.int size), some (.ref p), some (.int acc), some (.ref x)] _
      have fd := fun {n : Nat} {σ : L2.St} (e : σ[3]? = some (some (.ref x))) => (ev_sF (K := K) (n := n) st hx (ev_var e)).2.2.2.2
      refine q_if st s2.s (et_testV (ev_opV (fd rfl) (ev_var rfl) (v_ge st))) (fun H3 p3 k3 h3 => ?_) (fun H3 p3 k3 h3 => ?_)
      · have p3 : (ds[j]).dep ≥ acc := by simpa using p3
        refine q_setV st h3 (ev_opV (fd rfl) ev_c (v_add st)) fun H4 k4 h4 => q_end (q_end ⟨⟨_, by rw [if_pos p3]; rfl⟩, (s2.go k3 h3).go k4 h4⟩)
      · have p3 : ¬ (ds[j]).dep ≥ acc := by simpa using p3
        exact q_end (q_end ⟨⟨_, by rw [if_neg p3]⟩, s2.go k3 h3⟩)
    · obtain ⟨a, rfl⟩ := hp'
      rw [lx, List.take_length]
      refine q_if st s2.s (et_or st (et_testV (ev_opV (ev_var rfl) ev_c (v_gt st))) (fun _ => et_testV (ev_opV (ev_var rfl) ev_c (v_gt st)))) (fun H3 p3 k3 h3 => ?_) (fun H3 p3 k3 h3 => ?_)
      · refine absurd p3 ?_
        simp
        omega
      · refine q_end ?_
        exact q_retV st h3 (ev_var rfl) fun H4 k4 h4 => q _ _ _ h4 rfl
  · obtain ⟨G, R, hs, ⟨size, xs, ds, rfl, hl, rl, hz, hd, rfl⟩, q⟩ := h
    refine ⟨[.int size], xs, rfl, rfl, Nat.le_trans hl (by decide), fun p hp => ?_⟩
    have g := Grow.new hs hp (.tup xs)
    exact ⟨_, _, g.s, ⟨size, p, xs, ds, rfl, upd_same, rl_mon g.g rl, hz, hd, rfl⟩, fun v G' H' g' r => q v G' H' (g.trans g') r⟩
theorem ok_half {f : Addr} {fd : FuncData} (F : Fun K "half_places" "half_places" s_half_places f fd) : FnOk P w K mg base CX0 1 f fd ["place", "many"] (spP PHalf) := by
  refine F.ok sc_half_places (fun vs H Q E h => ?_) (fun cdv A outer s H vs Q E hr h => ?_)
  · obtain ⟨_, _, _, ⟨_, _, rfl, _⟩, _⟩ := h
    rfl
  · obtain ⟨G, R, hs, ⟨a, n, rfl, hn, hn2, rfl⟩, q⟩ := h
    refine ⟨_, (pss_cons (ps_ret (pe_tup (pa_cons (pe_op op_divA (pv 0) (pv 1)) (pa_cons (pe_op op_modA (pv 0) (pv 1)) pa_nil))))
  pss_nil), ?_⟩
    have st := stab0 G H
    have h0 : SP0 G H 0 G H := Grow.refl hs
    show tSeq _ _ (Ends.mk _ _ _ _) [some _, some _] _
    refine q_ret h0 (ev_tupN st (vs := [.int ((a / n : Nat)), .int ((a % n : Nat))]) (ea_consV (ev_eq (congrArg V.int (Int.natCast_ediv a n).symm) (ev_opV (ev_var rfl) (ev_var rfl) (v_div st ⟨by omega, by omega⟩))) (ea_consV (ev_eq (congrArg V.int (Int.natCast_emod a n).symm) (ev_opV (ev_var rfl) (ev_var rfl) (v_mod st (by omega)))) ea_nilV)) (by simp)) fun v G1 H1 s1 r1 => q _ _ _ s1.s ?_
    obtain ⟨p, rfl, _, g⟩ := r1
    exact ⟨p, rfl, g⟩
theorem ok_pair_m {Cs : List Addr} {C : Addr} {m : Str} {pk : SD → Nat → Nat → Int} {sel : (Nat → Nat → Int) → (Nat → Nat → Int) → Nat → Nat → Int} (hC : Cls K C) (hl : NoAttr K C "left") (hr : NoAttr K C "right") (hm : m ∈ metF)
    (hpk : ∀ d1 d2 a b, pk (pairSD d1 d2) a b = sel d1.th d1.jn (a / d2.names.length) (b / d2.names.length) * d2.names.length + sel d2.th d2.jn (a % d2.names.length) (b % d2.names.length))
    (hb : ∀ (d : SD), SdOk d → ∀ a b, a < d.names.length → b < d.names.length → 0 ≤ sel d.th d.jn a b ∧ sel d.th d.jn a b < d.names.length)
    {G H : Hp} {nx bk ct : L2.St → Hp → Prop} {Q : VK} {x dx l r : Addr} {fs : List (Str × V)} {d1 d2 : SD} {a b : Nat} (hx : G x = some (.ins C dx fs)) (fl : fs.lookup ("left" : Str) = some (.ref l)) (fr : fs.lookup ("right" : Str) = some (.ref r)) (h1 : ScD K Cs d1 l G) (h2 : ScD K Cs d2 r G) (o1 : SdOk d1) (o2 : SdOk d2)
    (ha : a < d1.names.length * d2.names.length) (hbb : b < d1.names.length * d2.names.length) (h0 : SP0 G H 0 G H) (hQ : ∀ G' H', SP0 G H 0 G' H' → Q (.int (pk (pairSD d1 d2) a b)) H') :
    tSeq (tAsg (tCall (spP PHalf) [] E0 (tCons (tVar 1) (tCons (tFld K (tFld K (tVar 0) "right") "size") tNil))) (gTup K 2 (gCons (gName 3) (gCons (gName 4) gNil))))
      (tSeq (tAsg (tCall (spP PHalf) [] E0 (tCons (tVar 2) (tCons (tFld K (tFld K (tVar 0) "right") "size") tNil))) (gTup K 2 (gCons (gName 5) (gCons (gName 6) gNil))))
        (tSeq (tRet (tOp rAddA (tOp rMul (tMethA Cs m (spP (PAt K fun th jn a b => .int (sel th jn a b))) [] E0 (tFld K (tVar 0) "left") (tCons (tVar 3) (tCons (tVar 5) tNil))) (tFld K (tFld K (tVar 0) "right") "size")) (tMethA Cs m (spP (PAt K fun th jn a b => .int (sel th jn a b))) [] E0 (tFld K (tVar 0) "right") (tCons (tVar 4) (tCons (tVar 6) tNil))))) tNext))
      (Ends.mk nx Q bk ct) [some (.ref x), some (.int (a : Nat)), some (.int (b : Nat)), none, none, none, none] H := by
  have st := stab0 G H
  have n2 : 0 < d2.names.length := o2.l1
  have a1 : ∀ {c : Nat}, c < d1.names.length * d2.names.length → c / d2.names.length < d1.names.length := fun h => Nat.div_lt_of_lt_mul (by rw [Nat.mul_comm]; exact h)
  have a2 : ∀ {c : Nat}, c % d2.names.length < d2.names.length := Nat.mod_lt _ n2
  have l2 := o2.l2
  have sz : ∀ {n : Nat} {σ : L2.St} {G' : Hp}, Same G G' → σ[0]? = some (some (.ref x)) → Ev (SP0 G H) n 0 (tFld K (tFld K (tVar 0) "right") "size") σ G' (IsV (.int (d2.names.length : Nat))) := fun s e => (ev_sF st (h2.mono s) (ev_fld st (ev_var e) (s _ _ hx) hC hr fr)).1
  refine q_asg2 st h0 (ev_callV (ws := [.int (a : Nat), .int (d2.names.length : Nat)]) st (ea_consV (ev_var rfl) (ea_consV (sz (Same.refl _) rfl) ea_nilV)) fun G' s' => ⟨a, _, rfl, n2, by omega, rfl⟩) fun G1 H1 s1 => ?_
  refine q_asg2 st s1.s (ev_callV (ws := [.int (b : Nat), .int (d2.names.length : Nat)]) st (ea_consV (ev_var rfl) (ea_consV (sz s1.g rfl) ea_nilV)) fun G' s' => ⟨b, _, rfl, n2, by omega, rfl⟩) fun G2 H2 s2 => ?_
  have s12 := s1.g.trans s2.g
  have v1 := hb d1 o1 _ _ (a1 ha) (a1 hbb)
  have l1 := o1.l2
  refine q_retV st s2.s (ev_opV (ev_opV (ev_sAt (pk := fun th jn a b => .int (sel th jn a b)) st (h1.mono s12) hm (ev_fld st (ev_var rfl) (s12 _ _ hx) hC hl fl) (ea_consV (ev_var rfl) (ea_consV (ev_var rfl) ea_nilV)) (a1 ha) (a1 hbb)) (sz s12 rfl) (v_mul st (.inl ⟨by omega, by omega⟩))) (ev_sAt (pk := fun th jn a b => .int (sel th jn a b)) st (h2.mono s12) hm (ev_fld st (ev_var rfl) (s12 _ _ hx) hC hr fr) (ea_consV (ev_var rfl) (ea_consV (ev_var rfl) ea_nilV)) a2 a2) (v_add st)) fun H3 k3 h3 => ?_
  have z := hQ _ _ h3
  rw [hpk] at z
  exact z
theorem ok_pair_then {Cs : List Addr} {C : Addr} (hC : Cls K C) (hl : NoAttr K C "left") (hri : NoAttr K C "right") (c_half_places : Callee P w K mg base "half_places" CX0 1 ["place", "many"] [] (spP PHalf)) (c_then_at : ∀ C ∈ Cs, Method P w K mg base C "then_at" CX0 1 ["self", "first", "second"] [] (spP (PAt K fun th _ a b => .int (th a b))))
    {f : Addr} {fd : FuncData} (F : Fun K "make_then" "PairScale.make_then" s_PairScale_make_then f fd) : FnOk P w K mg base CX0 5 f fd ["self", "first", "second"] (spP (PPrM K Cs C SD.th)) := by
  refine F.ok sc_PairScale_make_then (fun vs H Q E h => ?_) (fun cdv A outer s H vs Q E hr h => ?_)
  · obtain ⟨G, R, _, ⟨_, _, _, _, _, _, _, _, _, rfl, _⟩, _⟩ := h
    rfl
  · obtain ⟨G, R, hs, ⟨x, dx, l, r, fs, d1, d2, a, b, rfl, hx, fl, fr, h1, h2, o1, o2, ha, hb, rfl⟩, q⟩ := h
    refine ⟨_, (pss_cons (ps_asg (pe_callC c_half_places (hr.mono (by decide)) pass0 (pa_cons (pv 1) (pa_cons (pe_fldK K (pe_fldK K (pv 0))) pa_nil))) (pg_tup rfl (pgs_cons (pg_name (i := 3) sc_PairScale_make_then.nd rfl (Or.inl rfl)) (pgs_cons (pg_name (i := 4) sc_PairScale_make_then.nd rfl (Or.inl rfl)) pgs_nil))))
  (pss_cons (ps_asg (pe_callC c_half_places (hr.mono (by decide)) pass0 (pa_cons (pv 2) (pa_cons (pe_fldK K (pe_fldK K (pv 0))) pa_nil))) (pg_tup rfl (pgs_cons (pg_name (i := 5) sc_PairScale_make_then.nd rfl (Or.inl rfl)) (pgs_cons (pg_name (i := 6) sc_PairScale_make_then.nd rfl (Or.inl rfl)) pgs_nil))))
  (pss_cons (ps_ret (pe_op op_addA (pe_op op_mulA (pe_methA c_then_at (hr.mono (by decide)) pass0 (pe_fldK K (pv 0)) (pa_cons (pv 3) (pa_cons (pv 5) pa_nil))) (pe_fldK K (pe_fldK K (pv 0)))) (pe_methA c_then_at (hr.mono (by decide)) pass0 (pe_fldK K (pv 0)) (pa_cons (pv 4) (pa_cons (pv 6) pa_nil)))))
  pss_nil))), ?_⟩
    have h0 : SP0 G H 0 G H := Grow.refl hs
    exact ok_pair_m (sel := fun th _ => th) (pk := SD.th) hC hl hri (by decide) (fun _ _ _ _ => rfl) (fun d o => o.th) hx fl fr h1 h2 o1 o2 ha hb h0 fun G' H' s => q _ _ _ s rfl
theorem ok_pair_join {Cs : List Addr} {C : Addr} (hC : Cls K C) (hl : NoAttr K C "left") (hri : NoAttr K C "right") (c_half_places : Callee P w K mg base "half_places" CX0 1 ["place", "many"] [] (spP PHalf)) (c_join_at : ∀ C ∈ Cs, Method P w K mg base C "join_at" CX0 1 ["self", "first", "second"] [] (spP (PAt K fun _ jn a b => .int (jn a b))))
    {f : Addr} {fd : FuncData} (F : Fun K "make_join" "PairScale.make_join" s_PairScale_make_join f fd) : FnOk P w K mg base CX0 5 f fd ["self", "first", "second"] (spP (PPrM K Cs C SD.jn)) := by
  refine F.ok sc_PairScale_make_join (fun vs H Q E h => ?_) (fun cdv A outer s H vs Q E hr h => ?_)
  · obtain ⟨G, R, _, ⟨_, _, _, _, _, _, _, _, _, rfl, _⟩, _⟩ := h
    rfl
  · obtain ⟨G, R, hs, ⟨x, dx, l, r, fs, d1, d2, a, b, rfl, hx, fl, fr, h1, h2, o1, o2, ha, hb, rfl⟩, q⟩ := h
    refine ⟨_, (pss_cons (ps_asg (pe_callC c_half_places (hr.mono (by decide)) pass0 (pa_cons (pv 1) (pa_cons (pe_fldK K (pe_fldK K (pv 0))) pa_nil))) (pg_tup rfl (pgs_cons (pg_name (i := 3) sc_PairScale_make_join.nd rfl (Or.inl rfl)) (pgs_cons (pg_name (i := 4) sc_PairScale_make_join.nd rfl (Or.inl rfl)) pgs_nil))))
  (pss_cons (ps_asg (pe_callC c_half_places (hr.mono (by decide)) pass0 (pa_cons (pv 2) (pa_cons (pe_fldK K (pe_fldK K (pv 0))) pa_nil))) (pg_tup rfl (pgs_cons (pg_name (i := 5) sc_PairScale_make_join.nd rfl (Or.inl rfl)) (pgs_cons (pg_name (i := 6) sc_PairScale_make_join.nd rfl (Or.inl rfl)) pgs_nil))))
  (pss_cons (ps_ret (pe_op op_addA (pe_op op_mulA (pe_methA c_join_at (hr.mono (by decide)) pass0 (pe_fldK K (pv 0)) (pa_cons (pv 3) (pa_cons (pv 5) pa_nil))) (pe_fldK K (pe_fldK K (pv 0)))) (pe_methA c_join_at (hr.mono (by decide)) pass0 (pe_fldK K (pv 0)) (pa_cons (pv 4) (pa_cons (pv 6) pa_nil)))))
  pss_nil))), ?_⟩
    have h0 : SP0 G H 0 G H := Grow.refl hs
    exact ok_pair_m (sel := fun _ jn => jn) (pk := SD.jn) hC hl hri (by decide) (fun _ _ _ _ => rfl) (fun d o => o.jn) hx fl fr h1 h2 o1 o2 ha hb h0 fun G' H' s => q _ _ _ s rfl
theorem ok_turn_then {Cs : List Addr} {C : Addr} (hC : Cls K C) (hl : NoAttr K C "inner") (c_then_at : ∀ C ∈ Cs, Method P w K mg base C "then_at" CX0 1 ["self", "first", "second"] [] (spP (PAt K fun th _ a b => .int (th a b))))
    {f : Addr} {fd : FuncData} (F : Fun K "make_then" "TurnedScale.make_then" s_TurnedScale_make_then f fd) : FnOk P w K mg base CX0 5 f fd ["self", "first", "second"] (spP (PTuM K Cs C SD.th)) := by
  refine F.ok sc_TurnedScale_make_then (fun vs H Q E h => ?_) (fun cdv A outer s H vs Q E hr h => ?_)
  · obtain ⟨G, R, _, ⟨_, _, _, _, _, _, _, rfl, _⟩, _⟩ := h
    rfl
  · obtain ⟨G, R, hs, ⟨x, dx, l, fs, d, a, b, rfl, hx, fl, h1, ha, hb, rfl⟩, q⟩ := h
    refine ⟨_, (pss_cons (ps_ret (pe_methA c_then_at (hr.mono (by decide)) pass0 (pe_fldK K (pv 0)) (pa_cons (pv 2) (pa_cons (pv 1) pa_nil))))
  pss_nil), ?_⟩
    have st := stab0 G H
    have h0 : SP0 G H 0 G H := Grow.refl hs
    show tSeq _ _ (Ends.mk _ _ _ _) [some _, some _, some _] _
    exact q_retV st h0 (ev_sAt (pk := fun th _ a b => .int (th a b)) st h1 (by decide) (ev_fld st (ev_var rfl) hx hC hl fl) (ea_consV (ev_var rfl) (ea_consV (ev_var rfl) ea_nilV)) hb ha) fun H1 k1 h1 => q _ _ _ h1 rfl
theorem ok_turn_join {Cs : List Addr} {C : Addr} (hC : Cls K C) (hl : NoAttr K C "inner") (c_join_at : ∀ C ∈ Cs, Method P w K mg base C "join_at" CX0 1 ["self", "first", "second"] [] (spP (PAt K fun _ jn a b => .int (jn a b))))
    {f : Addr} {fd : FuncData} (F : Fun K "make_join" "TurnedScale.make_join" s_TurnedScale_make_join f fd) : FnOk P w K mg base CX0 5 f fd ["self", "first", "second"] (spP (PTuM K Cs C SD.jn)) := by
  refine F.ok sc_TurnedScale_make_join (fun vs H Q E h => ?_) (fun cdv A outer s H vs Q E hr h => ?_)
  · obtain ⟨G, R, _, ⟨_, _, _, _, _, _, _, rfl, _⟩, _⟩ := h
    rfl
  · obtain ⟨G, R, hs, ⟨x, dx, l, fs, d, a, b, rfl, hx, fl, h1, ha, hb, rfl⟩, q⟩ := h
    refine ⟨_, (pss_cons (ps_ret (pe_methA c_join_at (hr.mono (by decide)) pass0 (pe_fldK K (pv 0)) (pa_cons (pv 1) (pa_cons (pv 2) pa_nil))))
  pss_nil), ?_⟩
    have st := stab0 G H
    have h0 : SP0 G H 0 G H := Grow.refl hs
    show tSeq _ _ (Ends.mk _ _ _ _) [some _, some _, some _] _
    exact q_retV st h0 (ev_sAt (pk := fun _ jn a b => .int (jn a b)) st h1 (by decide) (ev_fld st (ev_var rfl) hx hC hl fl) (ea_consV (ev_var rfl) (ea_consV (ev_var rfl) ea_nilV)) ha hb) fun H1 k1 h1 => q _ _ _ h1 rfl
theorem ok_TurnedScale_init {Cs : List Addr} {C fS : Addr} (Z : Bi mg) (hC : Cls K C) (hN : ∀ f ∈ ("inner" : Str) :: scF, NoAttr K C f) (opq : PySem.W.nsIn K cStatics "thirdparty.any" = some none) (top0 : (P.main.scope.names.lookup ("super" : Str)).isSome = false)
    (hm : PySem.W.mroIn K C (.ref C) = some true) (hf : PySem.W.ks_superIn K C C "__init__" = some (some (.ref fS))) (c_super : SupC P w K mg base fS CX0 6 ["self", "label", "names", "never_at", "still_at", "depth"] [] (spI (PScI K C (PTuM K Cs C SD.th) (PTuM K Cs C SD.jn))))
    (c_depth_above : CalleeR P w K mg base "depth_above" CX0 2 (spP (PDepC K Cs))) (c_name_at : ∀ C ∈ Cs, Method P w K mg base C "name_at" CX0 1 ["self", "place"] [] (spP (PName K))) {f : Addr} {fd : FuncData} (F : FunSD P K "__init__" "TurnedScale.__init__" s_TurnedScale___init__ [] [] f fd C) :
    FnOk P w K mg base (L2.CX P w) 10 f fd ["self", "inner"] (spI (PTuI K Cs C)) := by
  refine F.toS.okX sc_TurnedScale___init__ Z.z_super opq top0 rfl rfl (fun vs H Q E h => ?_) (fun cdv cc A outer s H vs Q E hr h SA => ?_)
  · obtain ⟨x, C', dx, fs, rest, G, R, rfl, _, _, _, ⟨_, _, _, _, rfl, _⟩, _⟩ := h
    rfl
  · obtain ⟨x, C', dx, fs, rest, G, R, rfl, hx, hG, gx, ⟨rfl, rfl, l, d, rfl, h1, o, hd, rfl⟩, q⟩ := h
    refine ⟨_, (psa_cons (ps_set (i := 2) sc_TurnedScale___init__.nd rfl (Or.inl rfl) (pe_callRC c_depth_above (hr.mono (by decide)) pass0 (pa_cons (pe_fldK K (pv 1)) (pa_cons (pv 1) pa_nil))))
  (psa_cons (ps_fld (pv 0) (pv 1) rfl)
  (psa_cons (ps_setLc (i := 3) (own := [("place", 4)]) (g := (gName 4)) rfl sc_TurnedScale___init__.nd rfl rfl (sw_true rfl rfl rfl (by decide +kernel)) (pi_range1 (by rfl) Z.z_range (pa_cons (pe_fldK K (pv 1)) pa_nil)) (blkOk_by (by kernel_rfl)) (fun _ _ _ _ _ => (pg_name (i := 4) sc_TurnedScale___init__.nd rfl (Or.inl rfl))) (fun _ _ _ _ _ => pts_nil) (fun _ _ _ _ _ => (pe_methA c_name_at (hr.mono (by decide)) pass0 (pv 1) (pa_cons (pv 4) pa_nil))))
  (psa_supC SA rfl (Or.inl rfl) c_super (hr.mono (by decide)) pass0 (pa_cons (pe_joined (PJ.cons pe_str (PJ.cons (pe_fmt (pe_fldK K (pv 1))) (PJ.cons pe_str PJ.nil)))) (pa_cons (pv 3) (pa_cons (pe_fldK K (pv 1)) (pa_cons (pe_fldK K (pv 1)) (pa_cons (pv 2) pa_nil)))))
  (psa_end pss_nil))))), ?_⟩
    have h0 := own_start (o := .ins C' dx []) hG gx hx 0
    have st0 := stabO G H x (.ins C' dx [])
    show tSeq _ _ (Ends.mk _ _ _ _) [some _, some _, none, none, none] _
    have l2 := o.l2
    refine q_setV st0 h0 (x := .int (depL [d])) (ev_call st0 (ea_cons (ev_sF st0 h1 (ev_var rfl)).1 (ea_cons (ev_var rfl) ea_nil)) fun vs G' s' e => ?_) fun H1 k1 h1' => ?_
    · obtain ⟨_, _, rfl, a1, _, _, rfl, a2, a3⟩ := e
      obtain rfl := (show _ = _ from a1)
      obtain rfl := (show _ = _ from a2)
      obtain rfl := (show _ = _ from a3)
      exact ⟨_, [.ref l], [d], rfl, by simp, ⟨.ref l, [], rfl, ⟨l, rfl, h1.mono s'⟩, rfl⟩, by omega, hd, rfl⟩
    refine q_fldV h1' (ev_var rfl) rfl hC (hN _ (by decide)) (by decide) fun H2 h2 => ?_
    generalize e3 : putF ("inner" : Str) (.ref l) [] = f3 at h2
    have z3 : f3.length ≤ 1 := by rw [← e3]; exact putF_len _ _ _
    have on1 : f3.lookup ("inner" : Str) = some (.ref l) := by rw [← e3]; exact lk_eq
    have off3 : ∀ f, f ≠ ("inner" : Str) → f3.lookup f = none := fun f a => by rw [← e3, lk_ne a]; rfl
    have st3 := stabO G H x (.ins C' dx f3)
    refine q_set h2 (ev_lcV (f := fun k => .str (d.names.getD k ("" : Str))) st3 (ea_consV (ev_sF st3 h1 (ev_var rfl)).1 ea_nilV) (by omega) (by omega) (fun _ => rfl) fun j G' hj s' => ev_sNm st3 (h1.mono s') (ev_var rfl) (ea_consV (ev_var rfl) ea_nilV) (getD_names (by omega))) fun v4 G4 H4 s4 r4 => ?_
    obtain ⟨p4, rfl, _, g4⟩ := r4
    rw [Int.toNat_natCast] at g4
    have g4 : G4 p4 = some (.lst (d.names.map V.str)) := by
      rw [g4]
      refine congrArg (fun z => some (HO.lst z)) (List.ext_getElem? fun j => ?_)
      rw [List.getElem?_map, List.getElem?_map]
      by_cases hj : j < d.names.length
      · rw [List.getElem?_range hj, getD_names hj]
        rfl
      · rw [List.getElem?_eq_none (by rw [List.length_range]; omega), List.getElem?_eq_none (by omega)]
        rfl
    have es : ∀ z : Str, Str.empty ++ z = z := Str.empty_append
    have ll := o.ll
    have hsz : (2000000 : Nat) ≤ sizeLine := by decide
    have c1 : ("(turned " : Str).length = 8 ∧ (")" : Str).length = 1 := by decide +kernel
    have la : ∀ a b : Str, (a ++ b).length = a.length + b.length := Str.length_append
    have h14 := h1.mono s4.g
    refine q_supO s4.s rfl hm hf (ea_cons (ev_joined (ej_cons ev_c (by simp only [es]; omega) (ej_cons (ev_fmtS (ev_sF st3 h14 (ev_var rfl)).2.2.2.1 (by omega)) (by simp only [es, la]; omega) (ej_cons ev_c (by simp only [es, la]; omega) ej_nil))))
      (ea_cons (ev_var rfl) (ea_cons (ev_sF st3 h14 (ev_var rfl)).2.1 (ea_cons (ev_sF st3 h14 (ev_var rfl)).2.2.1 (ea_cons (ev_var rfl) ea_nil))))) (RO := fun _ _ fs' G' => ScI (turnSD d) fs' G' ∧ (∀ f, f ∉ scF → fs'.lookup f = f3.lookup f) ∧ fs'.length ≤ f3.length + 9) (fun vs G2 s2 r2 => ?_) (fun f5 G5 H5 s5 h5 r5 => ?_)
    · obtain ⟨_, _, rfl, a1, _, _, rfl, a2, _, _, rfl, a3, _, _, rfl, a4, _, _, rfl, a5, a6⟩ := r2
      obtain rfl := (show _ = _ from a1)
      obtain rfl := (show _ = _ from a2)
      obtain rfl := (show _ = _ from a3)
      obtain rfl := (show _ = _ from a4)
      obtain rfl := (show _ = _ from a5)
      obtain rfl := (show _ = _ from a6)
      refine ⟨rfl, (turnSD d).label, p4, d.names, d.nv, d.sl, depL [d], (turnSD d).th, (turnSD d).jn, by rw [es]; rfl, SqL.of (s2 _ _ g4), by omega, o.nd, by omega, off3 _ (by decide +kernel), off3 _ (by decide +kernel), fun y dy fs' G' s3 hy hfs a b ha hb => ?_, rfl⟩
      have w1 : fs'.lookup ("inner" : Str) = some (.ref l) := (hfs _ (by decide +kernel)).trans on1
      have h15 := h14.mono (s2.trans s3)
      exact ⟨⟨y, dy, l, fs', d, a, b, rfl, hy, w1, h15, ha, hb, rfl⟩, ⟨y, dy, l, fs', d, a, b, rfl, hy, w1, h15, ha, hb, rfl⟩⟩
    · exact q_end (q f5 _ _ (own_n h5) ⟨r5.1, fun f hf h1 => (r5.2.1 f hf).trans (off3 f h1), (r5.2.1 _ (by decide +kernel)).trans on1⟩)
theorem ok_PairScale_init {Cs : List Addr} {C fS : Addr} (Z : Bi mg) (hC : Cls K C) (hN : ∀ f ∈ ("left" : Str) :: "right" :: scF, NoAttr K C f) (opq : PySem.W.nsIn K cStatics "thirdparty.any" = some none) (top0 : (P.main.scope.names.lookup ("super" : Str)).isSome = false)
    (hm : PySem.W.mroIn K C (.ref C) = some true) (hf : PySem.W.ks_superIn K C C "__init__" = some (some (.ref fS))) (c_super : SupC P w K mg base fS CX0 6 ["self", "label", "names", "never_at", "still_at", "depth"] [] (spI (PScI K C (PPrM K Cs C SD.th) (PPrM K Cs C SD.jn))))
    (c_depth_above : CalleeR P w K mg base "depth_above" CX0 2 (spP (PDepC K Cs))) (c_name_at : ∀ C ∈ Cs, Method P w K mg base C "name_at" CX0 1 ["self", "place"] [] (spP (PName K))) {f : Addr} {fd : FuncData} (F : FunSD P K "__init__" "PairScale.__init__" s_PairScale___init__ [] [] f fd C) :
    FnOk P w K mg base (L2.CX P w) 10 f fd ["self", "left", "right"] (spI (PPrI K Cs C)) := by
  refine F.toS.okX sc_PairScale___init__ Z.z_super opq top0 rfl rfl (fun vs H Q E h => ?_) (fun cdv cc A outer s H vs Q E hr h SA => ?_)
  · obtain ⟨x, C', dx, fs, rest, G, R, rfl, _, _, _, ⟨_, _, _, _, _, _, rfl, _⟩, _⟩ := h
    rfl
  · obtain ⟨x, C', dx, fs, rest, G, R, rfl, hx, hG, gx, ⟨rfl, rfl, l, r, d1, d2, rfl, h1, h2, o1, o2, h64, hd, hnd, rfl⟩, q⟩ := h
    refine ⟨_, (psa_cons (ps_set (i := 3) sc_PairScale___init__.nd rfl (Or.inl rfl) (pe_callRC c_depth_above (hr.mono (by decide)) pass0 (pa_cons (pe_op op_mulA (pe_fldK K (pv 1)) (pe_fldK K (pv 2))) (pa_cons (pv 1) (pa_cons (pv 2) pa_nil)))))
  (psa_cons (ps_fld (pv 0) (pv 1) rfl)
  (psa_cons (ps_fld (pv 0) (pv 2) rfl)
  (psa_cons (ps_setLc2 (i := 4) (own := [("a", 8), ("b", 9)]) (vs1 := [9]) (g := (gName 8)) (g1 := (gName 9)) rfl sc_PairScale___init__.nd rfl rfl (sw_true rfl rfl rfl (by decide +kernel)) (pi_range1 (by rfl) Z.z_range (pa_cons (pe_fldK K (pv 1)) pa_nil)) (blkOk_by (by kernel_rfl)) (by decide) (fun _ _ _ _ _ => (pg_name (i := 8) sc_PairScale___init__.nd rfl (Or.inl rfl))) (fun _ _ _ _ _ => pts_nil) (fun _ _ _ _ _ => (pi_range1 (by rfl) Z.z_range (pa_cons (pe_fldK K (pv 2)) pa_nil))) (fun _ _ _ _ _ => (pg_name (i := 9) sc_PairScale___init__.nd rfl (Or.inl rfl))) (fun _ _ _ _ _ => pts_nil) (fun _ _ _ _ _ => (pe_tup (pa_cons (pv 8) (pa_cons (pv 9) pa_nil)))))
  (psa_cons (ps_setLc (i := 5) (own := [("a", 8), ("b", 9)]) (g := (gTup _ 2 (gCons (gName 8) (gCons (gName 9) gNil)))) rfl sc_PairScale___init__.nd rfl rfl (sw_true rfl rfl rfl (by decide +kernel)) (pi_listK K (pv 4)) (blkOk_by (by kernel_rfl)) (fun _ _ _ _ _ => (pg_tup rfl (pgs_cons (pg_name (i := 8) sc_PairScale___init__.nd rfl (Or.inl rfl)) (pgs_cons (pg_name (i := 9) sc_PairScale___init__.nd rfl (Or.inl rfl)) pgs_nil)))) (fun _ _ _ _ _ => pts_nil) (fun _ _ _ _ _ => (pe_joined (PJ.cons pe_str (PJ.cons (pe_fmt (pe_methA c_name_at (hr.mono (by decide)) pass0 (pv 1) (pa_cons (pv 8) pa_nil))) (PJ.cons pe_str (PJ.cons (pe_fmt (pe_methA c_name_at (hr.mono (by decide)) pass0 (pv 2) (pa_cons (pv 9) pa_nil))) (PJ.cons pe_str PJ.nil))))))))
  (psa_cons (ps_set (i := 6) sc_PairScale___init__.nd rfl (Or.inl rfl) (pe_bm PySem.F.plainAttrs_list PySem.F.slot_list_index PySem.F.type_list_index (mt_indexD (Nat.lt_of_succ_lt (hu2 hr))) (pv 4) (pa_cons (pe_tup (pa_cons (pe_fldK K (pv 1)) (pa_cons (pe_fldK K (pv 2)) pa_nil))) pa_nil)))
  (psa_cons (ps_set (i := 7) sc_PairScale___init__.nd rfl (Or.inl rfl) (pe_bm PySem.F.plainAttrs_list PySem.F.slot_list_index PySem.F.type_list_index (mt_indexD (Nat.lt_of_succ_lt (hu2 hr))) (pv 4) (pa_cons (pe_tup (pa_cons (pe_fldK K (pv 1)) (pa_cons (pe_fldK K (pv 2)) pa_nil))) pa_nil)))
  (psa_supC SA rfl (Or.inl rfl) c_super (hr.mono (by decide)) pass0 (pa_cons (pe_joined (PJ.cons pe_str (PJ.cons (pe_fmt (pe_fldK K (pv 1))) (PJ.cons pe_str (PJ.cons (pe_fmt (pe_fldK K (pv 2))) (PJ.cons pe_str PJ.nil)))))) (pa_cons (pv 5) (pa_cons (pv 6) (pa_cons (pv 7) (pa_cons (pv 3) pa_nil)))))
  (psa_end pss_nil))))))))), ?_⟩
    have h0 := own_start (o := .ins C' dx []) hG gx hx 0
    have st0 := stabO G H x (.ins C' dx [])
    show tSeq _ _ (Ends.mk _ _ _ _) [some _, some _, some _, none, none, none, none, none, none, none] _
    have l12 := o1.l2
    have l22 := o2.l2
    have eN : ((d1.names.length : Nat) : Int) * ((d2.names.length : Nat) : Int) = ((d1.names.length * d2.names.length : Nat) : Int) := (Int.natCast_mul _ _).symm
    refine q_setV st0 h0 (x := .int (depL [d1, d2])) (ev_call st0 (ea_cons (ev_opV (ev_sF st0 h1 (ev_var rfl)).1 (ev_sF st0 h2 (ev_var rfl)).1 (v_mul st0 (.inl ⟨by omega, by omega⟩))) (ea_cons (ev_var rfl) (ea_cons (ev_var rfl) ea_nil))) fun vs G' s' e => ?_) fun H1 k1 h1' => ?_
    · obtain ⟨_, _, rfl, a1, _, _, rfl, a2, _, _, rfl, a3, a4⟩ := e
      obtain rfl := (show _ = _ from a1)
      obtain rfl := (show _ = _ from a2)
      obtain rfl := (show _ = _ from a3)
      obtain rfl := (show _ = _ from a4)
      exact ⟨_, [.ref l, .ref r], [d1, d2], rfl, by simp, ⟨.ref l, [.ref r], rfl, ⟨l, rfl, h1.mono s'⟩, .ref r, [], rfl, ⟨r, rfl, h2.mono s'⟩, rfl⟩, by rw [eN]; omega, hd, rfl⟩
    refine q_fldV h1' (ev_var rfl) rfl hC (hN _ (by decide)) (by decide) fun H2 h2' => ?_
    have st2 := stabO G H x (.ins C' dx (putF ("left" : Str) (.ref l) []))
    refine q_fldV h2' (ev_var rfl) rfl hC (hN _ (by decide)) (Nat.lt_of_le_of_lt (putF_len _ _ _) (by decide)) fun H3 h3 => ?_
    generalize e3 : putF ("right" : Str) (.ref r) (putF ("left" : Str) (.ref l) []) = f3 at h3
    have z3 : f3.length ≤ 2 := by rw [← e3]; exact Nat.le_trans (putF_len _ _ _) (Nat.succ_le_succ (putF_len _ _ _))
    have on1 : f3.lookup ("left" : Str) = some (.ref l) := by rw [← e3, lk_ne (by decide +kernel)]; exact lk_eq
    have on2 : f3.lookup ("right" : Str) = some (.ref r) := by rw [← e3]; exact lk_eq
    have off3 : ∀ f, f ≠ ("left" : Str) → f ≠ ("right" : Str) → f3.lookup f = none := fun f a b => by rw [← e3, lk_ne b, lk_ne a]; rfl
    have st3 := stabO G H x (.ins C' dx f3)
    refine q_set (R := IsNX G (RL IsPr (pairsL d1.names.length d2.names.length))) h3 (ev_lc2R1 (R := IsPr) (m := d1.names.length) (c := d2.names.length) (f := fun a b => (((a : Nat) : Int), ((b : Nat) : Int))) (σa := fun a => [some (.ref x), some (.ref l), some (.ref r), some (.int (depL [d1, d2])), none, none, none, none, some (.int (a : Nat)), none]) (σb := fun a b => [some (.ref x), some (.ref l), some (.ref r), some (.int (depL [d1, d2])), none, none, none, none, some (.int (a : Nat)), some (.int (b : Nat))]) st3
      (ea_consV (ev_sF st3 h1 (ev_var rfl)).1 ea_nilV) (by omega) (by omega) (fun _ => rfl) (fun _ _ => rfl) (fun _ => rfl) (fun _ _ => rfl) (fun a G' ha s => ea_consV (ev_sF st3 (h2.mono s) (ev_var rfl)).1 ea_nilV) (fun a b G' ha hb s => (ev_tupN st3 (ea_consV (ev_var rfl) (ea_consV (ev_var rfl) ea_nilV)) (by simp)).imp fun v G'' s' ⟨p, e, _, g⟩ => ⟨p, e, g⟩)) fun v4 G4 H4 s4 r4 => ?_
    obtain ⟨p4, ws, rfl, _, g4, rl4⟩ := r4
    have lws := rl_len rl4
    have lpr : (pairsL d1.names.length d2.names.length).length = d1.names.length * d2.names.length := flat_len _ _ _
    have h14 := h1.mono s4.g
    have h24 := h2.mono s4.g
    have es : ∀ z : Str, Str.empty ++ z = z := Str.empty_append
    have ll1 := o1.ll
    have ll2 := o2.ll
    have hsz : (3000000 : Nat) ≤ sizeLine := by decide
    have c1 : ("<" : Str).length = 1 ∧ ("/" : Str).length = 1 ∧ (">" : Str).length = 1 ∧ ("(pair " : Str).length = 6 ∧ (" " : Str).length = 1 ∧ (")" : Str).length = 1 := by decide +kernel
    have la : ∀ a b : Str, (a ++ b).length = a.length + b.length := Str.length_append
    have sh1 : ∀ {a : Nat}, a < d1.names.length → (d1.names.getD a ("" : Str)).length ≤ 100000 := fun h => o1.sh _ (getD_mem h)
    have sh2 : ∀ {a : Nat}, a < d2.names.length → (d2.names.getD a ("" : Str)).length ≤ 100000 := fun h => o2.sh _ (getD_mem h)
    have prAt : ∀ {j : Nat} {s : Int × Int}, (pairsL d1.names.length d2.names.length)[j]? = some s → ∃ a b : Nat, s = (((a : Nat) : Int), ((b : Nat) : Int)) ∧ a < d1.names.length ∧ b < d2.names.length := fun {j s} h => by
      obtain ⟨a, ha, hb⟩ := List.mem_flatMap.mp (List.mem_of_getElem? h)
      obtain ⟨b, hb2, rfl⟩ := List.mem_map.mp hb
      exact ⟨a, b, rfl, List.mem_range.mp ha, List.mem_range.mp hb2⟩
    let nmOf : Int × Int → Str := fun s => ("<" : Str) ++ d1.names.getD s.1.toNat ("" : Str) ++ ("/" : Str) ++ d2.names.getD s.2.toNat ("" : Str) ++ (">" : Str)
    refine q_set (R := IsNX G4 (RL (fun s : Int × Int => IsV (.str (nmOf s))) (pairsL d1.names.length d2.names.length))) s4.s (ev_lcG (R := fun s : Int × Int => IsV (.str (nmOf s))) (ss := pairsL d1.names.length d2.names.length) (σf := fun j => [some (.ref x), some (.ref l), some (.ref r), some (.int (depL [d1, d2])), some (.ref p4), none, none, none, some (.int ((pairsL d1.names.length d2.names.length).getD j (0, 0)).1), some (.int ((pairsL d1.names.length d2.names.length).getD j (0, 0)).2)]) st3 (ev_var rfl) (SqL.of g4) lws (by omega)
      (fun j y G' J hy s' t' Qs q' => ?_) (fun _ => rfl) (fun j y s0 G' hy hs0 s' => ?_)) fun v5 G5 H5 s5 r5 => ?_
    · have hj : j < (pairsL d1.names.length d2.names.length).length := by
        have := (List.getElem?_eq_some_iff.mp hy).1
        omega
      have e1 : (pairsL d1.names.length d2.names.length)[j]? = some (pairsL d1.names.length d2.names.length)[j] := List.getElem?_eq_getElem hj
      obtain ⟨u, hu, pu, rfl, hpu⟩ := rl_get rl4 e1
      rw [hu] at hy
      obtain rfl := Option.some.inj hy
      have e2 : (pairsL d1.names.length d2.names.length).getD j (0, 0) = (pairsL d1.names.length d2.names.length)[j] := by rw [List.getD_eq_getElem?_getD, e1]; rfl
      rw [e2] at q'
      exact ⟨pu, _, rfl, SqT.of (t' _ _ (s' _ _ hpu)), rfl, _, _, rfl, _, _, rfl, rfl, q'⟩
    · have e2 : (pairsL d1.names.length d2.names.length).getD j (0, 0) = s0 := by rw [List.getD_eq_getElem?_getD, hs0]; rfl
      rw [e2]
      obtain ⟨a, b, rfl, ha, hb⟩ := prAt hs0
      have s1' := sh1 ha
      have s2' := sh2 hb
      exact ev_joined (ej_cons ev_c (by simp only [es]; omega) (ej_cons (ev_fmtS (ev_sNm st3 (h14.mono s') (ev_var rfl) (ea_consV (ev_var rfl) ea_nilV) (getD_names ha)) (by omega)) (by simp only [es, la]; omega) (ej_cons ev_c (by simp only [es, la]; omega) (ej_cons (ev_fmtS (ev_sNm st3 (h24.mono s') (ev_var rfl) (ea_consV (ev_var rfl) ea_nilV) (getD_names hb)) (by omega)) (by simp only [es, la]; omega) (ej_cons ev_c (by simp only [es, la]; omega) (by rw [es]; exact ej_nil))))))
    obtain ⟨p5, ys, rfl, _, g5, rl5⟩ := r5
    rw [rl_vals rl5] at g5
    have enm : ((pairsL d1.names.length d2.names.length).map fun s => V.str (nmOf s)) = (pairNames d1 d2).map V.str := by
      unfold pairNames pairsL
      rw [List.map_flatMap, List.map_flatMap]
      refine congrArg (fun f => List.flatMap f _) (funext fun a => ?_)
      rw [List.map_map, List.map_map]
      rfl
    rw [enm] at g5
    have g45 := s5.g _ _ g4
    have rl45 := rl_mon s5.g rl4
    have h15 := h14.mono s5.g
    have h25 := h24.mono s5.g
    have ixp : ∀ {n : Nat} {σ : L2.St} {u v : Int} {fld : Str}, 0 ≤ u → u < (d1.names.length : Nat) → 0 ≤ v → v < (d2.names.length : Nat) → σ[4]? = some (some (.ref p4)) → (∀ {n : Nat}, Ev (Own G H x (.ins C' dx f3)) n 0 (tFld K (tVar 1) fld) σ G5 (IsV (.int u))) → (∀ {n : Nat}, Ev (Own G H x (.ins C' dx f3)) n 0 (tFld K (tVar 2) fld) σ G5 (IsV (.int v))) →
        Ev (Own G H x (.ins C' dx f3)) n (0 + (0 + (0 + 0) + 0)) (tBM K "list" (rIndexD K) (tVar 4) (tCons (tTup (tCons (tFld K (tVar 1) fld) (tCons (tFld K (tVar 2) fld) tNil))) tNil)) σ G5 (IsV (.int (u * (d2.names.length : Nat) + v))) := fun {n σ u v fld} u0 u1 v0 v1 e4 eu ev' => by
      obtain ⟨a, rfl⟩ : ∃ a : Nat, u = (a : Nat) := ⟨u.toNat, by omega⟩
      obtain ⟨b, rfl⟩ : ∃ b : Nat, v = (b : Nat) := ⟨v.toNat, by omega⟩
      have ha : a < d1.names.length := by omega
      have hb : b < d2.names.length := by omega
      refine ev_bmL st3 (ev_var e4) (SqL.of g45) (ea_cons (ev_tupN st3 (ea_consV eu (ea_consV ev' ea_nilV)) (by simp)) ea_nil) fun vs G' s' rr => ?_
      obtain ⟨y, _, rfl, ⟨q, rfl, _, gq⟩, rn⟩ := rr
      obtain rfl := (show _ = [] from rn)
      have z := idx_prL (K := K) (s := (((a : Nat) : Int), ((b : Nat) : Int))) st3 (SqL.of (s' _ _ g45)) (rl_mon s' rl45) (pairs_mem ha hb) ⟨q, rfl, gq⟩
      rw [pairs_idx ha hb, Int.natCast_add, Int.natCast_mul] at z
      exact z
    refine q_setV st3 s5.s (ixp o1.nv.1 o1.nv.2 o2.nv.1 o2.nv.2 rfl (ev_sF st3 h15 (ev_var rfl)).2.1 (ev_sF st3 h25 (ev_var rfl)).2.1) fun H6 k6 h6 => ?_
    refine q_setV st3 h6 (ixp o1.sl.1 o1.sl.2 o2.sl.1 o2.sl.2 rfl (ev_sF st3 h15 (ev_var rfl)).2.2.1 (ev_sF st3 h25 (ev_var rfl)).2.2.1) fun H7 k7 h7 => ?_
    refine q_supO h7 rfl hm hf (ea_cons (ev_joined (ej_cons ev_c (by simp only [es]; omega) (ej_cons (ev_fmtS (ev_sF st3 h15 (ev_var rfl)).2.2.2.1 (by omega)) (by simp only [es, la]; omega) (ej_cons ev_c (by simp only [es, la]; omega) (ej_cons (ev_fmtS (ev_sF st3 h25 (ev_var rfl)).2.2.2.1 (by omega)) (by simp only [es, la]; omega) (ej_cons ev_c (by simp only [es, la]; omega) ej_nil))))))
      (ea_cons (ev_var rfl) (ea_cons (ev_var rfl) (ea_cons (ev_var rfl) (ea_cons (ev_var rfl) ea_nil))))) (RO := fun _ _ fs' G' => ScI (pairSD d1 d2) fs' G' ∧ (∀ f, f ∉ scF → fs'.lookup f = f3.lookup f) ∧ fs'.length ≤ f3.length + 9) (fun vs G2 s2 r2 => ?_) (fun f5 G8 H8 s8 h8 r8 => ?_)
    · obtain ⟨_, _, rfl, a1, _, _, rfl, a2, _, _, rfl, a3, _, _, rfl, a4, _, _, rfl, a5, a6⟩ := r2
      obtain rfl := (show _ = _ from a1)
      obtain rfl := (show _ = _ from a2)
      obtain rfl := (show _ = _ from a3)
      obtain rfl := (show _ = _ from a4)
      obtain rfl := (show _ = _ from a5)
      obtain rfl := (show _ = _ from a6)
      have lpn := pairNames_len d1 d2
      refine ⟨rfl, (pairSD d1 d2).label, p5, pairNames d1 d2, (pairSD d1 d2).nv, (pairSD d1 d2).sl, depL [d1, d2], (pairSD d1 d2).th, (pairSD d1 d2).jn, by rw [es]; rfl, SqL.of (s2 _ _ g5), by omega, hnd, by omega, off3 _ (by decide +kernel) (by decide +kernel), off3 _ (by decide +kernel) (by decide +kernel), fun y dy fs' G' s3 hy hfs a b ha hb => ?_, rfl⟩
      have w1 : fs'.lookup ("left" : Str) = some (.ref l) := (hfs _ (by decide +kernel)).trans on1
      have w2 : fs'.lookup ("right" : Str) = some (.ref r) := (hfs _ (by decide +kernel)).trans on2
      have h16 := h15.mono (s2.trans s3)
      have h26 := h25.mono (s2.trans s3)
      rw [lpn] at ha hb
      exact ⟨⟨y, dy, l, r, fs', d1, d2, a, b, rfl, hy, w1, w2, h16, h26, o1, o2, ha, hb, rfl⟩, ⟨y, dy, l, r, fs', d1, d2, a, b, rfl, hy, w1, w2, h16, h26, o1, o2, ha, hb, rfl⟩⟩
    · exact q_end (q f5 _ _ (own_n h8) ⟨r8.1, fun f hf h1 h2 => (r8.2.1 f hf).trans (off3 f h1 h2), (r8.2.1 _ (by decide +kernel)).trans on1, (r8.2.1 _ (by decide +kernel)).trans on2⟩)
abbrev s_HeapScale___init__ : Stmt := inClass (top 30) 0
theorem sc_HeapScale___init__ : ScS ["self", "inner", "depth", "places", "words", "names", "number", "heap", "word", "k"] ["self", "inner"] (defScope s_HeapScale___init__) := ⟨rfl, rfl, rfl, by decide +kernel, rfl, by decide +kernel, by decide +kernel, rfl, by decide +kernel, rfl⟩
abbrev s_HeapScale_make_then : Stmt := inClass (top 30) 1
theorem sc_HeapScale_make_then : FnScope ["self", "first", "second", "found", "a", "b"] ["self", "first", "second"] (defScope s_HeapScale_make_then) := ⟨rfl, rfl, rfl, by decide +kernel, rfl, by decide +kernel, by decide +kernel⟩
abbrev s_HeapScale_make_join : Stmt := inClass (top 30) 2
theorem sc_HeapScale_make_join : FnScope ["self", "first", "second"] ["self", "first", "second"] (defScope s_HeapScale_make_join) := ⟨rfl, rfl, rfl, by decide +kernel, rfl, by decide +kernel, by decide +kernel⟩
theorem ok_heap_join {f : Addr} {fd : FuncData} (F : Fun K "make_join" "HeapScale.make_join" s_HeapScale_make_join f fd) : FnOk P w K mg base CX0 5 f fd ["self", "first", "second"] (spP PHpJ) := by
  refine F.ok sc_HeapScale_make_join (fun vs H Q E h => ?_) (fun cdv A outer s H vs Q E hr h => ?_)
  · obtain ⟨G, R, _, ⟨_, _, _, _, rfl, _⟩, _⟩ := h
    rfl
  · obtain ⟨G, R, hs, ⟨x, d, i, j, rfl, rfl⟩, q⟩ := h
    refine ⟨_, (pss_cons (ps_ret (pe_op op_or (pv 1) (pv 2)))
  pss_nil), ?_⟩
    have st := stab0 G H
    have h0 : SP0 G H 0 G H := Grow.refl hs
    show tSeq _ _ (Ends.mk _ _ _ _) [some _, some _, some _] _
    exact q_retV st h0 (ev_opV (ev_var rfl) (ev_var rfl) (v_bor st)) fun H1 k1 h1 => q _ _ _ h1 rfl
theorem ok_heap_then {Cs : List Addr} {C : Addr} (hC : Cls K C) (hi : NoAttr K C "inner") (hh : NoAttr K C "heaps") (c_then_at : ∀ C ∈ Cs, Method P w K mg base C "then_at" CX0 1 ["self", "first", "second"] [] (spP (PAt K fun th _ a b => .int (th a b))))
    {f : Addr} {fd : FuncData} (F : Fun K "make_then" "HeapScale.make_then" s_HeapScale_make_then f fd) : FnOk P w K mg base CX0 5 f fd ["self", "first", "second"] (spP (PHpM K Cs C)) := by
  refine F.ok sc_HeapScale_make_then (fun vs H Q E h => ?_) (fun cdv A outer s H vs Q E hr h => ?_)
  · obtain ⟨G, R, _, ⟨_, _, _, _, _, _, _, _, rfl, _⟩, _⟩ := h
    rfl
  · obtain ⟨G, R, hs, ⟨x, dx, l, hp, fs, d, a, b, rfl, hx, fi, fh, hd, o, hH, ha, hb, rfl⟩, q⟩ := h
    refine ⟨_, (pss_cons (ps_set (i := 3) sc_HeapScale_make_then.nd rfl (Or.inl rfl) pe_int)
  (pss_cons (ps_for PassesOwn.never rfl (pi_listK K (pe_ix (ix_any K (hu_of hr)) (pe_fldK K (pv 0)) (pv 1) (fun _ _ => rfl))) (pg_name (i := 4) sc_HeapScale_make_then.nd rfl (Or.inl rfl)) (pss_cons (ps_for PassesOwn.never rfl (pi_listK K (pe_ix (ix_any K (hu_of hr)) (pe_fldK K (pv 0)) (pv 2) (fun _ _ => rfl))) (pg_name (i := 5) sc_HeapScale_make_then.nd rfl (Or.inl rfl)) (pss_cons (ps_set (i := 3) sc_HeapScale_make_then.nd rfl (Or.inl rfl) (pe_op op_or (pv 3) (pe_op op_shl pe_int (pe_methA c_then_at (hr.mono (by decide)) pass0 (pe_fldK K (pv 0)) (pa_cons (pv 4) (pa_cons (pv 5) pa_nil))))))
  pss_nil))
  pss_nil))
  (pss_cons (ps_ret (pv 3))
  pss_nil))), ?_⟩
    have st := stab0 G H
    have h0 : SP0 G H 0 G H := Grow.refl hs
    show tSeq _ _ (Ends.mk _ _ _ _) [some _, some _, some _, none, none, none] _
    obtain ⟨hs1, gh, lh, hat⟩ := hH.at
    obtain ⟨qa, ea, ga⟩ := hat a ha
    obtain ⟨qb, eb, gb⟩ := hat b hb
    have l2 := o.l2
    have hpf : ∀ {n i c : Nat} {z : Addr} {σ : L2.St}, σ[0]? = some (some (.ref x)) → σ[i]? = some (some (.int (c : Nat))) → hs1[c]? = some (.ref z) → Ev (SP0 G H) n (0 + 0) (tOp (rIxA K) (tFld K (tVar 0) "heaps") (tVar i)) σ G (IsV (.ref z)) := fun e0 ei hz => ev_opV (ev_fld st (ev_var e0) hx hC hh fh) (ev_var ei) (v_ixL st (SqL.of gh) (atI_nat hz))
    let inn : Int → Nat → Int := fun f k => (bitsOf d.names.length b).foldl (fun f l => Builtin.bitOr f (1 * 2 ^ (d.th k l).toNat)) f
    refine q_setV st h0 ev_c fun H1 k1 h1 => ?_
    refine q_forPL st h1 (hpf rfl rfl ea) (SqL.of ga) (fun j σ' => ∃ y z, σ' = [some (.ref x), some (.int (a : Nat)), some (.int (b : Nat)), some (.int (((bitsOf d.names.length a).take j).foldl inn 0)), y, z]) ⟨_, _, rfl⟩ (fun j y σ' J hy hp s2 => ?_) (fun σ' J hp s2 => ?_)
    · obtain ⟨y1, y2, rfl⟩ := hp
      obtain ⟨hj, rfl⟩ := map_get hy
      have hk : (bitsOf d.names.length a)[j] < d.names.length := bits_lt (List.getElem_mem hj)
      rw [List.take_succ_eq_append_getElem hj, List.foldl_append, List.foldl_cons, List.foldl_nil]
      generalize (bitsOf d.names.length a)[j] = k at hk
      generalize ((bitsOf d.names.length a).take j).foldl inn 0 = acc
      show tSeq _ _ (Ends.mk _ _ _ _) [some (.ref x), some (.int (a : Nat)), some (.int (b : Nat)), some (.int acc), some (.int (k : Nat)), y2] _
      refine q_forPL st s2.s (hpf rfl rfl eb) (SqL.of gb) (fun j σ' => ∃ z, σ' = [some (.ref x), some (.int (a : Nat)), some (.int (b : Nat)), some (.int (((bitsOf d.names.length b).take j).foldl (fun f l => Builtin.bitOr f (1 * 2 ^ (d.th k l).toNat)) acc)), some (.int (k : Nat)), z]) ⟨_, rfl⟩ (fun i y σ' J3 hy hp s3 => ?_) (fun σ' J3 hp s3 => ?_)
      · obtain ⟨y3, rfl⟩ := hp
        obtain ⟨hi2, rfl⟩ := map_get hy
        have hl : (bitsOf d.names.length b)[i] < d.names.length := bits_lt (List.getElem_mem hi2)
        rw [List.take_succ_eq_append_getElem hi2, List.foldl_append, List.foldl_cons, List.foldl_nil]
        generalize (bitsOf d.names.length b)[i] = m at hl
        generalize ((bitsOf d.names.length b).take i).foldl (fun f l => Builtin.bitOr f (1 * 2 ^ (d.th k l).toNat)) acc = ac2
        have bd := o.th k m hk hl
        show tSeq _ _ (Ends.mk _ _ _ _) [some (.ref x), some (.int (a : Nat)), some (.int (b : Nat)), some (.int ac2), some (.int (k : Nat)), some (.int (m : Nat))] _
        refine q_setV st s3.s (ev_opV (ev_var rfl) (ev_opV ev_c (ev_sAt (pk := fun th _ a b => .int (th a b)) st hd (by decide) (ev_fld st (ev_var rfl) hx hC hi fi) (ea_consV (ev_var rfl) (ea_consV (ev_var rfl) ea_nilV)) hk hl) (v_shl st ⟨bd.1, by omega, by decide⟩)) (v_bor st)) fun H4 k4 h4 => q_end ⟨⟨_, rfl⟩, s3.go k4 h4⟩
      · obtain ⟨y3, rfl⟩ := hp
        rw [List.length_map, List.take_length]
        exact q_end ⟨⟨_, _, rfl⟩, ⟨Same.refl _, s2.k.trans s3.k, s3.s, fun _ _ h => .inl h⟩⟩
    · obtain ⟨y1, y2, rfl⟩ := hp
      rw [List.length_map, List.take_length]
      exact q_retV st s2.s (ev_var rfl) fun H4 k4 h4 => q _ _ _ h4 rfl
theorem ok_HeapScale_init {Cs : List Addr} {C fS : Addr} (Z : Bi mg) (hC : Cls K C) (hN : ∀ f ∈ ("inner" : Str) :: "heaps" :: scF, NoAttr K C f) (opq : PySem.W.nsIn K cStatics "thirdparty.any" = some none) (top0 : (P.main.scope.names.lookup ("super" : Str)).isSome = false)
    (hm : PySem.W.mroIn K C (.ref C) = some true) (hf : PySem.W.ks_superIn K C C "__init__" = some (some (.ref fS))) (c_super : SupC P w K mg base fS CX0 6 ["self", "label", "names", "never_at", "still_at", "depth"] [] (spI (PScI K C (PHpM K Cs C) PHpJ)))
    (c_depth_above : CalleeR P w K mg base "depth_above" CX0 2 (spP (PDepC K Cs))) (c_name_at : ∀ C ∈ Cs, Method P w K mg base C "name_at" CX0 1 ["self", "place"] [] (spP (PName K))) {f : Addr} {fd : FuncData} (F : FunSD P K "__init__" "HeapScale.__init__" s_HeapScale___init__ [] [] f fd C) :
    FnOk P w K mg base (L2.CX P w) 10 f fd ["self", "inner"] (spI (PHpI K Cs C)) := by
  refine F.toS.okX sc_HeapScale___init__ Z.z_super opq top0 rfl rfl (fun vs H Q E h => ?_) (fun cdv cc A outer s H vs Q E hr h SA => ?_)
  · obtain ⟨x, C', dx, fs, rest, G, R, rfl, _, _, _, ⟨_, _, _, _, rfl, _⟩, _⟩ := h
    rfl
  · obtain ⟨x, C', dx, fs, rest, G, R, rfl, hx, hG, gx, ⟨rfl, rfl, l, d, rfl, h1, o, h6, hd, hnd, rfl⟩, q⟩ := h
    refine ⟨_, (psa_cons (ps_set (i := 2) sc_HeapScale___init__.nd rfl (Or.inl rfl) (pe_callRC c_depth_above (hr.mono (by decide)) pass0 (pa_cons (pe_op op_shl pe_int (pe_fldK K (pv 1))) (pa_cons (pv 1) pa_nil))))
  (psa_cons (ps_fld (pv 0) (pv 1) rfl)
  (psa_cons (ps_set (i := 3) sc_HeapScale___init__.nd rfl (Or.inr rfl) (pe_listRg rfl (by rfl) Z.z_list (prg_1 (by rfl) Z.z_range (pe_fldK K (pv 1)))))
  (psa_cons (ps_fld (pv 0) (pe_lc (own := [("number", 6)]) (g := (gName 6)) rfl sc_HeapScale___init__.nd (pi_range1 (by rfl) Z.z_range (pa_cons (pe_op op_shl pe_int (pe_fldK K (pv 1))) pa_nil)) (blkOk_by (by kernel_rfl)) (fun _ _ _ _ _ => (pg_name (i := 6) sc_HeapScale___init__.nd rfl (Or.inr rfl))) (fun _ _ _ _ _ => pts_nil) (fun _ _ _ _ _ => (pe_lc (own := [("k", 9)]) (g := (gName 9)) rfl sc_HeapScale___init__.nd (pi_listK K (pv 3)) (blkOk_by (by kernel_rfl)) (fun _ _ _ _ _ => (pg_name (i := 9) sc_HeapScale___init__.nd rfl (Or.inl rfl))) (fun _ _ _ _ _ => (pts_one (pt_cmpR (op_eqA K hr.units) (pe_op op_and (pe_op op_shr (pv 6) (pv 9)) pe_int) pe_int (nomark _)))) (fun _ _ _ _ _ => (pv 9))))) rfl)
  (psa_cons (ps_setLc (i := 4) (own := [("heap", 7)]) (g := (gName 7)) rfl sc_HeapScale___init__.nd rfl rfl (sw_true rfl rfl rfl (by decide +kernel)) (pi_listK K (pe_fldK K (pv 0))) (blkOk_by (by kernel_rfl)) (fun _ _ _ _ _ => (pg_name (i := 7) sc_HeapScale___init__.nd rfl (Or.inl rfl))) (fun _ _ _ _ _ => pts_nil) (fun _ _ _ _ _ => (pe_joinK K pe_str (pe_lc (own := [("k", 9)]) (g := (gName 9)) rfl sc_HeapScale___init__.nd (pi_listK K (pv 7)) (blkOk_by (by kernel_rfl)) (fun _ _ _ _ _ => (pg_name (i := 9) sc_HeapScale___init__.nd rfl (Or.inl rfl))) (fun _ _ _ _ _ => pts_nil) (fun _ _ _ _ _ => (pe_methA c_name_at (hr.mono (by decide)) pass0 (pv 1) (pa_cons (pv 9) pa_nil)))))))
  (psa_cons (ps_setLc (i := 5) (own := [("word", 8)]) (g := (gName 8)) rfl sc_HeapScale___init__.nd rfl rfl (sw_true rfl rfl rfl (by decide +kernel)) (pi_listK K (pv 4)) (blkOk_by (by kernel_rfl)) (fun _ _ _ _ _ => (pg_name (i := 8) sc_HeapScale___init__.nd rfl (Or.inl rfl))) (fun _ _ _ _ _ => pts_nil) (fun _ _ _ _ _ => (pe_op op_addA (pe_op op_addA pe_str (pv 8)) pe_str)))
  (psa_supC SA rfl (Or.inl rfl) c_super (hr.mono (by decide)) pass0 (pa_cons (pe_joined (PJ.cons pe_str (PJ.cons (pe_fmt (pe_fldK K (pv 1))) (PJ.cons pe_str PJ.nil)))) (pa_cons (pv 5) (pa_cons pe_int (pa_cons (pe_op op_shl pe_int (pe_fldK K (pv 1))) (pa_cons (pv 2) pa_nil)))))
  (psa_end pss_nil)))))))), ?_⟩
    have h0 := own_start (o := .ins C' dx []) hG gx hx 0
    have st0 := stabO G H x (.ins C' dx [])
    show tSeq _ _ (Ends.mk _ _ _ _) [some _, some _, none, none, none, none, none, none, none, none] _
    have l1 := o.l1
    have p2n : 2 ^ d.names.length ≤ 64 := Nat.pow_le_pow_right (n := 2) (by decide) h6
    have e2n : ((1 : Int) * 2 ^ ((d.names.length : Nat) : Int).toNat) = ((2 ^ d.names.length : Nat) : Int) := by rw [Int.toNat_natCast, Int.one_mul, Int.natCast_pow]; rfl
    refine q_setV st0 h0 (x := .int (depL [d])) (ev_call st0 (ea_cons (ev_opV ev_c (ev_sF st0 h1 (ev_var rfl)).1 (v_shl st0 ⟨by omega, by omega, by decide⟩)) (ea_cons (ev_var rfl) ea_nil)) fun vs G' s' e => ?_) fun H1 k1 h1' => ?_
    · obtain ⟨_, _, rfl, a1, _, _, rfl, a2, a3⟩ := e
      obtain rfl := (show _ = _ from a1)
      obtain rfl := (show _ = _ from a2)
      obtain rfl := (show _ = _ from a3)
      exact ⟨_, [.ref l], [d], rfl, by simp, ⟨.ref l, [], rfl, ⟨l, rfl, h1.mono s'⟩, rfl⟩, by rw [e2n]; exact Int.ofNat_le.mpr p2n, hd, rfl⟩
    refine q_fldV h1' (ev_var rfl) rfl hC (hN _ (by decide)) (by decide) fun H2 h2 => ?_
    generalize e3 : putF ("inner" : Str) (.ref l) [] = f3 at h2
    have z3 : f3.length ≤ 1 := by rw [← e3]; exact putF_len _ _ _
    have on3 : f3.lookup ("inner" : Str) = some (.ref l) := by rw [← e3]; exact lk_eq
    have off3 : ∀ f, f ≠ ("inner" : Str) → f3.lookup f = none := fun f a => by rw [← e3, lk_ne a]; rfl
    have st3 := stabO G H x (.ins C' dx f3)
    refine q_set h2 (ev_listRg st3 (ev_sF st3 h1 (ev_var rfl)).1 (by omega) (by omega)) fun v4 G4 H4 s4 r4 => ?_
    obtain ⟨p4, rfl, _, g4⟩ := r4
    rw [Int.toNat_natCast] at g4
    have h14 := h1.mono s4.g
    have lr : ((List.range d.names.length).map fun i => V.int (i : Nat)).length = d.names.length := by rw [List.length_map, List.length_range]
    refine q_fldO s4.s (R := IsNX G4 (RL (fun a => IsIL (bitsOf d.names.length a)) (List.range (2 ^ d.names.length)))) ((ev_lcFR (R := fun a => IsIL (bitsOf d.names.length a)) (b := fun _ => true) (sj := fun a => a) (σf := fun a => [some (.ref x), some (.ref l), some (.int (depL [d])), some (.ref p4), none, none, some (.int (a : Nat)), none, none, none]) st3 (ea_consV (ev_opV ev_c (ev_sF st3 h14 (ev_var rfl)).1 (v_shl st3 ⟨by omega, by omega, by decide⟩)) ea_nilV) (by rw [e2n]; exact Int.le_trans (by decide) (Int.natCast_nonneg _)) (by rw [e2n]; exact Int.ofNat_le.mpr (show 2 ^ d.names.length ≤ 100000 by omega)) (fun j J Q q => q) (fun j => rfl) (fun j G' _ _ => et_yes)
      (fun a G' ha _ s' => (ev_lcF (R := fun k : Nat => IsV (.int (k : Nat))) (b := fun k => decide (Builtin.bitAnd (((a : Nat) : Int) / 2 ^ k) 1 = 1)) (sj := fun k => k) (σf := fun k => [some (.ref x), some (.ref l), some (.int (depL [d])), some (.ref p4), none, none, some (.int (a : Nat)), none, none, some (.int (k : Nat))]) st3 (ev_var rfl) (SqL.of (s' _ _ g4)) (by omega) (fun j y G'' J hy s'' t'' Qs q' => ?_) (fun j => rfl) (fun k y G'' hy s'' => et_testV (ev_opV (ev_opV (ev_opV (ev_var rfl) (ev_var rfl) (v_shr st3 (by omega))) ev_c (v_band st3)) ev_c (v_eqI st3))) (fun k y G'' hy _ s'' => ev_var rfl)).imp fun v G'' s'' r => ?_)).imp fun v G' s' r => ?_) rfl hC (hN _ (by decide)) (by omega) fun v5 G5 H5 s5 h5 r5 => ?_
    · obtain ⟨hj, rfl⟩ := map_get hy
      rw [List.getElem_range] at *
      exact q'
    · rw [lr, List.map_id'] at r
      obtain ⟨q, e, _, g⟩ := isNX_V (f := fun k : Nat => V.int (k : Nat)) r
      exact ⟨q, e, g⟩
    · rw [filt_true, List.map_id', e2n, Int.toNat_natCast] at r
      exact r
    obtain ⟨p5, hs5, rfl, _, g5, rl5⟩ := r5
    generalize e5 : putF ("heaps" : Str) (.ref p5) f3 = f5 at h5
    have z5 : f5.length ≤ 2 := by rw [← e5]; exact Nat.le_trans (putF_len _ _ _) (by omega)
    have on5 : f5.lookup ("inner" : Str) = some (.ref l) := by rw [← e5, lk_ne (by decide +kernel)]; exact on3
    have on6 : f5.lookup ("heaps" : Str) = some (.ref p5) := by rw [← e5]; exact lk_eq
    have off5 : ∀ f, f ≠ ("inner" : Str) → f ≠ ("heaps" : Str) → f5.lookup f = none := fun f a b => by rw [← e5, lk_ne b]; exact off3 f a
    have st5 := stabO G H x (.ins C' dx f5)
    have h15 := h14.mono s5
    have l5 := rl_len rl5
    rw [List.length_range] at l5
    have hsz : (10000000 : Nat) ≤ sizeLine := by decide
    have wc : ("," : Str).length = 1 := by decide +kernel
    have shn : ∀ {k : Nat}, k < d.names.length → (d.names.getD k ("" : Str)).length ≤ 100000 := fun h => o.sh _ (getD_mem h)
    have jl : ∀ a : Nat, ((((bitsOf d.names.length a).map fun k => d.names.getD k ("" : Str)).map (·.length)).sum + ((bitsOf d.names.length a).map fun k => d.names.getD k ("" : Str)).length * ("," : Str).length ≤ 6 * 100001) ∧ (Txt.join ("," : Str) ((bitsOf d.names.length a).map fun k => d.names.getD k ("" : Str))).length ≤ 6 * 100001 := fun a => by
      have hb := bits_len d.names.length a
      have hall : ∀ y ∈ (bitsOf d.names.length a).map (fun k => d.names.getD k ("" : Str)), y.length ≤ 100000 := fun y hy => by
        obtain ⟨k, hk, rfl⟩ := List.mem_map.mp hy
        exact shn (bits_lt hk)
      have z : ∀ ys : List Str, (∀ y ∈ ys, y.length ≤ 100000) → (ys.map (·.length)).sum + ys.length * 1 ≤ ys.length * 100001 := fun ys h => by
        induction ys with
        | nil => simp
        | cons y r ih =>
          have := ih fun z hz => h z (List.mem_cons_of_mem _ hz)
          have hy := h y List.mem_cons_self
          simp only [List.map_cons, List.sum_cons, List.length_cons, Nat.succ_mul]
          omega
      have z1 := z _ hall
      have z2 := StrLaws.join_length_le ("," : Str) ((bitsOf d.names.length a).map fun k => d.names.getD k ("" : Str))
      rw [wc] at z2 ⊢
      have z3 : ((bitsOf d.names.length a).map fun k => d.names.getD k ("" : Str)).length ≤ 6 := by rw [List.length_map]; omega
      have z4 : ((bitsOf d.names.length a).map fun k => d.names.getD k ("" : Str)).length * 100001 ≤ 6 * 100001 := Nat.mul_le_mul_right _ z3
      refine ⟨Nat.le_trans z1 z4, ?_⟩
      show (Builtin.Str.glued ("," : Str) _).length ≤ _
      rw [StrLaws.glued_eq_join]
      exact Nat.le_trans z2 (Nat.le_trans z1 z4)
    refine q_set (R := IsNX G5 (RL (fun a : Nat => IsV (.str (Txt.join ("," : Str) ((bitsOf d.names.length a).map fun k => d.names.getD k ("" : Str))))) (List.range (2 ^ d.names.length)))) h5 (ev_lcG (R := fun a : Nat => IsV (.str (Txt.join ("," : Str) ((bitsOf d.names.length a).map fun k => d.names.getD k ("" : Str))))) (ss := List.range (2 ^ d.names.length)) (σf := fun j => [some (.ref x), some (.ref l), some (.int (depL [d])), some (.ref p4), none, none, none, hs5[j]?, none, none]) st5 (ev_fldOwn rfl hC (hN _ (by decide)) on6) (SqL.of g5) (by rw [l5, List.length_range]) (by omega) (fun j y G' J hy s' t' Qs q' => ?_) (fun _ => rfl) (fun j y a G' hy ha s' => ?_)) fun v6 G6 H6 s6 r6 => ?_
    · rw [hy] at q'
      exact q'
    · show Ev _ _ _ _ [some (.ref x), some (.ref l), some (.int (depL [d])), some (.ref p4), none, none, none, hs5[j]?, none, none] _ _
      have hj : j < 2 ^ d.names.length := by
        have := (List.getElem?_eq_some_iff.mp ha).1
        rw [List.length_range] at this
        exact this
      obtain ⟨u, hu, qr, rfl, hqr⟩ := rl_get rl5 (List.getElem?_range hj)
      rw [List.getElem?_range hj] at ha
      obtain rfl := Option.some.inj ha
      rw [hu]
      refine ev_join st5 ev_c ((ev_lcVL (f := fun v => match v with | .int k => .str (d.names.getD k.toNat ("" : Str)) | _ => .non) st5 (ev_var rfl) (SqL.of (s' _ _ hqr)) (by rw [List.length_map]; have := bits_len d.names.length j; omega) (fun _ => rfl) fun i z G'' hz s'' => ?_).imp fun v G'' s'' ⟨p, e, _, g⟩ => ⟨p, e, SqL.of (by rw [g, List.map_map, List.map_map]; rfl)⟩) (Nat.le_trans (jl j).1 (by decide))
      obtain ⟨hi2, rfl⟩ := map_get hz
      have hk := bits_lt (List.getElem_mem hi2)
      exact ev_sNm st5 ((h15.mono s').mono s'') (ev_var rfl) (ea_consV (ev_var rfl) ea_nilV) (by rw [getD_names hk]; rfl)
    obtain ⟨p6, ws6, rfl, _, g6, rl6⟩ := r6
    rw [rl_vals rl6] at g6
    have h16 := h15.mono s6.g
    have la : ∀ a b : Str, (a ++ b).length = a.length + b.length := Str.length_append
    have c1 : ("{" : Str).length = 1 ∧ ("}" : Str).length = 1 ∧ ("(heap " : Str).length = 6 ∧ (")" : Str).length = 1 := by decide +kernel
    refine q_set s6.s (ev_lcVL (f := fun v => match v with | .str z => .str (("{" : Str) ++ z ++ ("}" : Str)) | _ => .non) st5 (ev_var rfl) (SqL.of g6) (by rw [List.length_map, List.length_range]; omega) (fun _ => rfl) fun j z G' hz s' => ?_) fun v7 G7 H7 s7 r7 => ?_
    · obtain ⟨hj, rfl⟩ := map_get hz
      have := (jl (List.range (2 ^ d.names.length))[j]).2
      exact ev_opV (ev_opV ev_c (ev_var rfl) (v_adds st5 (by omega))) ev_c (v_adds st5 (by simp only [la]; omega))
    obtain ⟨p7, rfl, _, g7⟩ := r7
    have g7 : G7 p7 = some (.lst ((heapNames d.names).map V.str)) := by
      rw [g7, List.map_map]
      unfold heapNames
      rw [List.map_map]
      rfl
    have es : ∀ z : Str, Str.empty ++ z = z := Str.empty_append
    have ll := o.ll
    have h17 := h16.mono s7.g
    have osl := o.sl
    refine q_supO s7.s rfl hm hf (ea_cons (ev_joined (ej_cons ev_c (by simp only [es]; omega) (ej_cons (ev_fmtS (ev_sF st5 h17 (ev_var rfl)).2.2.2.1 (by omega)) (by simp only [es, la]; omega) (ej_cons ev_c (by simp only [es, la]; omega) ej_nil))))
      (ea_cons (ev_var rfl) (ea_cons ev_c (ea_cons (ev_opV ev_c (ev_sF st5 h17 (ev_var rfl)).2.2.1 (v_shl st5 ⟨osl.1, by omega, by decide⟩)) (ea_cons (ev_var rfl) ea_nil))))) (RO := fun _ _ fs' G' => ScI (heapSD d) fs' G' ∧ (∀ f, f ∉ scF → fs'.lookup f = f5.lookup f) ∧ fs'.length ≤ f5.length + 9) (fun vs G2 s2 r2 => ?_) (fun f8 G8 H8 s8 h8 r8 => ?_)
    · obtain ⟨_, _, rfl, a1, _, _, rfl, a2, _, _, rfl, a3, _, _, rfl, a4, _, _, rfl, a5, a6⟩ := r2
      obtain rfl := (show _ = _ from a1)
      obtain rfl := (show _ = _ from a2)
      obtain rfl := (show _ = _ from a3)
      obtain rfl := (show _ = _ from a4)
      obtain rfl := (show _ = _ from a5)
      obtain rfl := (show _ = _ from a6)
      have lhn := heapNames_len d.names
      refine ⟨rfl, (heapSD d).label, p7, heapNames d.names, 0, (heapSD d).sl, depL [d], (heapSD d).th, (heapSD d).jn, by rw [es]; rfl, SqL.of (s2 _ _ g7), by omega, hnd, by omega, off5 _ (by decide +kernel) (by decide +kernel), off5 _ (by decide +kernel) (by decide +kernel), fun y dy fs' G' s3 hy hfs a b ha hb => ?_, rfl⟩
      have w1 : fs'.lookup ("inner" : Str) = some (.ref l) := (hfs _ (by decide +kernel)).trans on5
      have w2 : fs'.lookup ("heaps" : Str) = some (.ref p5) := (hfs _ (by decide +kernel)).trans on6
      rw [lhn] at ha hb
      exact ⟨⟨y, dy, l, p5, fs', d, a, b, rfl, hy, w1, w2, h17.mono (s2.trans s3), o, ⟨hs5, s3 _ _ (s2 _ _ (s7.g _ _ (s6.g _ _ g5))), rl_mon (((s6.g.trans s7.g).trans s2).trans s3) rl5⟩, ha, hb, rfl⟩, ⟨y, d, a, b, rfl, rfl⟩⟩
    · exact q_end (q f8 _ _ (own_n h8) ⟨r8.1, fun f hf h1 h2 => (r8.2.1 f hf).trans (off5 f h1 h2), (r8.2.1 _ (by decide +kernel)).trans on5⟩)
abbrev s_join_same : Stmt := top 2
theorem sc_join_same : FnScope ["s", "a", "b", "c"] ["s", "a", "b", "c"] (defScope s_join_same) := ⟨rfl, rfl, rfl, by decide +kernel, rfl, by decide +kernel, by decide +kernel⟩
theorem ok_join_same {Cs : List Addr} (c_then_at : ∀ C ∈ Cs, Method P w K mg base C "then_at" CX0 1 ["self", "first", "second"] [] (spP (PAt K fun th _ a b => .int (th a b)))) (c_join_at : ∀ C ∈ Cs, Method P w K mg base C "join_at" CX0 1 ["self", "first", "second"] [] (spP (PAt K fun _ jn a b => .int (jn a b))))
    {f : Addr} {fd : FuncData} (F : Fun K "join_same" "join_same" s_join_same f fd) : FnOk P w K mg base CX0 2 f fd ["s", "a", "b", "c"] (spP (PSide K Cs 0)) := by
  refine F.ok sc_join_same (fun vs H Q E h => ?_) (fun cdv A outer s H vs Q E hr h => ?_)
  · obtain ⟨G, R, _, ⟨_, _, _, _, _, rfl, _⟩, _⟩ := h
    rfl
  · obtain ⟨G, R, hs, ⟨x, d, a, b, c, rfl, sd, o, ha, hb, hc, rfl⟩, q⟩ := h
    refine ⟨_, (pss_cons (ps_ret (pe_tup (pa_cons (pe_methA c_join_at (hr.mono (by decide)) pass0 (pv 0) (pa_cons (pv 1) (pa_cons (pv 1) pa_nil))) (pa_cons (pv 1) pa_nil))))
  pss_nil), ?_⟩
    have st := stab0 G H
    have h0 : SP0 G H 0 G H := Grow.refl hs
    have hz : d.nv.toNat < d.names.length := by have := o.nv; omega
    have hu : d.sl.toNat < d.names.length := by have := o.sl; omega
    show tSeq _ _ (Ends.mk _ _ _ _) [some _, some _, some _, some _] _
    exact q_ret h0 (ev_pd st (ev_dI (ev_J st sd o (ev_var rfl) (ev_var rfl) (ev_var rfl) ha ha)) (ev_dI (ev_var rfl))) fun v G1 H1 s1 r => q v _ _ s1.s r
abbrev s_join_swap : Stmt := top 3
theorem sc_join_swap : FnScope ["s", "a", "b", "c"] ["s", "a", "b", "c"] (defScope s_join_swap) := ⟨rfl, rfl, rfl, by decide +kernel, rfl, by decide +kernel, by decide +kernel⟩
theorem ok_join_swap {Cs : List Addr} (c_then_at : ∀ C ∈ Cs, Method P w K mg base C "then_at" CX0 1 ["self", "first", "second"] [] (spP (PAt K fun th _ a b => .int (th a b)))) (c_join_at : ∀ C ∈ Cs, Method P w K mg base C "join_at" CX0 1 ["self", "first", "second"] [] (spP (PAt K fun _ jn a b => .int (jn a b))))
    {f : Addr} {fd : FuncData} (F : Fun K "join_swap" "join_swap" s_join_swap f fd) : FnOk P w K mg base CX0 2 f fd ["s", "a", "b", "c"] (spP (PSide K Cs 1)) := by
  refine F.ok sc_join_swap (fun vs H Q E h => ?_) (fun cdv A outer s H vs Q E hr h => ?_)
  · obtain ⟨G, R, _, ⟨_, _, _, _, _, rfl, _⟩, _⟩ := h
    rfl
  · obtain ⟨G, R, hs, ⟨x, d, a, b, c, rfl, sd, o, ha, hb, hc, rfl⟩, q⟩ := h
    refine ⟨_, (pss_cons (ps_ret (pe_tup (pa_cons (pe_methA c_join_at (hr.mono (by decide)) pass0 (pv 0) (pa_cons (pv 1) (pa_cons (pv 2) pa_nil))) (pa_cons (pe_methA c_join_at (hr.mono (by decide)) pass0 (pv 0) (pa_cons (pv 2) (pa_cons (pv 1) pa_nil))) pa_nil))))
  pss_nil), ?_⟩
    have st := stab0 G H
    have h0 : SP0 G H 0 G H := Grow.refl hs
    have hz : d.nv.toNat < d.names.length := by have := o.nv; omega
    have hu : d.sl.toNat < d.names.length := by have := o.sl; omega
    show tSeq _ _ (Ends.mk _ _ _ _) [some _, some _, some _, some _] _
    exact q_ret h0 (ev_pd st (ev_dI (ev_J st sd o (ev_var rfl) (ev_var rfl) (ev_var rfl) ha hb)) (ev_dI (ev_J st sd o (ev_var rfl) (ev_var rfl) (ev_var rfl) hb ha))) fun v G1 H1 s1 r => q v _ _ s1.s r
abbrev s_join_group : Stmt := top 4
theorem sc_join_group : FnScope ["s", "a", "b", "c"] ["s", "a", "b", "c"] (defScope s_join_group) := ⟨rfl, rfl, rfl, by decide +kernel, rfl, by decide +kernel, by decide +kernel⟩
theorem ok_join_group {Cs : List Addr} (c_then_at : ∀ C ∈ Cs, Method P w K mg base C "then_at" CX0 1 ["self", "first", "second"] [] (spP (PAt K fun th _ a b => .int (th a b)))) (c_join_at : ∀ C ∈ Cs, Method P w K mg base C "join_at" CX0 1 ["self", "first", "second"] [] (spP (PAt K fun _ jn a b => .int (jn a b))))
    {f : Addr} {fd : FuncData} (F : Fun K "join_group" "join_group" s_join_group f fd) : FnOk P w K mg base CX0 2 f fd ["s", "a", "b", "c"] (spP (PSide K Cs 2)) := by
  refine F.ok sc_join_group (fun vs H Q E h => ?_) (fun cdv A outer s H vs Q E hr h => ?_)
  · obtain ⟨G, R, _, ⟨_, _, _, _, _, rfl, _⟩, _⟩ := h
    rfl
  · obtain ⟨G, R, hs, ⟨x, d, a, b, c, rfl, sd, o, ha, hb, hc, rfl⟩, q⟩ := h
    refine ⟨_, (pss_cons (ps_ret (pe_tup (pa_cons (pe_methA c_join_at (hr.mono (by decide)) pass0 (pv 0) (pa_cons (pe_methA c_join_at (hr.mono (by decide)) pass0 (pv 0) (pa_cons (pv 1) (pa_cons (pv 2) pa_nil))) (pa_cons (pv 3) pa_nil))) (pa_cons (pe_methA c_join_at (hr.mono (by decide)) pass0 (pv 0) (pa_cons (pv 1) (pa_cons (pe_methA c_join_at (hr.mono (by decide)) pass0 (pv 0) (pa_cons (pv 2) (pa_cons (pv 3) pa_nil))) pa_nil))) pa_nil))))
  pss_nil), ?_⟩
    have st := stab0 G H
    have h0 : SP0 G H 0 G H := Grow.refl hs
    have hz : d.nv.toNat < d.names.length := by have := o.nv; omega
    have hu : d.sl.toNat < d.names.length := by have := o.sl; omega
    show tSeq _ _ (Ends.mk _ _ _ _) [some _, some _, some _, some _] _
    exact q_ret h0 (ev_pd st (ev_dI (ev_J st sd o (ev_var rfl) (ev_J st sd o (ev_var rfl) (ev_var rfl) (ev_var rfl) ha hb) (ev_var rfl) (o.J ha hb).2 hc)) (ev_dI (ev_J st sd o (ev_var rfl) (ev_var rfl) (ev_J st sd o (ev_var rfl) (ev_var rfl) (ev_var rfl) hb hc) ha (o.J hb hc).2))) fun v G1 H1 s1 r => q v _ _ s1.s r
abbrev s_join_never : Stmt := top 5
theorem sc_join_never : FnScope ["s", "a", "b", "c"] ["s", "a", "b", "c"] (defScope s_join_never) := ⟨rfl, rfl, rfl, by decide +kernel, rfl, by decide +kernel, by decide +kernel⟩
theorem ok_join_never {Cs : List Addr} (c_then_at : ∀ C ∈ Cs, Method P w K mg base C "then_at" CX0 1 ["self", "first", "second"] [] (spP (PAt K fun th _ a b => .int (th a b)))) (c_join_at : ∀ C ∈ Cs, Method P w K mg base C "join_at" CX0 1 ["self", "first", "second"] [] (spP (PAt K fun _ jn a b => .int (jn a b))))
    {f : Addr} {fd : FuncData} (F : Fun K "join_never" "join_never" s_join_never f fd) : FnOk P w K mg base CX0 2 f fd ["s", "a", "b", "c"] (spP (PSide K Cs 3)) := by
  refine F.ok sc_join_never (fun vs H Q E h => ?_) (fun cdv A outer s H vs Q E hr h => ?_)
  · obtain ⟨G, R, _, ⟨_, _, _, _, _, rfl, _⟩, _⟩ := h
    rfl
  · obtain ⟨G, R, hs, ⟨x, d, a, b, c, rfl, sd, o, ha, hb, hc, rfl⟩, q⟩ := h
    refine ⟨_, (pss_cons (ps_ret (pe_tup (pa_cons (pe_methA c_join_at (hr.mono (by decide)) pass0 (pv 0) (pa_cons (pv 1) (pa_cons (pe_fldK K (pv 0)) pa_nil))) (pa_cons (pv 1) pa_nil))))
  pss_nil), ?_⟩
    have st := stab0 G H
    have h0 : SP0 G H 0 G H := Grow.refl hs
    have hz : d.nv.toNat < d.names.length := by have := o.nv; omega
    have hu : d.sl.toNat < d.names.length := by have := o.sl; omega
    show tSeq _ _ (Ends.mk _ _ _ _) [some _, some _, some _, some _] _
    exact q_ret h0 (ev_pd st (ev_dI (ev_J st sd o (ev_var rfl) (ev_var rfl) (ev_nv st sd o (ev_var rfl)) ha hz)) (ev_dI (ev_var rfl))) fun v G1 H1 s1 r => q v _ _ s1.s r
abbrev s_then_group : Stmt := top 6
theorem sc_then_group : FnScope ["s", "a", "b", "c"] ["s", "a", "b", "c"] (defScope s_then_group) := ⟨rfl, rfl, rfl, by decide +kernel, rfl, by decide +kernel, by decide +kernel⟩
theorem ok_then_group {Cs : List Addr} (c_then_at : ∀ C ∈ Cs, Method P w K mg base C "then_at" CX0 1 ["self", "first", "second"] [] (spP (PAt K fun th _ a b => .int (th a b)))) (c_join_at : ∀ C ∈ Cs, Method P w K mg base C "join_at" CX0 1 ["self", "first", "second"] [] (spP (PAt K fun _ jn a b => .int (jn a b))))
    {f : Addr} {fd : FuncData} (F : Fun K "then_group" "then_group" s_then_group f fd) : FnOk P w K mg base CX0 2 f fd ["s", "a", "b", "c"] (spP (PSide K Cs 4)) := by
  refine F.ok sc_then_group (fun vs H Q E h => ?_) (fun cdv A outer s H vs Q E hr h => ?_)
  · obtain ⟨G, R, _, ⟨_, _, _, _, _, rfl, _⟩, _⟩ := h
    rfl
  · obtain ⟨G, R, hs, ⟨x, d, a, b, c, rfl, sd, o, ha, hb, hc, rfl⟩, q⟩ := h
    refine ⟨_, (pss_cons (ps_ret (pe_tup (pa_cons (pe_methA c_then_at (hr.mono (by decide)) pass0 (pv 0) (pa_cons (pe_methA c_then_at (hr.mono (by decide)) pass0 (pv 0) (pa_cons (pv 1) (pa_cons (pv 2) pa_nil))) (pa_cons (pv 3) pa_nil))) (pa_cons (pe_methA c_then_at (hr.mono (by decide)) pass0 (pv 0) (pa_cons (pv 1) (pa_cons (pe_methA c_then_at (hr.mono (by decide)) pass0 (pv 0) (pa_cons (pv 2) (pa_cons (pv 3) pa_nil))) pa_nil))) pa_nil))))
  pss_nil), ?_⟩
    have st := stab0 G H
    have h0 : SP0 G H 0 G H := Grow.refl hs
    have hz : d.nv.toNat < d.names.length := by have := o.nv; omega
    have hu : d.sl.toNat < d.names.length := by have := o.sl; omega
    show tSeq _ _ (Ends.mk _ _ _ _) [some _, some _, some _, some _] _
    exact q_ret h0 (ev_pd st (ev_dI (ev_T st sd o (ev_var rfl) (ev_T st sd o (ev_var rfl) (ev_var rfl) (ev_var rfl) ha hb) (ev_var rfl) (o.T ha hb).2 hc)) (ev_dI (ev_T st sd o (ev_var rfl) (ev_var rfl) (ev_T st sd o (ev_var rfl) (ev_var rfl) (ev_var rfl) hb hc) ha (o.T hb hc).2))) fun v G1 H1 s1 r => q v _ _ s1.s r
abbrev s_then_still : Stmt := top 7
theorem sc_then_still : FnScope ["s", "a", "b", "c"] ["s", "a", "b", "c"] (defScope s_then_still) := ⟨rfl, rfl, rfl, by decide +kernel, rfl, by decide +kernel, by decide +kernel⟩
theorem ok_then_still {Cs : List Addr} (c_then_at : ∀ C ∈ Cs, Method P w K mg base C "then_at" CX0 1 ["self", "first", "second"] [] (spP (PAt K fun th _ a b => .int (th a b)))) (c_join_at : ∀ C ∈ Cs, Method P w K mg base C "join_at" CX0 1 ["self", "first", "second"] [] (spP (PAt K fun _ jn a b => .int (jn a b))))
    {f : Addr} {fd : FuncData} (F : Fun K "then_still" "then_still" s_then_still f fd) : FnOk P w K mg base CX0 2 f fd ["s", "a", "b", "c"] (spP (PSide K Cs 5)) := by
  refine F.ok sc_then_still (fun vs H Q E h => ?_) (fun cdv A outer s H vs Q E hr h => ?_)
  · obtain ⟨G, R, _, ⟨_, _, _, _, _, rfl, _⟩, _⟩ := h
    rfl
  · obtain ⟨G, R, hs, ⟨x, d, a, b, c, rfl, sd, o, ha, hb, hc, rfl⟩, q⟩ := h
    refine ⟨_, (pss_cons (ps_ret (pe_tup (pa_cons (pe_tup (pa_cons (pe_methA c_then_at (hr.mono (by decide)) pass0 (pv 0) (pa_cons (pe_fldK K (pv 0)) (pa_cons (pv 1) pa_nil))) (pa_cons (pe_methA c_then_at (hr.mono (by decide)) pass0 (pv 0) (pa_cons (pv 1) (pa_cons (pe_fldK K (pv 0)) pa_nil))) pa_nil))) (pa_cons (pe_tup (pa_cons (pv 1) (pa_cons (pv 1) pa_nil))) pa_nil))))
  pss_nil), ?_⟩
    have st := stab0 G H
    have h0 : SP0 G H 0 G H := Grow.refl hs
    have hz : d.nv.toNat < d.names.length := by have := o.nv; omega
    have hu : d.sl.toNat < d.names.length := by have := o.sl; omega
    show tSeq _ _ (Ends.mk _ _ _ _) [some _, some _, some _, some _] _
    exact q_ret h0 (ev_pd st (ev_dP (ev_pd st (ev_dI (ev_T st sd o (ev_var rfl) (ev_sl st sd o (ev_var rfl)) (ev_var rfl) hu ha)) (ev_dI (ev_T st sd o (ev_var rfl) (ev_var rfl) (ev_sl st sd o (ev_var rfl)) ha hu)))) (ev_dP (ev_pd st (ev_dI (ev_var rfl)) (ev_dI (ev_var rfl))))) fun v G1 H1 s1 r => q v _ _ s1.s r
abbrev s_then_never : Stmt := top 8
theorem sc_then_never : FnScope ["s", "a", "b", "c"] ["s", "a", "b", "c"] (defScope s_then_never) := ⟨rfl, rfl, rfl, by decide +kernel, rfl, by decide +kernel, by decide +kernel⟩
theorem ok_then_never {Cs : List Addr} (c_then_at : ∀ C ∈ Cs, Method P w K mg base C "then_at" CX0 1 ["self", "first", "second"] [] (spP (PAt K fun th _ a b => .int (th a b)))) (c_join_at : ∀ C ∈ Cs, Method P w K mg base C "join_at" CX0 1 ["self", "first", "second"] [] (spP (PAt K fun _ jn a b => .int (jn a b))))
    {f : Addr} {fd : FuncData} (F : Fun K "then_never" "then_never" s_then_never f fd) : FnOk P w K mg base CX0 2 f fd ["s", "a", "b", "c"] (spP (PSide K Cs 6)) := by
  refine F.ok sc_then_never (fun vs H Q E h => ?_) (fun cdv A outer s H vs Q E hr h => ?_)
  · obtain ⟨G, R, _, ⟨_, _, _, _, _, rfl, _⟩, _⟩ := h
    rfl
  · obtain ⟨G, R, hs, ⟨x, d, a, b, c, rfl, sd, o, ha, hb, hc, rfl⟩, q⟩ := h
    refine ⟨_, (pss_cons (ps_ret (pe_tup (pa_cons (pe_tup (pa_cons (pe_methA c_then_at (hr.mono (by decide)) pass0 (pv 0) (pa_cons (pe_fldK K (pv 0)) (pa_cons (pv 1) pa_nil))) (pa_cons (pe_methA c_then_at (hr.mono (by decide)) pass0 (pv 0) (pa_cons (pv 1) (pa_cons (pe_fldK K (pv 0)) pa_nil))) pa_nil))) (pa_cons (pe_tup (pa_cons (pe_fldK K (pv 0)) (pa_cons (pe_fldK K (pv 0)) pa_nil))) pa_nil))))
  pss_nil), ?_⟩
    have st := stab0 G H
    have h0 : SP0 G H 0 G H := Grow.refl hs
    have hz : d.nv.toNat < d.names.length := by have := o.nv; omega
    have hu : d.sl.toNat < d.names.length := by have := o.sl; omega
    show tSeq _ _ (Ends.mk _ _ _ _) [some _, some _, some _, some _] _
    exact q_ret h0 (ev_pd st (ev_dP (ev_pd st (ev_dI (ev_T st sd o (ev_var rfl) (ev_nv st sd o (ev_var rfl)) (ev_var rfl) hz ha)) (ev_dI (ev_T st sd o (ev_var rfl) (ev_var rfl) (ev_nv st sd o (ev_var rfl)) ha hz)))) (ev_dP (ev_pd st (ev_dI (ev_nv st sd o (ev_var rfl))) (ev_dI (ev_nv st sd o (ev_var rfl)))))) fun v G1 H1 s1 r => q v _ _ s1.s r
abbrev s_spread_left : Stmt := top 9
theorem sc_spread_left : FnScope ["s", "a", "b", "c"] ["s", "a", "b", "c"] (defScope s_spread_left) := ⟨rfl, rfl, rfl, by decide +kernel, rfl, by decide +kernel, by decide +kernel⟩
theorem ok_spread_left {Cs : List Addr} (c_then_at : ∀ C ∈ Cs, Method P w K mg base C "then_at" CX0 1 ["self", "first", "second"] [] (spP (PAt K fun th _ a b => .int (th a b)))) (c_join_at : ∀ C ∈ Cs, Method P w K mg base C "join_at" CX0 1 ["self", "first", "second"] [] (spP (PAt K fun _ jn a b => .int (jn a b))))
    {f : Addr} {fd : FuncData} (F : Fun K "spread_left" "spread_left" s_spread_left f fd) : FnOk P w K mg base CX0 2 f fd ["s", "a", "b", "c"] (spP (PSide K Cs 7)) := by
  refine F.ok sc_spread_left (fun vs H Q E h => ?_) (fun cdv A outer s H vs Q E hr h => ?_)
  · obtain ⟨G, R, _, ⟨_, _, _, _, _, rfl, _⟩, _⟩ := h
    rfl
  · obtain ⟨G, R, hs, ⟨x, d, a, b, c, rfl, sd, o, ha, hb, hc, rfl⟩, q⟩ := h
    refine ⟨_, (pss_cons (ps_ret (pe_tup (pa_cons (pe_methA c_then_at (hr.mono (by decide)) pass0 (pv 0) (pa_cons (pv 1) (pa_cons (pe_methA c_join_at (hr.mono (by decide)) pass0 (pv 0) (pa_cons (pv 2) (pa_cons (pv 3) pa_nil))) pa_nil))) (pa_cons (pe_methA c_join_at (hr.mono (by decide)) pass0 (pv 0) (pa_cons (pe_methA c_then_at (hr.mono (by decide)) pass0 (pv 0) (pa_cons (pv 1) (pa_cons (pv 2) pa_nil))) (pa_cons (pe_methA c_then_at (hr.mono (by decide)) pass0 (pv 0) (pa_cons (pv 1) (pa_cons (pv 3) pa_nil))) pa_nil))) pa_nil))))
  pss_nil), ?_⟩
    have st := stab0 G H
    have h0 : SP0 G H 0 G H := Grow.refl hs
    have hz : d.nv.toNat < d.names.length := by have := o.nv; omega
    have hu : d.sl.toNat < d.names.length := by have := o.sl; omega
    show tSeq _ _ (Ends.mk _ _ _ _) [some _, some _, some _, some _] _
    exact q_ret h0 (ev_pd st (ev_dI (ev_T st sd o (ev_var rfl) (ev_var rfl) (ev_J st sd o (ev_var rfl) (ev_var rfl) (ev_var rfl) hb hc) ha (o.J hb hc).2)) (ev_dI (ev_J st sd o (ev_var rfl) (ev_T st sd o (ev_var rfl) (ev_var rfl) (ev_var rfl) ha hb) (ev_T st sd o (ev_var rfl) (ev_var rfl) (ev_var rfl) ha hc) (o.T ha hb).2 (o.T ha hc).2))) fun v G1 H1 s1 r => q v _ _ s1.s r
abbrev s_spread_right : Stmt := top 10
theorem sc_spread_right : FnScope ["s", "a", "b", "c"] ["s", "a", "b", "c"] (defScope s_spread_right) := ⟨rfl, rfl, rfl, by decide +kernel, rfl, by decide +kernel, by decide +kernel⟩
theorem ok_spread_right {Cs : List Addr} (c_then_at : ∀ C ∈ Cs, Method P w K mg base C "then_at" CX0 1 ["self", "first", "second"] [] (spP (PAt K fun th _ a b => .int (th a b)))) (c_join_at : ∀ C ∈ Cs, Method P w K mg base C "join_at" CX0 1 ["self", "first", "second"] [] (spP (PAt K fun _ jn a b => .int (jn a b))))
    {f : Addr} {fd : FuncData} (F : Fun K "spread_right" "spread_right" s_spread_right f fd) : FnOk P w K mg base CX0 2 f fd ["s", "a", "b", "c"] (spP (PSide K Cs 8)) := by
  refine F.ok sc_spread_right (fun vs H Q E h => ?_) (fun cdv A outer s H vs Q E hr h => ?_)
  · obtain ⟨G, R, _, ⟨_, _, _, _, _, rfl, _⟩, _⟩ := h
    rfl
  · obtain ⟨G, R, hs, ⟨x, d, a, b, c, rfl, sd, o, ha, hb, hc, rfl⟩, q⟩ := h
    refine ⟨_, (pss_cons (ps_ret (pe_tup (pa_cons (pe_methA c_then_at (hr.mono (by decide)) pass0 (pv 0) (pa_cons (pe_methA c_join_at (hr.mono (by decide)) pass0 (pv 0) (pa_cons (pv 1) (pa_cons (pv 2) pa_nil))) (pa_cons (pv 3) pa_nil))) (pa_cons (pe_methA c_join_at (hr.mono (by decide)) pass0 (pv 0) (pa_cons (pe_methA c_then_at (hr.mono (by decide)) pass0 (pv 0) (pa_cons (pv 1) (pa_cons (pv 3) pa_nil))) (pa_cons (pe_methA c_then_at (hr.mono (by decide)) pass0 (pv 0) (pa_cons (pv 2) (pa_cons (pv 3) pa_nil))) pa_nil))) pa_nil))))
  pss_nil), ?_⟩
    have st := stab0 G H
    have h0 : SP0 G H 0 G H := Grow.refl hs
    have hz : d.nv.toNat < d.names.length := by have := o.nv; omega
    have hu : d.sl.toNat < d.names.length := by have := o.sl; omega
    show tSeq _ _ (Ends.mk _ _ _ _) [some _, some _, some _, some _] _
    exact q_ret h0 (ev_pd st (ev_dI (ev_T st sd o (ev_var rfl) (ev_J st sd o (ev_var rfl) (ev_var rfl) (ev_var rfl) ha hb) (ev_var rfl) (o.J ha hb).2 hc)) (ev_dI (ev_J st sd o (ev_var rfl) (ev_T st sd o (ev_var rfl) (ev_var rfl) (ev_var rfl) ha hc) (ev_T st sd o (ev_var rfl) (ev_var rfl) (ev_var rfl) hb hc) (o.T ha hc).2 (o.T hb hc).2))) fun v G1 H1 s1 r => q v _ _ s1.s r
abbrev s_broken_at : Stmt := top 12
theorem sc_broken_at : FnScope ["scale", "sides", "many", "places", "a", "b", "c", "left", "right"] ["scale", "sides", "many"] (defScope s_broken_at) := ⟨rfl, rfl, rfl, by decide +kernel, rfl, by decide +kernel, by decide +kernel⟩
theorem ok_broken_at {Cs fs : List Addr} (Z : Bi mg) (hA : ∀ f sp, SfF K Cs fs f = some sp → Held P w K mg base 2 f sp) {f : Addr} {fd : FuncData} (F : Fun K "broken_at" "broken_at" s_broken_at f fd) : FnOk P w K mg base CX0 3 f fd ["scale", "sides", "many"] (spP (PBrk K Cs fs)) := by
  refine F.ok sc_broken_at (fun vs H Q E h => ?_) (fun cdv A outer s H vs Q E hr h => ?_)
  · obtain ⟨G, R, _, ⟨_, _, _, _, rfl, _⟩, _⟩ := h
    rfl
  · obtain ⟨G, R, hs, ⟨x, g, d, i, rfl, hi, hg, hix, sd, o, rfl⟩, q⟩ := h
    refine ⟨_, (pss_cons (ps_set (i := 3) sc_broken_at.nd rfl (Or.inl rfl) (pe_listRg rfl (by rfl) Z.z_list (prg_1 (by rfl) Z.z_range (pe_fldK K (pv 0)))))
  (pss_cons (ps_for PassesOwn.never rfl (pi_listK K (pv 3)) (pg_name (i := 4) sc_broken_at.nd rfl (Or.inl rfl)) (pss_cons (ps_for PassesOwn.never rfl (pi_listK K (pe_ifExp (pt_cmpR op_gtA (pv 2) pe_int (nomark _)) (pv 3) (pe_lst (pa_cons (pv 4) pa_nil)))) (pg_name (i := 5) sc_broken_at.nd rfl (Or.inl rfl)) (pss_cons (ps_for PassesOwn.never rfl (pi_listK K (pe_ifExp (pt_cmpR op_gtA (pv 2) pe_int (nomark _)) (pv 3) (pe_lst (pa_cons (pv 4) pa_nil)))) (pg_name (i := 6) sc_broken_at.nd rfl (Or.inl rfl)) (pss_cons (ps_asg (pe_callA (i := 1) hA (hr.mono (by decide)) rfl (.inl rfl) (pa_cons (pv 0) (pa_cons (pv 4) (pa_cons (pv 5) (pa_cons (pv 6) pa_nil))))) (pg_tup rfl (pgs_cons (pg_name (i := 7) sc_broken_at.nd rfl (Or.inl rfl)) (pgs_cons (pg_name (i := 8) sc_broken_at.nd rfl (Or.inl rfl)) pgs_nil))))
  (pss_cons (ps_if (pt_cmpR (op_neA K hr.units) (pv 7) (pv 8) (nomark _)) (pss_cons (ps_ret (pe_slice (sl_tupAK K) (pe_tup (pa_cons (pv 4) (pa_cons (pv 5) (pa_cons (pv 6) pa_nil)))) po_none (po_some (pv 2))))
  pss_nil) pss_nil)
  pss_nil)))
  pss_nil))
  pss_nil))
  (pss_cons (ps_ret pe_non)
  pss_nil))), ?_⟩
    have st := stab0 G H
    have h0 : SP0 G H 0 G H := Grow.refl hs
    have l1 := o.l1
    have l2 := o.l2
    obtain ⟨n, hn⟩ : ∃ n, n = d.names.length := ⟨_, rfl⟩
    obtain ⟨l, hl⟩ : ∃ l, l = lensF i := ⟨_, rfl⟩
    rw [← hn, ← hl] at q
    rw [← hl]
    show tSeq _ _ (Ends.mk _ _ _ _) [some _, some _, some _, none, none, none, none, none, none] _
    refine q_set h0 (ev_listRg st (ev_sF st sd (ev_var rfl)).1 (by omega) (by omega)) fun v3 G3 H3 s3 r3 => ?_
    obtain ⟨p3, rfl, _, g3⟩ := r3
    rw [Int.toNat_natCast, ← hn] at g3
    refine q_forPL st s3.s (ev_var rfl) (SqL.of g3) (fun j σ' => (∃ y4 y5 y6 y7 y8, σ' = [some (.ref x), some (.ref g), some (.int (l : Nat)), some (.ref p3), y4, y5, y6, y7, y8]) ∧ ∀ (k : Nat) y, k < j → (List.range n)[k]? = some y → aF n l (failF i d) y = none) ⟨⟨_, _, _, _, _, rfl⟩, fun k y h => absurd h (Nat.not_lt_zero _)⟩ (fun j y σ' J hy hp sJ => ?_) (fun σ' J hp sJ => ?_)
    · obtain ⟨⟨y4, y5, y6, y7, y8, rfl⟩, hN⟩ := hp
      obtain ⟨hj, rfl⟩ := map_get hy
      rw [List.length_range] at hj
      rw [List.getElem_range]
      have row : ∀ {m : Nat} {k : Nat} {σ : L2.St} {G' : Hp}, Same G3 G' → σ[2]? = some (some (.int (l : Nat))) → σ[3]? = some (some (.ref p3)) → σ[4]? = some (some (.int (j : Nat))) → Ev (SP0 G H) m (0 + 0 + (0 + (0 + 0))) (tIf (tTest (tOp rGtI (tVar 2) (tC (.int (k : Nat))))) (tVar 3) (tLst (tCons (tVar 4) tNil))) σ G' (IsLX (IsVs ((rowF n l k j).map fun k => V.int (k : Nat)))) := by
        intro m k σ G' s' e2 e3 e4
        refine ev_if st (et_testV (ev_opV (ev_var e2) ev_c (v_gt st))) (fun hc => ?_) (fun hc => ?_)
        · have hc := of_decide_eq_true hc
          refine (ev_var e3).imp fun v G'' s'' e => ?_
          obtain rfl := (show _ = _ from e)
          refine ⟨p3, _, rfl, s'' _ _ (s' _ _ g3), ?_⟩
          show _ = _
          unfold rowF
          rw [if_pos (by omega)]
        · have hc := of_decide_eq_false hc
          refine (ev_lstN st (vs := [.int (j : Nat)]) (ea_consV (ev_var e4) ea_nilV) (by simp)).imp fun v G'' s'' e => ?_
          obtain ⟨p, rfl, _, g'⟩ := e
          refine ⟨p, _, rfl, g', ?_⟩
          show _ = _
          unfold rowF
          rw [if_neg (by omega)]
          rfl
      refine q_forPX (RA := IsVs ((rowF n l 1 j).map fun k => V.int (k : Nat))) st sJ.s (row (k := 1) (Same.refl _) rfl rfl rfl) (fun k σ' => (∃ y5 y6 y7 y8, σ' = [some (.ref x), some (.ref g), some (.int (l : Nat)), some (.ref p3), some (.int (j : Nat)), y5, y6, y7, y8]) ∧ ∀ (k' : Nat) y, k' < k → (rowF n l 1 j)[k']? = some y → bF n l (failF i d) j y = none) ⟨⟨_, _, _, _, rfl⟩, fun k y h => absurd h (Nat.not_lt_zero _)⟩ fun p5 xs5 G5 H5 s5 g5 ra5 => ⟨fun kb yb σ' J5 hy5 hp5 sJ5 => ?_, fun σ' J5 hp5 sJ5 => ?_⟩
      · obtain rfl := (show _ = _ from ra5)
        obtain ⟨⟨z5, z6, z7, z8, rfl⟩, hN5⟩ := hp5
        obtain ⟨hb0, rfl⟩ := map_get hy5
        have hb := rowF_lt hj _ (List.getElem_mem hb0)
        have hb1 := List.getElem?_eq_getElem hb0
        generalize (rowF n l 1 j)[kb] = b at hb hb1
        show tSeq _ _ (Ends.mk _ _ _ _) [some (.ref x), some (.ref g), some (.int (l : Nat)), some (.ref p3), some (.int (j : Nat)), some (.int (b : Nat)), z6, z7, z8] _
        refine q_forPX (RA := IsVs ((rowF n l 2 j).map fun k => V.int (k : Nat))) st sJ5.s (row (k := 2) s5.g rfl rfl rfl) (fun k σ' => (∃ y6 y7 y8, σ' = [some (.ref x), some (.ref g), some (.int (l : Nat)), some (.ref p3), some (.int (j : Nat)), some (.int (b : Nat)), y6, y7, y8]) ∧ ∀ (k' : Nat) y, k' < k → (rowF n l 2 j)[k']? = some y → cF n l (failF i d) j b y = none) ⟨⟨_, _, _, rfl⟩, fun k y h => absurd h (Nat.not_lt_zero _)⟩ fun p6 xs6 G6 H6 s6 g6 ra6 => ⟨fun kc yc σ' J6 hy6 hp6 sJ6 => ?_, fun σ' J6 hp6 sJ6 => ?_⟩
        · obtain rfl := (show _ = _ from ra6)
          obtain ⟨⟨w6, w7, w8, rfl⟩, hN6⟩ := hp6
          obtain ⟨hc0, rfl⟩ := map_get hy6
          have hc := rowF_lt hj _ (List.getElem_mem hc0)
          have hc1 := List.getElem?_eq_getElem hc0
          generalize (rowF n l 2 j)[kc] = c at hc hc1
          show tSeq _ _ (Ends.mk _ _ _ _) [some (.ref x), some (.ref g), some (.int (l : Nat)), some (.ref p3), some (.int (j : Nat)), some (.int (b : Nat)), some (.int (c : Nat)), w7, w8] _
          have sd6 := sd.mono ((s3.g.trans s5.g).trans s6.g)
          refine q_asgD st sJ6.s (ev_callA (P := PSide K Cs i) (R := IsPd K (sdL i d j b c) (sdR i d j b c)) (ws := [.ref x, .int (j : Nat), .int (b : Nat), .int (c : Nat)]) st rfl (by unfold SfF; rw [if_pos hg, hix]) (ea_consV (ev_var rfl) (ea_consV (ev_var rfl) (ea_consV (ev_var rfl) (ea_consV (ev_var rfl) ea_nilV)))) fun G' s' => ⟨x, d, j, b, c, rfl, sd6.mono s', o, by omega, by omega, by omega, rfl⟩) fun u v G7 H7 s7 du dv => ?_
          have sh := sd_shaped i hi d j b c
          refine q_if st s7.s (et_testV (ev_opV (ev_var rfl) (ev_var rfl) (v_neD st du dv sh.1 sh.2))) (fun H8 p8 k8 h8 => ?_) (fun H8 p8 k8 h8 => ?_)
          · refine q_ret h8 (ev_slT st (ev_tupN st (vs := [.int (j : Nat), .int (b : Nat), .int (c : Nat)]) (ea_consV (ev_var rfl) (ea_consV (ev_var rfl) (ea_consV (ev_var rfl) ea_nilV))) (by simp)) eo_none (eo_some (ev_var rfl))) fun v9 G9 H9 s9 r9 => q v9 G9 H9 s9.s ?_
            have e1 : cF n l (failF i d) j b c = some ([j, b, c].take l) := by
              unfold cF
              rw [if_pos (show failF i d j b c = true from p8.symm)]
            have e2 : bF n l (failF i d) j b = some ([j, b, c].take l) := fs_some hc1 hN6 e1
            have e3 : aF n l (failF i d) j = some ([j, b, c].take l) := fs_some hb1 hN5 e2
            have e4 : fndF n l (failF i d) = some ([j, b, c].take l) := fs_some (List.getElem?_range hj) hN e3
            rw [e4]
            obtain ⟨p9, rfl, g9⟩ := r9
            refine ⟨p9, rfl, g9.trans ?_⟩
            subst hl
            match i, hi with
            | 0, _ => rfl
            | 1, _ => rfl
            | 2, _ => rfl
            | 3, _ => rfl
            | 4, _ => rfl
            | 5, _ => rfl
            | 6, _ => rfl
            | 7, _ => rfl
            | 8, _ => rfl
          · refine q_end (q_end ⟨⟨⟨_, _, _, rfl⟩, fun k' y hk hy2 => ?_⟩, sJ6.back st ⟨s7.g, s7.k.trans k8, h8, s7.n⟩⟩)
            by_cases hkc : k' = kc
            · subst hkc
              rw [hc1] at hy2
              obtain rfl := Option.some.inj hy2
              unfold cF
              rw [if_neg (by rw [show failF i d j b c = false from p8.symm]; decide)]
            · exact hN6 k' y (by omega) hy2
        · obtain rfl := (show _ = _ from ra6)
          obtain ⟨⟨w6, w7, w8, rfl⟩, hN6⟩ := hp6
          rw [List.length_map] at hN6
          refine q_end ⟨⟨⟨_, _, _, _, rfl⟩, fun k' y hk hy2 => ?_⟩, sJ5.back st (s6.trans sJ6)⟩
          by_cases hkc : k' = kb
          · subst hkc
            rw [hb1] at hy2
            obtain rfl := Option.some.inj hy2
            exact fs_none fun k y hy => hN6 k y (List.getElem?_eq_some_iff.mp hy).1 hy
          · exact hN5 k' y (by omega) hy2
      · obtain rfl := (show _ = _ from ra5)
        obtain ⟨⟨z5, z6, z7, z8, rfl⟩, hN5⟩ := hp5
        rw [List.length_map] at hN5
        refine q_end ⟨⟨⟨_, _, _, _, _, rfl⟩, fun k' y hk hy2 => ?_⟩, sJ.back st (s5.trans sJ5)⟩
        by_cases hkc : k' = j
        · subst hkc
          rw [List.getElem?_range hj] at hy2
          obtain rfl := Option.some.inj hy2
          exact fs_none fun k y hy => hN5 k y (List.getElem?_eq_some_iff.mp hy).1 hy
        · exact hN k' y (by omega) hy2
    · obtain ⟨⟨y4, y5, y6, y7, y8, rfl⟩, hN⟩ := hp
      rw [List.length_map, List.length_range] at hN
      refine q_ret sJ.s ev_c fun v9 G9 H9 s9 r9 => q v9 G9 H9 s9.s ?_
      have e4 : fndF n l (failF i d) = none := fs_none fun k y hy => hN k y (by have := (List.getElem?_eq_some_iff.mp hy).1; rw [List.length_range] at this; exact this) hy
      rw [e4]
      exact r9
abbrev s_first_fault : Stmt := top 13
theorem sc_first_fault : FnScope ["scale", "word", "many", "sides", "worths", "place"] ["scale"] (defScope s_first_fault) := ⟨rfl, rfl, rfl, by decide +kernel, rfl, by decide +kernel, by decide +kernel⟩
theorem ok_first_fault {Cs fs rs : List Addr} {a_RULES : Addr} (Z : Bi mg) (g_RULES : mg "RULES" = some (.ref a_RULES)) (hR : ∀ H, SqT K H a_RULES (rs.map V.ref)) (hl : rs.length = 9) (hr9 : ∀ (i : Nat) r, rs[i]? = some r → ∃ f, fs[i]? = some f ∧ ∀ H, SqT K H r [.str (wordsF i), .int (lensF i : Nat), .ref f]) (nd : fs.Nodup)
    (c_broken_at : Callee P w K mg base "broken_at" CX0 3 ["scale", "sides", "many"] [] (spP (PBrk K Cs fs))) (c_name_at : ∀ C ∈ Cs, Method P w K mg base C "name_at" CX0 1 ["self", "place"] [] (spP (PName K)))
    {f : Addr} {fd : FuncData} (F : Fun K "first_fault" "first_fault" s_first_fault f fd) : FnOk P w K mg base CX0 4 f fd ["scale"] (spP (PFft K Cs)) := by
  refine F.ok sc_first_fault (fun vs H Q E h => ?_) (fun cdv A outer s H vs Q E hr h => ?_)
  · obtain ⟨G, R, _, ⟨_, _, rfl, _⟩, _⟩ := h
    rfl
  · obtain ⟨G, R, hs, ⟨x, d, rfl, sd, o, rfl⟩, q⟩ := h
    refine ⟨_, (pss_cons (ps_for PassesOwn.never rfl (pi_tupK K (pe_glob (v := .ref a_RULES) rfl g_RULES rfl)) (pg_tup rfl (pgs_cons (pg_name (i := 1) sc_first_fault.nd rfl (Or.inl rfl)) (pgs_cons (pg_name (i := 2) sc_first_fault.nd rfl (Or.inl rfl)) (pgs_cons (pg_name (i := 3) sc_first_fault.nd rfl (Or.inl rfl)) pgs_nil)))) (pss_cons (ps_set (i := 4) sc_first_fault.nd rfl (Or.inl rfl) (pe_callC c_broken_at (hr.mono (by decide)) pass0 (pa_cons (pv 0) (pa_cons (pv 3) (pa_cons (pv 2) pa_nil)))))
  (pss_cons (ps_if (pt_cmpR op_notN (pv 4) pe_non (nomark _)) (pss_cons (ps_ret (pe_tup (pa_cons (pv 1) (pa_cons (pe_callTy (call_tupleA K) (by rfl) Z.z_tuple (by decide +kernel) (pa_cons (pe_lc (own := [("place", 5)]) (g := (gName 5)) rfl sc_first_fault.nd (pi_tupK K (pv 4)) (blkOk_by (by kernel_rfl)) (fun _ _ _ _ _ => (pg_name (i := 5) sc_first_fault.nd rfl (Or.inl rfl))) (fun _ _ _ _ _ => pts_nil) (fun _ _ _ _ _ => (pe_methA c_name_at (hr.mono (by decide)) pass0 (pv 0) (pa_cons (pv 5) pa_nil)))) pa_nil)) pa_nil))))
  pss_nil) pss_nil)
  pss_nil)))
  (pss_cons (ps_ret pe_non)
  pss_nil)), ?_⟩
    have st := stab0 G H
    have h0 : SP0 G H 0 G H := Grow.refl hs
    show tSeq _ _ (Ends.mk _ _ _ _) [some _, none, none, none, none, none] _
    refine q_forPT st h0 ev_c (hR G) (fun j σ' => (∃ y1 y2 y3 y4, σ' = [some (.ref x), y1, y2, y3, y4, none]) ∧ ∀ (k : Nat) y, k < j → (List.range 9)[k]? = some y → ((fndF d.names.length (lensF y) (failF y d)).map fun t => (y, t)) = none) ⟨⟨_, _, _, _, rfl⟩, fun k y h => absurd h (Nat.not_lt_zero _)⟩ (fun j y σ' J hy hp sJ => ?_) (fun σ' J hp sJ => ?_)
    · obtain ⟨⟨y1, y2, y3, y4, rfl⟩, hN⟩ := hp
      obtain ⟨hj, rfl⟩ := map_get hy
      obtain ⟨fj, hf, hq⟩ := hr9 j _ (List.getElem?_eq_getElem hj)
      rw [hl] at hj
      obtain ⟨hfl, ef⟩ := List.getElem?_eq_some_iff.mp hf
      refine ⟨_, _, rfl, hq J, rfl, _, _, rfl, _, _, rfl, _, _, rfl, rfl, ?_⟩
      show tSeq _ _ (Ends.mk _ _ _ _) [some (.ref x), some (.str (wordsF j)), some (.int (lensF j : Nat)), some (.ref fj), y4, none] _
      refine q_set sJ.s (ev_callV (R := IsFn (fndF d.names.length (lensF j) (failF j d))) (ws := [.ref x, .ref fj, .int (lensF j : Nat)]) st (ea_consV (ev_var rfl) (ea_consV (ev_var rfl) (ea_consV (ev_var rfl) ea_nilV))) fun G' s' => ⟨x, fj, d, j, rfl, hj, List.mem_of_getElem? hf, by rw [← ef]; exact nd.idxOf_getElem j hfl, sd.mono s', o, rfl⟩) fun v4 G4 H4 s4 r4 => ?_
      obtain ⟨fo, ho⟩ : ∃ fo, fo = fndF d.names.length (lensF j) (failF j d) := ⟨_, rfl⟩
      rw [← ho] at r4
      cases fo with
      | none =>
        obtain rfl := (show _ = _ from r4)
        refine q_if st s4.s (et_testV (ev_opV (ev_var rfl) ev_c (v_notN st))) (fun H5 p5 k5 h5 => ?_) (fun H5 p5 k5 h5 => ?_)
        · cases p5
        · refine q_end (q_end ⟨⟨⟨_, _, _, _, rfl⟩, fun k' y hk hy2 => ?_⟩, sJ.back st ⟨s4.g, s4.k.trans k5, h5, s4.n⟩⟩)
          by_cases hkc : k' = j
          · subst hkc
            rw [List.getElem?_range hj] at hy2
            obtain rfl := Option.some.inj hy2
            rw [← ho]
            rfl
          · exact hN k' y (by omega) hy2
      | some t =>
        obtain ⟨p4, rfl, g4⟩ := r4
        refine q_if st s4.s (et_testV (ev_opV (ev_var rfl) ev_c (v_notN st))) (fun H5 p5 k5 h5 => ?_) (fun H5 p5 k5 h5 => ?_)
        · have tl := fndF_lt ho.symm
          have tln : t.length ≤ 3 := by
            obtain ⟨a, ha, h⟩ := List.exists_of_findSome?_eq_some ho.symm
            obtain ⟨b, hb, h⟩ := List.exists_of_findSome?_eq_some h
            obtain ⟨c, hc, h⟩ := List.exists_of_findSome?_eq_some h
            unfold cF at h
            split at h
            · obtain rfl := Option.some.inj h
              rw [List.length_take]
              show min _ 3 ≤ 3
              omega
            · cases h
          refine q_ret h5 (ev_tup (K := K) (RA := RCons (IsV (.str (wordsF j))) (RCons (IsTup (t.map fun k => V.str (d.names.getD k ("" : Str)))) RNil)) st (ea_cons (ev_var rfl) (ea_cons (ev_cb (RA := RCons (IsNew G4 (.lst (t.map fun k => V.str (d.names.getD k ("" : Str))))) RNil) (ea_cons ((ev_lcVT (f := fun v => match v with | .int k => .str (d.names.getD k.toNat ("" : Str)) | _ => .non) st (ev_var rfl) (SqT.of g4) (by rw [List.length_map]; omega) (fun _ => rfl) fun k z G'' hz s'' => ?_).imp fun v G' s' r => ?_) ea_nil) fun vs G' s' h => ?_) ea_nil)) fun vs G' h => ?_) fun v9 G9 H9 s9 r9 => q v9 G9 H9 s9.s ?_
          · obtain ⟨hk, rfl⟩ := map_get hz
            have hlt := tl _ (List.getElem_mem hk)
            exact ev_sNm st ((sd.mono s4.g).mono s'') (ev_var rfl) (ea_consV (ev_var rfl) ea_nilV) (by rw [getD_names hlt]; rfl)
          · rw [List.map_map] at r
            exact r
          · obtain ⟨_, _, rfl, ⟨p, rfl, _, gp⟩, e⟩ := h
            obtain rfl := (show _ = _ from e)
            exact rc_imp (c_tupN st (SqL.of gp)) fun v G' s' ⟨p, e, _, g⟩ => ⟨p, e, g⟩
          · obtain ⟨_, _, rfl, _, _, _, rfl, _, e⟩ := h
            obtain rfl := (show _ = _ from e)
            simp
          · obtain ⟨p9, _, rfl, g9, _, _, rfl, e1, _, _, rfl, ⟨q9, rfl, gq⟩, e⟩ := r9
            obtain rfl := (show _ = _ from e1)
            obtain rfl := (show _ = _ from e)
            have e4 : faultF d = some (j, t) := fs_some (List.getElem?_range hj) hN (by rw [← ho]; rfl)
            rw [e4]
            exact ⟨p9, q9, rfl, g9, gq⟩
        · cases p5
    · obtain ⟨⟨y1, y2, y3, y4, rfl⟩, hN⟩ := hp
      rw [List.length_map, hl] at hN
      refine q_ret sJ.s ev_c fun v9 G9 H9 s9 r9 => q v9 G9 H9 s9.s ?_
      have e4 : faultF d = none := fs_none fun k y hy => hN k y (by have := (List.getElem?_eq_some_iff.mp hy).1; rw [List.length_range] at this; exact this) hy
      rw [e4]
      exact r9
abbrev s__law_fails : Stmt := top 39
theorem sc__law_fails : FnScope ["_law_tables_here", "_law_rule", "_law_a", "_law_b", "_law_c", "_law_joins", "_law_products", "_law_low", "_law_mid", "_law_x", "_law_y", "_law_left"] ["_law_tables_here", "_law_rule", "_law_a", "_law_b", "_law_c"] (defScope s__law_fails) := ⟨rfl, rfl, rfl, by decide +kernel, rfl, by decide +kernel, by decide +kernel⟩
theorem ok_fails {f : Addr} {fd : FuncData} (Z : Bi mg) (F : Fun K "_law_fails" "_law_fails" s__law_fails f fd) : FnOk P w K mg base CX0 1 f fd ["_law_tables_here", "_law_rule", "_law_a", "_law_b", "_law_c"] (spP PFls) := by
  refine F.ok sc__law_fails (fun vs H Q E h => ?_) (fun cdv A outer s H vs Q E hr h => ?_)
  · obtain ⟨_, _, _, ⟨_, _, _, _, _, _, rfl, _⟩, _⟩ := h
    rfl
  · obtain ⟨G, R, hs, ⟨p, d, i, a, b, c, rfl, hT, o, hi, ha, hb, hc, rfl⟩, q⟩ := h
    refine ⟨_, (pss_cons (ps_set (i := 5) sc__law_fails.nd rfl (Or.inl rfl) (pe_ix (ix_any K (hu_of hr)) (pv 0) pe_int (fun _ _ => rfl)))
  (pss_cons (ps_set (i := 6) sc__law_fails.nd rfl (Or.inl rfl) (pe_ix (ix_any K (hu_of hr)) (pv 0) pe_int (fun _ _ => rfl)))
  (pss_cons (ps_set (i := 7) sc__law_fails.nd rfl (Or.inl rfl) (pe_ix (ix_any K (hu_of hr)) (pv 0) pe_int (fun _ _ => rfl)))
  (pss_cons (ps_set (i := 8) sc__law_fails.nd rfl (Or.inl rfl) (pe_ix (ix_any K (hu_of hr)) (pv 0) pe_int (fun _ _ => rfl)))
  (pss_cons (ps_if (pt_cmpR (op_eqA K hr.units) (pv 1) pe_int (nomark _)) (pss_cons (ps_ret (pe_cmpR (op_neA K hr.units) (pe_ix (ix_any K (hu_of hr)) (pe_ix (ix_any K (hu_of hr)) (pv 5) (pv 2) (fun _ _ => rfl)) (pv 2) (fun _ _ => rfl)) (pv 2) (nomark _)))
  pss_nil) pss_nil)
  (pss_cons (ps_if (pt_cmpR (op_eqA K hr.units) (pv 1) pe_int (nomark _)) (pss_cons (ps_ret (pe_cmpR (op_neA K hr.units) (pe_ix (ix_any K (hu_of hr)) (pe_ix (ix_any K (hu_of hr)) (pv 5) (pv 2) (fun _ _ => rfl)) (pv 3) (fun _ _ => rfl)) (pe_ix (ix_any K (hu_of hr)) (pe_ix (ix_any K (hu_of hr)) (pv 5) (pv 3) (fun _ _ => rfl)) (pv 2) (fun _ _ => rfl)) (nomark _)))
  pss_nil) pss_nil)
  (pss_cons (ps_if (pt_cmpR (op_eqA K hr.units) (pv 1) pe_int (nomark _)) (pss_cons (ps_ret (pe_cmpR (op_neA K hr.units) (pe_ix (ix_any K (hu_of hr)) (pe_ix (ix_any K (hu_of hr)) (pv 5) (pe_ix (ix_any K (hu_of hr)) (pe_ix (ix_any K (hu_of hr)) (pv 5) (pv 2) (fun _ _ => rfl)) (pv 3) (fun _ _ => rfl)) (fun _ _ => rfl)) (pv 4) (fun _ _ => rfl)) (pe_ix (ix_any K (hu_of hr)) (pe_ix (ix_any K (hu_of hr)) (pv 5) (pv 2) (fun _ _ => rfl)) (pe_ix (ix_any K (hu_of hr)) (pe_ix (ix_any K (hu_of hr)) (pv 5) (pv 3) (fun _ _ => rfl)) (pv 4) (fun _ _ => rfl)) (fun _ _ => rfl)) (nomark _)))
  pss_nil) pss_nil)
  (pss_cons (ps_if (pt_cmpR (op_eqA K hr.units) (pv 1) pe_int (nomark _)) (pss_cons (ps_ret (pe_cmpR (op_neA K hr.units) (pe_ix (ix_any K (hu_of hr)) (pe_ix (ix_any K (hu_of hr)) (pv 5) (pv 2) (fun _ _ => rfl)) (pv 7) (fun _ _ => rfl)) (pv 2) (nomark _)))
  pss_nil) pss_nil)
  (pss_cons (ps_if (pt_cmpR (op_eqA K hr.units) (pv 1) pe_int (nomark _)) (pss_cons (ps_set (i := 11) sc__law_fails.nd rfl (Or.inl rfl) (pe_ix (ix_any K (hu_of hr)) (pe_ix (ix_any K (hu_of hr)) (pv 6) (pe_ix (ix_any K (hu_of hr)) (pe_ix (ix_any K (hu_of hr)) (pv 6) (pv 2) (fun _ _ => rfl)) (pv 3) (fun _ _ => rfl)) (fun _ _ => rfl)) (pv 4) (fun _ _ => rfl)))
  (pss_cons (ps_ret (pe_cmpR (op_neA K hr.units) (pv 11) (pe_ix (ix_any K (hu_of hr)) (pe_ix (ix_any K (hu_of hr)) (pv 6) (pv 2) (fun _ _ => rfl)) (pe_ix (ix_any K (hu_of hr)) (pe_ix (ix_any K (hu_of hr)) (pv 6) (pv 3) (fun _ _ => rfl)) (pv 4) (fun _ _ => rfl)) (fun _ _ => rfl)) (nomark _)))
  pss_nil)) pss_nil)
  (pss_cons (ps_if (pt_cmpR (op_eqA K hr.units) (pv 1) pe_int (nomark _)) (pss_cons (ps_ret (pe_or (pe_cmpR (op_neA K hr.units) (pe_ix (ix_any K (hu_of hr)) (pe_ix (ix_any K (hu_of hr)) (pv 6) (pv 8) (fun _ _ => rfl)) (pv 2) (fun _ _ => rfl)) (pv 2) (nomark _)) (pe_one (pe_cmpR (op_neA K hr.units) (pe_ix (ix_any K (hu_of hr)) (pe_ix (ix_any K (hu_of hr)) (pv 6) (pv 2) (fun _ _ => rfl)) (pv 8) (fun _ _ => rfl)) (pv 2) (nomark _)))))
  pss_nil) pss_nil)
  (pss_cons (ps_if (pt_cmpR (op_eqA K hr.units) (pv 1) pe_int (nomark _)) (pss_cons (ps_ret (pe_or (pe_cmpR (op_neA K hr.units) (pe_ix (ix_any K (hu_of hr)) (pe_ix (ix_any K (hu_of hr)) (pv 6) (pv 7) (fun _ _ => rfl)) (pv 2) (fun _ _ => rfl)) (pv 7) (nomark _)) (pe_one (pe_cmpR (op_neA K hr.units) (pe_ix (ix_any K (hu_of hr)) (pe_ix (ix_any K (hu_of hr)) (pv 6) (pv 2) (fun _ _ => rfl)) (pv 7) (fun _ _ => rfl)) (pv 7) (nomark _)))))
  pss_nil) pss_nil)
  (pss_cons (ps_set (i := 9) sc__law_fails.nd rfl (Or.inl rfl) (pe_ifExp (pt_cmpR (op_eqA K hr.units) (pv 1) pe_int (nomark _)) (pe_ix (ix_any K (hu_of hr)) (pe_ix (ix_any K (hu_of hr)) (pv 6) (pv 2) (fun _ _ => rfl)) (pv 3) (fun _ _ => rfl)) (pe_ix (ix_any K (hu_of hr)) (pe_ix (ix_any K (hu_of hr)) (pv 6) (pv 2) (fun _ _ => rfl)) (pv 4) (fun _ _ => rfl))))
  (pss_cons (ps_set (i := 10) sc__law_fails.nd rfl (Or.inl rfl) (pe_ifExp (pt_cmpR (op_eqA K hr.units) (pv 1) pe_int (nomark _)) (pe_ix (ix_any K (hu_of hr)) (pe_ix (ix_any K (hu_of hr)) (pv 6) (pv 2) (fun _ _ => rfl)) (pv 4) (fun _ _ => rfl)) (pe_ix (ix_any K (hu_of hr)) (pe_ix (ix_any K (hu_of hr)) (pv 6) (pv 3) (fun _ _ => rfl)) (pv 4) (fun _ _ => rfl))))
  (pss_cons (ps_if (pt_cmpR (op_eqA K hr.units) (pv 1) pe_int (nomark _)) (pss_cons (ps_ret (pe_cmpR (op_neA K hr.units) (pe_ix (ix_any K (hu_of hr)) (pe_ix (ix_any K (hu_of hr)) (pv 6) (pv 2) (fun _ _ => rfl)) (pe_ix (ix_any K (hu_of hr)) (pe_ix (ix_any K (hu_of hr)) (pv 5) (pv 3) (fun _ _ => rfl)) (pv 4) (fun _ _ => rfl)) (fun _ _ => rfl)) (pe_ix (ix_any K (hu_of hr)) (pe_ix (ix_any K (hu_of hr)) (pv 5) (pv 9) (fun _ _ => rfl)) (pv 10) (fun _ _ => rfl)) (nomark _)))
  pss_nil) pss_nil)
  (pss_cons (ps_ret (pe_cmpR (op_neA K hr.units) (pe_ix (ix_any K (hu_of hr)) (pe_ix (ix_any K (hu_of hr)) (pv 6) (pe_ix (ix_any K (hu_of hr)) (pe_ix (ix_any K (hu_of hr)) (pv 5) (pv 2) (fun _ _ => rfl)) (pv 3) (fun _ _ => rfl)) (fun _ _ => rfl)) (pv 4) (fun _ _ => rfl)) (pe_ix (ix_any K (hu_of hr)) (pe_ix (ix_any K (hu_of hr)) (pv 5) (pv 9) (fun _ _ => rfl)) (pv 10) (fun _ _ => rfl)) (nomark _)))
  pss_nil))))))))))))))), ?_⟩
    have st := stab0 G H
    have h0 : SP0 G H 0 G H := Grow.refl hs
    obtain ⟨pj, pp, gp, tj, tp⟩ := hT
    have nz : d.nv.toNat < d.names.length := by have := o.nv; omega
    have ns : d.sl.toNat < d.names.length := by have := o.sl; omega
    show tSeq _ _ (Ends.mk _ _ _ _) [some _, some _, some _, some _, some _, none, none, none, none, none, none, none] _
    refine q_setV st h0 (ev_at (k := 0) st gp (ev_var rfl) rfl) fun H1 k1 h1 => ?_
    refine q_setV st h1 (ev_at (k := 1) st gp (ev_var rfl) rfl) fun H2 k2 h2 => ?_
    refine q_setV st h2 (ev_at (k := 2) st gp (ev_var rfl) rfl) fun H3 k3 h3 => ?_
    refine q_setV st h3 (ev_at (k := 3) st gp (ev_var rfl) rfl) fun H4 k4 h4 => ?_
    have eJ : ∀ {m x y : Nat} {tx ty : TE} {σ : L2.St}, σ[5]? = some (some (.ref pj)) → x < d.names.length → y < d.names.length → Ev (SP0 G H) m 0 tx σ G (IsV (.int (x : Nat))) → Ev (SP0 G H) m 0 ty σ G (IsV (.int (y : Nat))) → Ev (SP0 G H) m 0 (tOp (rIxA K) (tOp (rIxA K) (tVar 5) tx) ty) σ G (IsV (.int (d.J x y : Nat))) := fun e hx hy ex ey => ev_eq (congrArg V.int (o.J hx hy).1.symm) (ev_ent2 st tj (ev_var e) ex ey hx hy)
    have eT : ∀ {m x y : Nat} {tx ty : TE} {σ : L2.St}, σ[6]? = some (some (.ref pp)) → x < d.names.length → y < d.names.length → Ev (SP0 G H) m 0 tx σ G (IsV (.int (x : Nat))) → Ev (SP0 G H) m 0 ty σ G (IsV (.int (y : Nat))) → Ev (SP0 G H) m 0 (tOp (rIxA K) (tOp (rIxA K) (tVar 6) tx) ty) σ G (IsV (.int (d.T x y : Nat))) := fun e hx hy ex ey => ev_eq (congrArg V.int (o.T hx hy).1.symm) (ev_ent2 st tp (ev_var e) ex ey hx hy)
    have J : ∀ {x y : Nat}, x < d.names.length → y < d.names.length → d.J x y < d.names.length := fun hx hy => (o.J hx hy).2
    have T : ∀ {x y : Nat}, x < d.names.length → y < d.names.length → d.T x y < d.names.length := fun hx hy => (o.T hx hy).2
    have rule : ∀ {m : Nat} {σ : L2.St} (k : Nat), σ[1]? = some (some (.int (i : Nat))) → EvT (SP0 G H) m 0 (tTest (tOp (rEqA K) (tVar 1) (tC (.int (k : Nat))))) σ G (fun c => c = decide (i = k)) := fun k e => (et_testV (ev_opV (ev_var e) ev_c (v_eqI st))).imp fun c e => by
      rw [e]
      by_cases h : i = k
      · rw [decide_eq_true h, h, decide_eq_true rfl]
      · rw [decide_eq_false h, decide_eq_false (by omega)]
    have va : ∀ {m : Nat} {σ : L2.St}, σ[2]? = some (some (.int (a : Nat))) → Ev (SP0 G H) m 0 (tVar 2) σ G (IsV (.int (a : Nat))) := fun e => ev_var e
    have fin : ∀ {m x y : Nat} {tx ty : TE} {σ : L2.St}, Ev (SP0 G H) m 0 tx σ G (IsV (.int (x : Nat))) → Ev (SP0 G H) m 0 ty σ G (IsV (.int (y : Nat))) → Ev (SP0 G H) m 0 (tOp (rNeA K) tx ty) σ G (IsV (.bl (!PyData.eqv (dI x) (dI y)))) := fun ex ey => ev_eq (congrArg V.bl (ne_I _ _)) (ev_opV ex ey (v_neI st))
    refine q_if st h4 (rule 0 rfl) (fun H5 p5 k5 h5 => ?_) (fun H5 p5 k5 h5 => q_end ?_)
    · obtain rfl := of_decide_eq_true p5.symm
      exact q_ret h5 (fin (eJ rfl ha ha (ev_var rfl) (ev_var rfl)) (ev_var rfl)) fun v G1 H1 s1 r => q v _ _ s1.s r
    have n0 := of_decide_eq_false p5.symm
    refine q_if st h5 (rule 1 rfl) (fun H6 p6 k6 h6 => ?_) (fun H6 p6 k6 h6 => q_end ?_)
    · obtain rfl := of_decide_eq_true p6.symm
      exact q_ret h6 (fin (eJ rfl ha hb (ev_var rfl) (ev_var rfl)) (eJ rfl hb ha (ev_var rfl) (ev_var rfl))) fun v G1 H1 s1 r => q v _ _ s1.s r
    have n1 := of_decide_eq_false p6.symm
    refine q_if st h6 (rule 2 rfl) (fun H7 p7 k7 h7 => ?_) (fun H7 p7 k7 h7 => q_end ?_)
    · obtain rfl := of_decide_eq_true p7.symm
      exact q_ret h7 (fin (eJ rfl (J ha hb) hc (eJ rfl ha hb (ev_var rfl) (ev_var rfl)) (ev_var rfl)) (eJ rfl ha (J hb hc) (ev_var rfl) (eJ rfl hb hc (ev_var rfl) (ev_var rfl)))) fun v G1 H1 s1 r => q v _ _ s1.s r
    have n2 := of_decide_eq_false p7.symm
    refine q_if st h7 (rule 3 rfl) (fun H8 p8 k8 h8 => ?_) (fun H8 p8 k8 h8 => q_end ?_)
    · obtain rfl := of_decide_eq_true p8.symm
      exact q_ret h8 (fin (eJ rfl ha nz (ev_var rfl) (ev_var rfl)) (ev_var rfl)) fun v G1 H1 s1 r => q v _ _ s1.s r
    have n3 := of_decide_eq_false p8.symm
    refine q_if st h8 (rule 4 rfl) (fun H9 p9 k9 h9 => ?_) (fun H9 p9 k9 h9 => q_end ?_)
    · obtain rfl := of_decide_eq_true p9.symm
      refine q_setV st h9 (eT rfl (T ha hb) hc (eT rfl ha hb (ev_var rfl) (ev_var rfl)) (ev_var rfl)) fun H10 k10 h10 => ?_
      exact q_ret h10 (fin (ev_var rfl) (eT rfl ha (T hb hc) (ev_var rfl) (eT rfl hb hc (ev_var rfl) (ev_var rfl)))) fun v G1 H1 s1 r => q v _ _ s1.s r
    have n4 := of_decide_eq_false p9.symm
    refine q_if st h9 (rule 5 rfl) (fun H10 p10 k10 h10 => ?_) (fun H10 p10 k10 h10 => q_end ?_)
    · obtain rfl := of_decide_eq_true p10.symm
      exact q_ret h10 (ev_eq (congrArg V.bl (ne_P _ _ _ _)) (ev_orV st (ev_opV (eT rfl ns ha (ev_var rfl) (ev_var rfl)) (ev_var rfl) (v_neI st)) fun _ => ev_opV (eT rfl ha ns (ev_var rfl) (ev_var rfl)) (ev_var rfl) (v_neI st))) fun v G1 H1 s1 r => q v _ _ s1.s r
    have n5 := of_decide_eq_false p10.symm
    refine q_if st h10 (rule 6 rfl) (fun H11 p11 k11 h11 => ?_) (fun H11 p11 k11 h11 => q_end ?_)
    · obtain rfl := of_decide_eq_true p11.symm
      exact q_ret h11 (ev_eq (congrArg V.bl (ne_P _ _ _ _)) (ev_orV st (ev_opV (eT rfl nz ha (ev_var rfl) (ev_var rfl)) (ev_var rfl) (v_neI st)) fun _ => ev_opV (eT rfl ha nz (ev_var rfl) (ev_var rfl)) (ev_var rfl) (v_neI st))) fun v G1 H1 s1 r => q v _ _ s1.s r
    have n6 := of_decide_eq_false p11.symm
    have i78 : i = 7 ∨ i = 8 := by omega
    rcases i78 with rfl | rfl
    · refine q_setV st h11 (x := .int (d.T a b : Nat)) (ev_if (R := IsV (.int (d.T a b : Nat))) (ka := 0) (kb := 0) st (rule 7 rfl) (fun _ => eT rfl ha hb (ev_var rfl) (ev_var rfl)) fun z => by cases z) fun H12 k12 h12 => ?_
      refine q_setV st h12 (x := .int (d.T a c : Nat)) (ev_if (R := IsV (.int (d.T a c : Nat))) (ka := 0) (kb := 0) st (rule 7 rfl) (fun _ => eT rfl ha hc (ev_var rfl) (ev_var rfl)) fun z => by cases z) fun H13 k13 h13 => ?_
      refine q_if st h13 (rule 7 rfl) (fun H14 p14 k14 h14 => ?_) (fun H14 p14 k14 h14 => by cases p14)
      exact q_ret h14 (fin (eT rfl ha (J hb hc) (ev_var rfl) (eJ rfl hb hc (ev_var rfl) (ev_var rfl))) (eJ rfl (T ha hb) (T ha hc) (ev_var rfl) (ev_var rfl))) fun v G1 H1 s1 r => q v _ _ s1.s r
    · refine q_setV st h11 (x := .int (d.T a c : Nat)) (ev_if (R := IsV (.int (d.T a c : Nat))) (ka := 0) (kb := 0) st (rule 7 rfl) (fun z => by cases z) fun _ => eT rfl ha hc (ev_var rfl) (ev_var rfl)) fun H12 k12 h12 => ?_
      refine q_setV st h12 (x := .int (d.T b c : Nat)) (ev_if (R := IsV (.int (d.T b c : Nat))) (ka := 0) (kb := 0) st (rule 7 rfl) (fun z => by cases z) fun _ => eT rfl hb hc (ev_var rfl) (ev_var rfl)) fun H13 k13 h13 => ?_
      refine q_if st h13 (rule 7 rfl) (fun H14 p14 k14 h14 => by cases p14) (fun H14 p14 k14 h14 => q_end ?_)
      exact q_ret h14 (fin (eT rfl (J ha hb) hc (eJ rfl ha hb (ev_var rfl) (ev_var rfl)) (ev_var rfl)) (eJ rfl (T ha hc) (T hb hc) (ev_var rfl) (ev_var rfl))) fun v G1 H1 s1 r => q v _ _ s1.s r
abbrev s__law_fault : Stmt := top 40
theorem sc__law_fault : FnScope ["_law_tables_here", "_law_names", "_law_words", "_law_many", "_law_rule", "_law_length", "_law_a", "_law_b", "_law_c", "_law_k"] ["_law_tables_here", "_law_names"] (defScope s__law_fault) := ⟨rfl, rfl, rfl, by decide +kernel, rfl, by decide +kernel, by decide +kernel⟩
theorem ok_lfault {f : Addr} {fd : FuncData} (Z : Bi mg) (c__law_fails : Callee P w K mg base "_law_fails" CX0 1 ["_law_tables_here", "_law_rule", "_law_a", "_law_b", "_law_c"] [] (spP PFls)) (F : Fun K "_law_fault" "_law_fault" s__law_fault f fd) : FnOk P w K mg base CX0 2 f fd ["_law_tables_here", "_law_names"] (spP (PLft K)) := by
  refine F.ok sc__law_fault (fun vs H Q E h => ?_) (fun cdv A outer s H vs Q E hr h => ?_)
  · obtain ⟨_, _, _, ⟨_, _, _, rfl, _⟩, _⟩ := h
    rfl
  · obtain ⟨G, R, hs, ⟨p, pn, d, rfl, hT, o, gn, rfl⟩, q⟩ := h
    refine ⟨_, (pss_cons (ps_set (i := 2) sc__law_fault.nd rfl (Or.inl rfl) (pe_lst (pa_cons pe_str (pa_cons pe_str (pa_cons pe_str (pa_cons pe_str (pa_cons pe_str (pa_cons pe_str (pa_cons pe_str pa_nil)))))))))
  (pss_cons (ps_set (i := 2) sc__law_fault.nd rfl (Or.inl rfl) (pe_op op_addA (pv 2) (pe_lst (pa_cons pe_str (pa_cons pe_str pa_nil)))))
  (pss_cons (ps_set (i := 3) sc__law_fault.nd rfl (Or.inl rfl) (pe_callB (call_lenA K) (by rfl) Z.z_len PySem.boot_len (pa_cons (pv 1) pa_nil)))
  (pss_cons (ps_for PassesOwn.never rfl (pi_range1 (by rfl) Z.z_range (pa_cons pe_int pa_nil)) (pg_name (i := 4) sc__law_fault.nd rfl (Or.inl rfl)) (pss_cons (ps_set (i := 5) sc__law_fault.nd rfl (Or.inl rfl) (pe_ix (ix_any K (hu_of hr)) (pe_lst (pa_cons pe_int (pa_cons pe_int (pa_cons pe_int (pa_cons pe_int (pa_cons pe_int (pa_cons pe_int (pa_cons pe_int (pa_cons pe_int (pa_cons pe_int pa_nil)))))))))) (pv 4) (fun _ _ => rfl)))
  (pss_cons (ps_for PassesOwn.never rfl (pi_range1 (by rfl) Z.z_range (pa_cons (pv 3) pa_nil)) (pg_name (i := 6) sc__law_fault.nd rfl (Or.inl rfl)) (pss_cons (ps_for PassesOwn.never rfl (pi_range1 (by rfl) Z.z_range (pa_cons (pe_ifExp (pt_cmpR op_gtA (pv 5) pe_int (nomark _)) (pv 3) pe_int) pa_nil)) (pg_name (i := 7) sc__law_fault.nd rfl (Or.inl rfl)) (pss_cons (ps_for PassesOwn.never rfl (pi_range1 (by rfl) Z.z_range (pa_cons (pe_ifExp (pt_cmpR op_gtA (pv 5) pe_int (nomark _)) (pv 3) pe_int) pa_nil)) (pg_name (i := 8) sc__law_fault.nd rfl (Or.inl rfl)) (pss_cons (ps_if (pt_val (pe_callC c__law_fails (hr.mono (by decide)) pass0 (pa_cons (pv 0) (pa_cons (pv 4) (pa_cons (pv 6) (pa_cons (pv 7) (pa_cons (pv 8) pa_nil))))))) (pss_cons (ps_ret (pe_tup (pa_cons (pe_ix (ix_any K (hu_of hr)) (pv 2) (pv 4) (fun _ _ => rfl)) (pa_cons (pe_callTy (call_tupleA K) (by rfl) Z.z_tuple (by decide +kernel) (pa_cons (pe_lc (own := [("_law_k", 9)]) (g := (gName 9)) rfl sc__law_fault.nd (pi_listK K (pe_slice (sl_listK K) (pe_lst (pa_cons (pv 6) (pa_cons (pv 7) (pa_cons (pv 8) pa_nil)))) po_none (po_some (pv 5)))) (blkOk_by (by kernel_rfl)) (fun _ _ _ _ _ => (pg_name (i := 9) sc__law_fault.nd rfl (Or.inl rfl))) (fun _ _ _ _ _ => pts_nil) (fun _ _ _ _ _ => (pe_ix (ix_any K (hu_of hr)) (pv 1) (pv 9) (fun _ _ => rfl)))) pa_nil)) pa_nil))))
  pss_nil) pss_nil)
  pss_nil))
  pss_nil))
  pss_nil))
  pss_nil)))
  (pss_cons (ps_ret pe_non)
  pss_nil))))), ?_⟩
    have st := stab0 G H
    have h0 : SP0 G H 0 G H := Grow.refl hs
    have l1 := o.l1
    have l2 := o.l2
    obtain ⟨n, hn⟩ : ∃ n, n = d.names.length := ⟨_, rfl⟩
    show tSeq _ _ (Ends.mk _ _ _ _) [some _, some _, none, none, none, none, none, none, none, none] _
    refine q_set h0 (ev_lstN (vs := [.str "join-same", .str "join-swap", .str "join-group", .str "join-never", .str "then-group", .str "then-still", .str "then-never"]) st (ea_consV ev_c (ea_consV ev_c (ea_consV ev_c (ea_consV ev_c (ea_consV ev_c (ea_consV ev_c (ea_consV ev_c ea_nilV))))))) (by decide)) fun v1 G1 H1 s1 r1 => ?_
    obtain ⟨p1, rfl, _, g1⟩ := r1
    refine q_set s1.s (ev_op (Ra := IsV (.ref p1)) (Rb := IsNew G1 (.lst [.str "spread-left", .str "spread-right"])) (R := IsBl ((List.range 9).map fun i => V.str (wordsF i))) (ev_var rfl) (ev_lstN st (ea_consV ev_c (ea_consV ev_c ea_nilV)) (by decide)) fun u v G' s' hu hv => by
      obtain rfl := (show _ = _ from hu)
      obtain ⟨q2, rfl, _, g2⟩ := hv
      exact rv_imp (v_cat st (s' _ _ g1) g2 (by decide)) fun v G2 s2 ⟨q, e, _, g⟩ => ⟨q, e, g⟩) fun v2 G2 H2 s2 r2 => ?_
    obtain ⟨p2, rfl, g2⟩ := r2
    have s12 := s1.g.trans s2.g
    have gn2 := s12 _ _ gn
    have hT2 := hT.mono s12
    refine q_setV st s2.s (x := .int (n : Nat)) (ev_eq (y := .int ((d.names.map V.str).length : Nat)) (congrArg V.int (by rw [List.length_map, hn])) (ev_cbV (ea_consV (ev_var rfl) ea_nilV) (c_lenL st (SqL.of gn2)))) fun H3 k3 h3 => ?_
    refine q_forP (m := 9) st h3 (ea_consV ev_c ea_nilV) (by decide) (by decide) (fun j σ' => (∃ y4 y5 y6 y7 y8, σ' = [some (.ref p), some (.ref pn), some (.ref p2), some (.int (n : Nat)), y4, y5, y6, y7, y8, none]) ∧ ∀ k, k < j → ((lfndF n (lensF k) (failF k d)).map fun t => (k, t)) = none) ⟨⟨_, _, _, _, _, rfl⟩, fun k h => absurd h (Nat.not_lt_zero _)⟩ (fun i σ' J hi hp sJ => ?_) (fun σ' J hp sJ => ?_)
    · obtain ⟨⟨y4, y5, y6, y7, y8, rfl⟩, hN⟩ := hp
      have hi : i < 9 := by omega
      obtain ⟨l, hl⟩ : ∃ l, l = lensF i := ⟨_, rfl⟩
      have hl3 : l ≤ 3 := by
        rw [hl]
        match i, hi with
        | 0, _ => decide
        | 1, _ => decide
        | 2, _ => decide
        | 3, _ => decide
        | 4, _ => decide
        | 5, _ => decide
        | 6, _ => decide
        | 7, _ => decide
        | 8, _ => decide
      show tSeq _ _ (Ends.mk _ _ _ _) [some (.ref p), some (.ref pn), some (.ref p2), some (.int (n : Nat)), some (.int (i : Nat)), y5, y6, y7, y8, none] _
      refine q_setV st sJ.s (x := .int (l : Nat)) (ev_op (Ra := IsNew G2 (.lst [.int 1, .int 2, .int 3, .int 1, .int 3, .int 1, .int 1, .int 3, .int 3])) (Rb := IsV (.int (i : Nat))) (ev_lstN st (ea_consV ev_c (ea_consV ev_c (ea_consV ev_c (ea_consV ev_c (ea_consV ev_c (ea_consV ev_c (ea_consV ev_c (ea_consV ev_c (ea_consV ev_c ea_nilV))))))))) (by decide)) (ev_var rfl) fun u v G' s' hu hv => ?_) fun H4 k4 h4 => ?_
      · obtain ⟨qq, rfl, _, gq⟩ := hu
        obtain rfl := (show _ = _ from hv)
        refine v_ixL st (SqL.of gq) (atI_nat ?_)
        rw [hl]
        match i, hi with
        | 0, _ => rfl
        | 1, _ => rfl
        | 2, _ => rfl
        | 3, _ => rfl
        | 4, _ => rfl
        | 5, _ => rfl
        | 6, _ => rfl
        | 7, _ => rfl
        | 8, _ => rfl
      have rg : ∀ {m k : Nat} {σ : L2.St}, σ[5]? = some (some (.int (l : Nat))) → σ[3]? = some (some (.int (n : Nat))) → Ev (SP0 G H) m (0 + 0 + (0 + 0)) (tIf (tTest (tOp rGtI (tVar 5) (tC (.int (k : Nat))))) (tVar 3) (tC (.int 1))) σ G2 (IsV (.int (mL n l k : Nat))) := fun {m k σ} e5 e3 => ev_if st (et_testV (ev_opV (ev_var e5) ev_c (v_gt st))) (fun hc => by
          have hc := of_decide_eq_true hc
          unfold mL
          rw [if_pos (by omega)]
          exact ev_var e3) fun hc => by
          have hc := of_decide_eq_false hc
          unfold mL
          rw [if_neg (by omega)]
          exact ev_c
      have mB : ∀ k, mL n l k ≤ n := fun k => by unfold mL; split <;> omega
      refine q_forP (m := (n : Nat)) st h4 (ea_consV (ev_var rfl) ea_nilV) (by omega) (by omega) (fun j σ' => (∃ y6 y7 y8, σ' = [some (.ref p), some (.ref pn), some (.ref p2), some (.int (n : Nat)), some (.int (i : Nat)), some (.int (l : Nat)), y6, y7, y8, none]) ∧ ∀ k, k < j → laF n l (failF i d) k = none) ⟨⟨_, _, _, rfl⟩, fun k h => absurd h (Nat.not_lt_zero _)⟩ (fun a σ' J4 ha hp4 sJ4 => ?_) (fun σ' J4 hp4 sJ4 => ?_)
      · obtain ⟨⟨y6, y7, y8, rfl⟩, hN4⟩ := hp4
        have ha : a < n := by omega
        refine q_forP (m := (mL n l 1 : Nat)) st sJ4.s (ea_consV (rg (k := 1) rfl rfl) ea_nilV) (by omega) (by have := mB 1; omega) (fun j σ' => (∃ y7 y8, σ' = [some (.ref p), some (.ref pn), some (.ref p2), some (.int (n : Nat)), some (.int (i : Nat)), some (.int (l : Nat)), some (.int (a : Nat)), y7, y8, none]) ∧ ∀ k, k < j → lbF n l (failF i d) a k = none) ⟨⟨_, _, rfl⟩, fun k h => absurd h (Nat.not_lt_zero _)⟩ (fun b σ' J5 hb hp5 sJ5 => ?_) (fun σ' J5 hp5 sJ5 => ?_)
        · obtain ⟨⟨y7, y8, rfl⟩, hN5⟩ := hp5
          have hb1 : b < mL n l 1 := by omega
          have hb : b < n := by have := mB 1; omega
          refine q_forP (m := (mL n l 2 : Nat)) st sJ5.s (ea_consV (rg (k := 2) rfl rfl) ea_nilV) (by omega) (by have := mB 2; omega) (fun j σ' => (∃ y8, σ' = [some (.ref p), some (.ref pn), some (.ref p2), some (.int (n : Nat)), some (.int (i : Nat)), some (.int (l : Nat)), some (.int (a : Nat)), some (.int (b : Nat)), y8, none]) ∧ ∀ k, k < j → cF n l (failF i d) a b k = none) ⟨⟨_, rfl⟩, fun k h => absurd h (Nat.not_lt_zero _)⟩ (fun c σ' J6 hc hp6 sJ6 => ?_) (fun σ' J6 hp6 sJ6 => ?_)
          · obtain ⟨⟨y8, rfl⟩, hN6⟩ := hp6
            have hc1 : c < mL n l 2 := by omega
            have hc : c < n := by have := mB 2; omega
            have han : a < d.names.length := by omega
            have hbn : b < d.names.length := by omega
            have hcn : c < d.names.length := by omega
            refine q_if (P := fun z => z = failF i d a b c) st sJ6.s (et_B (ev_callV st (ea_consV (ev_var rfl) (ea_consV (ev_var rfl) (ea_consV (ev_var rfl) (ea_consV (ev_var rfl) (ea_consV (ev_var rfl) ea_nilV))))) fun G' s' => ⟨p, d, i, a, b, c, rfl, hT2.mono s', o, hi, han, hbn, hcn, rfl⟩)) (fun H7 p7 k7 h7 => ?_) (fun H7 p7 k7 h7 => q_end ?_)
            · have e1 : cF n l (failF i d) a b c = some ([a, b, c].take l) := by
                unfold cF
                rw [if_pos p7.symm]
              have e2 : lbF n l (failF i d) a b = some ([a, b, c].take l) := fsr_some hc1 hN6 e1
              have e3 : laF n l (failF i d) a = some ([a, b, c].take l) := fsr_some hb1 hN5 e2
              have e4 : lfndF n l (failF i d) = some ([a, b, c].take l) := fsr_some ha hN4 e3
              have e5 : faultF d = some (i, [a, b, c].take l) := by
                rw [← lfault_eq, ← hn]
                exact fsr_some hi hN (by rw [← hl, e4]; rfl)
              rw [e5] at q
              obtain ⟨t, ht⟩ : ∃ t, t = [a, b, c].take l := ⟨_, rfl⟩
              rw [← ht] at q
              have tl : ∀ k ∈ t, k < d.names.length := fun k hk => by
                rw [ht] at hk
                have := List.mem_of_mem_take hk
                simp only [List.mem_cons, List.not_mem_nil, or_false] at this
                rcases this with rfl | rfl | rfl <;> assumption
              have lt3 : t.length ≤ 3 := by rw [ht, List.length_take]; exact Nat.min_le_right _ _
              have ct : cutV [V.int (a : Nat), .int (b : Nat), .int (c : Nat)] none (some ((l : Nat) : Int)) = t.map fun k => V.int (k : Nat) := by
                rw [cutV_to (by show l ≤ 3; exact hl3), ht, List.map_take]
                rfl
              have sl : ∀ {m : Nat} {σ : L2.St}, σ[5]? = some (some (.int (l : Nat))) → σ[6]? = some (some (.int (a : Nat))) → σ[7]? = some (some (.int (b : Nat))) → σ[8]? = some (some (.int (c : Nat))) → Ev (SP0 G H) m 0 (tSl (rSlL K) (tLst (tCons (tVar 6) (tCons (tVar 7) (tCons (tVar 8) tNil)))) tNoPart (tPart (tVar 5))) σ G2 (IsL K (t.map fun k => V.int (k : Nat))) := fun {m σ} x5 x6 x7 x8 =>
                (ev_slNew (F := G2) (lo := none) (hi := some ((l : Nat) : Int)) (xs := [V.int (a : Nat), .int (b : Nat), .int (c : Nat)]) st (ev_lstN st (ea_consV (ev_var x6) (ea_consV (ev_var x7) (ea_consV (ev_var x8) ea_nilV))) (by simp)) eo_none (eo_some (ev_var x5))).imp fun v G' s' e => by
                  obtain ⟨pz, e, _, gz⟩ := e
                  rw [ct] at gz
                  exact ⟨pz, e, SqL.of gz⟩
              refine q_ret h7 (ev_tup (K := K) (RA := RCons (IsV (.str (wordsF i))) (RCons (IsTup (t.map fun k => V.str (d.names.getD k ("" : Str)))) RNil)) st (ea_cons (ev_opV (ev_var rfl) (ev_var rfl) (v_ixL st (SqL.of g2) (atI_nat ?_))) (ea_cons (ev_tupN2 (F := G2) (xs := t.map fun k => V.str (d.names.getD k ("" : Str))) st ((ev_lcVX (xs := t.map fun k => V.int (k : Nat)) (f := fun v => match v with | .int k => .str (d.names.getD k.toNat ("" : Str)) | _ => .non) st (sl rfl rfl rfl rfl) (by rw [List.length_map]; omega) (fun _ => rfl) fun k z G' hz s' => ?_).imp fun v G' s' r => ?_)) ea_nil)) fun vs G' h => ?_) fun v9 G9 H9 s9 r9 => q v9 G9 H9 s9.s ?_
              · rw [List.getElem?_map, List.getElem?_range hi]
                rfl
              · obtain ⟨hk, rfl⟩ := map_get hz
                have hlt := tl _ (List.getElem_mem hk)
                generalize t[k] = kk at hlt
                refine ev_opV (ev_var rfl) (ev_var rfl) (v_ixL st (SqL.of (s' _ _ gn2)) (atI_nat ?_))
                show _ = some (V.str (d.names.getD ((kk : Nat) : Int).toNat ("" : Str)))
                rw [Int.toNat_natCast, List.getElem?_map, List.getD_eq_getElem?_getD, List.getElem?_eq_getElem hlt]
                rfl
              · rw [List.map_map] at r
                exact r
              · obtain ⟨_, _, rfl, _, _, _, rfl, _, e⟩ := h
                obtain rfl := (show _ = [] from e)
                simp
              · obtain ⟨p9, _, rfl, g9, _, _, rfl, e1', _, _, rfl, ⟨q9, rfl, gq⟩, e⟩ := r9
                obtain rfl := (show _ = _ from e1')
                obtain rfl := (show _ = [] from e)
                exact ⟨p9, q9, rfl, g9, gq⟩
            · refine q_end ⟨⟨⟨_, rfl⟩, fun k hk => ?_⟩, sJ6.back st ⟨Same.refl _, k7, h7, fun _ _ e => .inl e⟩⟩
              by_cases hkc : k = c
              · rw [hkc]
                unfold cF
                rw [if_neg (by rw [← p7]; decide)]
              · exact hN6 k (by omega)
          · obtain ⟨⟨y8, rfl⟩, hN6⟩ := hp6
            rw [Int.toNat_natCast] at hN6
            refine q_end ⟨⟨⟨_, _, rfl⟩, fun k hk => ?_⟩, sJ5.back st sJ6⟩
            by_cases hkc : k = b
            · rw [hkc]
              exact fsr_none hN6
            · exact hN5 k (by omega)
        · obtain ⟨⟨y7, y8, rfl⟩, hN5⟩ := hp5
          rw [Int.toNat_natCast] at hN5
          refine q_end ⟨⟨⟨_, _, _, rfl⟩, fun k hk => ?_⟩, sJ4.back st sJ5⟩
          by_cases hkc : k = a
          · rw [hkc]
            exact fsr_none hN5
          · exact hN4 k (by omega)
      · obtain ⟨⟨y6, y7, y8, rfl⟩, hN4⟩ := hp4
        rw [Int.toNat_natCast] at hN4
        refine q_end ⟨⟨⟨_, _, _, _, _, rfl⟩, fun k hk => ?_⟩, sJ.back st (Stp.back st ⟨Same.refl _, k4, h4, fun _ _ e => .inl e⟩ sJ4)⟩
        by_cases hkc : k = i
        · rw [hkc, ← hl, show lfndF n l (failF i d) = none from fsr_none hN4]
          rfl
        · exact hN k (by omega)
    · obtain ⟨⟨y4, y5, y6, y7, y8, rfl⟩, hN⟩ := hp
      have e5 : faultF d = none := by
        rw [← lfault_eq, ← hn]
        exact fsr_none hN
      rw [e5] at q
      exact q_ret sJ.s ev_c fun v9 G9 H9 s9 r9 => q v9 G9 H9 s9.s r9
abbrev s__law_scale_of : Stmt := top 43
theorem sc__law_scale_of : FnScope ["_law_tables_here", "_law_names", "_law_joins", "_law_products", "_law_row", "_law_k"] ["_law_tables_here", "_law_names"] (defScope s__law_scale_of) := ⟨rfl, rfl, rfl, by decide +kernel, rfl, by decide +kernel, by decide +kernel⟩
abbrev s__law_free : Stmt := top 41
theorem sc__law_free : FnScope ["_law_state", "_law_many", "_law_joins", "_law_products", "_law_a", "_law_b"] ["_law_state", "_law_many"] (defScope s__law_free) := ⟨rfl, rfl, rfl, by decide +kernel, rfl, by decide +kernel, by decide +kernel⟩
theorem ok_scale_of {Cs : List Addr} {CT : Addr} {f : Addr} {fd : FuncData} (Z : Bi mg) (iT : CT ∈ Cs) (oT : ClsOk K CT) (k_TableScale : MakerK P w K mg base "TableScale" CT (L2.CX P w) 10 ["self", "names", "joins", "products", "never", "still"] 3 ["never", "still"] (fun vs zs => vs ++ zs) (spI (PTbI CT)))
    (F : Fun K "_law_scale_of" "_law_scale_of" s__law_scale_of f fd) : FnOk P w K mg base CX0 12 f fd ["_law_tables_here", "_law_names"] (spP (PLso K Cs)) := by
  refine F.ok sc__law_scale_of (fun vs H Q E h => ?_) (fun cdv A outer s H vs Q E hr h => ?_)
  · obtain ⟨_, _, _, ⟨_, _, _, _, _, _, _, rfl, _⟩, _⟩ := h
    rfl
  · obtain ⟨G, R, hs, ⟨p, pn, names, nv, sl, th, jn, rfl, hT, gn, T, rfl⟩, q⟩ := h
    refine ⟨_, (pss_cons (ps_setLc (i := 2) (own := [("_law_row", 4)]) (g := (gName 4)) rfl sc__law_scale_of.nd rfl rfl (sw_true rfl rfl rfl (by decide +kernel)) (pi_listK K (pe_ix (ix_any K (hu_of hr)) (pv 0) pe_int (fun _ _ => rfl))) (blkOk_by (by kernel_rfl)) (fun _ _ _ _ _ => (pg_name (i := 4) sc__law_scale_of.nd rfl (Or.inl rfl))) (fun _ _ _ _ _ => pts_nil) (fun _ _ _ _ _ => (pe_lc (own := [("_law_k", 5)]) (g := (gName 5)) rfl sc__law_scale_of.nd (pi_listK K (pv 4)) (blkOk_by (by kernel_rfl)) (fun _ _ _ _ _ => (pg_name (i := 5) sc__law_scale_of.nd rfl (Or.inl rfl))) (fun _ _ _ _ _ => pts_nil) (fun _ _ _ _ _ => (pe_ix (ix_any K (hu_of hr)) (pv 1) (pv 5) (fun _ _ => rfl))))))
  (pss_cons (ps_setLc (i := 3) (own := [("_law_row", 4)]) (g := (gName 4)) rfl sc__law_scale_of.nd rfl rfl (sw_true rfl rfl rfl (by decide +kernel)) (pi_listK K (pe_ix (ix_any K (hu_of hr)) (pv 0) pe_int (fun _ _ => rfl))) (blkOk_by (by kernel_rfl)) (fun _ _ _ _ _ => (pg_name (i := 4) sc__law_scale_of.nd rfl (Or.inl rfl))) (fun _ _ _ _ _ => pts_nil) (fun _ _ _ _ _ => (pe_lc (own := [("_law_k", 5)]) (g := (gName 5)) rfl sc__law_scale_of.nd (pi_listK K (pv 4)) (blkOk_by (by kernel_rfl)) (fun _ _ _ _ _ => (pg_name (i := 5) sc__law_scale_of.nd rfl (Or.inl rfl))) (fun _ _ _ _ _ => pts_nil) (fun _ _ _ _ _ => (pe_ix (ix_any K (hu_of hr)) (pv 1) (pv 5) (fun _ _ => rfl))))))
  (pss_cons (ps_ret (pe_makeKC k_TableScale (hr.mono (by decide)) passL (pa_cons (pe_callTy (call_listA K) (by rfl) Z.z_list (by decide +kernel) (pa_cons (pv 1) pa_nil)) (pa_cons (pv 2) (pa_cons (pv 3) pa_nil))) (pk_cons (pe_ix (ix_any K (hu_of hr)) (pv 1) (pe_ix (ix_any K (hu_of hr)) (pv 0) pe_int (fun _ _ => rfl)) (fun _ _ => rfl)) (pk_cons (pe_ix (ix_any K (hu_of hr)) (pv 1) (pe_ix (ix_any K (hu_of hr)) (pv 0) pe_int (fun _ _ => rfl)) (fun _ _ => rfl)) pk_nil))))
  pss_nil))), ?_⟩
    have st := stab0 G H
    have h0 : SP0 G H 0 G H := Grow.refl hs
    obtain ⟨pj, pp, gp, tj, tp⟩ := hT
    have l2 := T.l2
    show tSeq _ _ (Ends.mk _ _ _ _) [some _, some _, none, none, none, none] _
    refine q_set h0 (ev_names (r := 4) (c := 5) (i := 1) st (ev_at (k := 0) st gp (ev_var rfl) rfl) tj T.jn (by omega) gn (fun _ => rfl) (fun _ => rfl) fun _ _ => ⟨rfl, rfl, rfl⟩) fun v5 G5 H5 s5 r5 => ?_
    obtain ⟨p5, ws5, rfl, _, g5, rl5⟩ := r5
    refine q_set s5.s (ev_names (r := 4) (c := 5) (i := 1) st (ev_at (k := 1) st (s5.g _ _ gp) (ev_var rfl) rfl) (tp.mono s5.g) T.th (by omega) (s5.g _ _ gn) (fun _ => rfl) (fun _ => rfl) fun _ _ => ⟨rfl, rfl, rfl⟩) fun v6 G6 H6 s6 r6 => ?_
    obtain ⟨p6, ws6, rfl, _, g6, rl6⟩ := r6
    have s06 := s5.g.trans s6.g
    have gn6 := s06 _ _ gn
    have gp6 := s06 _ _ gp
    have nmAt : ∀ {m k : Nat} {te : TE} {σ : L2.St}, k < names.length → σ[1]? = some (some (.ref pn)) → Ev (SP0 G H) m 0 te σ G6 (IsV (.int (k : Nat))) → Ev (SP0 G H) m 0 (tOp (rIxA K) (tVar 1) te) σ G6 (IsV (.str (names.getD k ("" : Str)))) := fun hk e0 ej => ev_opV (ev_var e0) ej (v_ixL st (SqL.of gn6) (atI_nat (by rw [List.getElem?_map, List.getD_eq_getElem?_getD, List.getElem?_eq_getElem hk]; rfl)))
    exact q_ret s6.s (ev_mkTab st iT oT T (ev_cbV (ea_consV (ev_var rfl) ea_nilV) (c_listN st (SqL.of gn6))) ((ev_var rfl).imp fun v G' s' e => ⟨p5, e, ws5, s' _ _ (s6.g _ _ g5), rl_mon (s6.g.trans s') rl5⟩) ((ev_var rfl).imp fun v G' s' e => ⟨p6, e, ws6, s' _ _ g6, rl_mon s' rl6⟩) (nmAt T.nv rfl (ev_at (k := 2) st gp6 (ev_var rfl) rfl)) (nmAt T.sl rfl (ev_at (k := 3) st gp6 (ev_var rfl) rfl))) fun v7 G7 H7 s7 r7 => q v7 G7 H7 s7.s r7
theorem ok_free9 {f : Addr} {fd : FuncData} (Z : Bi mg) (c__law_pick : Callee P w K mg base "_law_pick" CX0 1 ["_law_source_here", "_law_many"] [] sp_pick) (F : Fun K "_law_free" "_law_free" s__law_free f fd) : FnOk P w K mg base CX0 2 f fd ["_law_state", "_law_many"] (spS PFr9) := by
  refine F.ok sc__law_free (fun vs H Q E h => ?_) (fun cdv A outer s H vs Q E hr h => ?_)
  · obtain ⟨_, _, _, _, _, _, _, ⟨_, rfl, _⟩, _⟩ := h
    rfl
  · obtain ⟨sa, cl, n, k, G, R, h0, ⟨m, rfl, m1, m3, rfl, rfl⟩, q⟩ := h
    refine ⟨_, (pss_cons (ps_setLc (i := 2) (own := [("_law_a", 4)]) (g := (gName 4)) rfl sc__law_free.nd rfl rfl (sw_true rfl rfl rfl (by decide +kernel)) (pi_range1 (by rfl) Z.z_range (pa_cons (pv 1) pa_nil)) (blkOk_by (by kernel_rfl)) (fun _ _ _ _ _ => (pg_name (i := 4) sc__law_free.nd rfl (Or.inl rfl))) (fun _ _ _ _ _ => pts_nil) (fun _ _ _ _ _ => (pe_lc (own := [("_law_b", 5)]) (g := (gName 5)) rfl sc__law_free.nd (pi_range1 (by rfl) Z.z_range (pa_cons (pv 1) pa_nil)) (blkOk_by (by kernel_rfl)) (fun _ _ _ _ _ => (pg_name (i := 5) sc__law_free.nd rfl (Or.inl rfl))) (fun _ _ _ _ _ => pts_nil) (fun _ _ _ _ _ => (pe_callC c__law_pick (hr.mono (by decide)) pass0 (pa_cons (pv 0) (pa_cons (pv 1) pa_nil)))))))
  (pss_cons (ps_setLc (i := 3) (own := [("_law_a", 4)]) (g := (gName 4)) rfl sc__law_free.nd rfl rfl (sw_true rfl rfl rfl (by decide +kernel)) (pi_range1 (by rfl) Z.z_range (pa_cons (pv 1) pa_nil)) (blkOk_by (by kernel_rfl)) (fun _ _ _ _ _ => (pg_name (i := 4) sc__law_free.nd rfl (Or.inl rfl))) (fun _ _ _ _ _ => pts_nil) (fun _ _ _ _ _ => (pe_lc (own := [("_law_b", 5)]) (g := (gName 5)) rfl sc__law_free.nd (pi_range1 (by rfl) Z.z_range (pa_cons (pv 1) pa_nil)) (blkOk_by (by kernel_rfl)) (fun _ _ _ _ _ => (pg_name (i := 5) sc__law_free.nd rfl (Or.inl rfl))) (fun _ _ _ _ _ => pts_nil) (fun _ _ _ _ _ => (pe_callC c__law_pick (hr.mono (by decide)) pass0 (pa_cons (pv 0) (pa_cons (pv 1) pa_nil)))))))
  (pss_cons (ps_ret (pe_lst (pa_cons (pv 2) (pa_cons (pv 3) (pa_cons (pe_callC c__law_pick (hr.mono (by decide)) pass0 (pa_cons (pv 0) (pa_cons (pv 1) pa_nil))) (pa_cons (pe_callC c__law_pick (hr.mono (by decide)) pass0 (pa_cons (pv 0) (pa_cons (pv 1) pa_nil))) pa_nil))))))
  pss_nil))), ?_⟩
    have st := stabS sa cl
    show tSeq _ _ (Ends.mk _ _ _ _) [some _, some _, none, none, none, none] _
    have hm : (((m : Nat) : Int)).toNat = m := Int.toNat_natCast m
    refine q_set h0 (ev_lcR (c1 := 0 + 1 * (((m : Nat) : Int)).toNat) (m := ((m : Nat) : Int)) st (fun _ => IsRI m) (ea_consV (ev_var rfl) ea_nilV) (by omega) (by omega) (fun j G' hj s' => ?_) (fun _ => rfl)) fun v4 G4 H4 s4 r4 => ?_
    · refine (ev_lcR (c1 := 1) (m := ((m : Nat) : Int)) st (fun _ => IsI fun z => 0 ≤ z ∧ z < (m : Int)) (ea_consV (ev_var rfl) ea_nilV) (by omega) (by omega) (fun j' G'' hj' s'' => ev_pick (ea_consV (ev_var rfl) (ea_consV (ev_var rfl) ea_nilV)) (by omega) (by omega)) (fun _ => rfl)).imp fun v G'' s'' ⟨q, ys, e, _, g, l, r⟩ => ?_
      rw [e]
      exact ri_of g (by rw [l, hm]) r
    obtain ⟨p4, vs4, rfl, _, g4, l4, r4⟩ := r4
    obtain ⟨jn, rl4, bj⟩ := tabN_of (by rw [l4, hm]) r4
    refine q_set s4.s (ev_lcR (c1 := 0 + 1 * (((m : Nat) : Int)).toNat) (m := ((m : Nat) : Int)) st (fun _ => IsRI m) (ea_consV (ev_var rfl) ea_nilV) (by omega) (by omega) (fun j G' hj s' => ?_) (fun _ => rfl)) fun v5 G5 H5 s5 r5 => ?_
    · refine (ev_lcR (c1 := 1) (m := ((m : Nat) : Int)) st (fun _ => IsI fun z => 0 ≤ z ∧ z < (m : Int)) (ea_consV (ev_var rfl) ea_nilV) (by omega) (by omega) (fun j' G'' hj' s'' => ev_pick (ea_consV (ev_var rfl) (ea_consV (ev_var rfl) ea_nilV)) (by omega) (by omega)) (fun _ => rfl)).imp fun v G'' s'' ⟨q, ys, e, _, g, l, r⟩ => ?_
      rw [e]
      exact ri_of g (by rw [l, hm]) r
    obtain ⟨p5, vs5, rfl, _, g5, l5, r5⟩ := r5
    obtain ⟨th, rl5, bt⟩ := tabN_of (by rw [l5, hm]) r5
    have fr5 := s4.fr.trans s5.fr
    have pk : ∀ {k : Nat} {σ : L2.St} {G' : Hp}, σ[0]? = some (some (.ref sa)) → σ[1]? = some (some (.int (m : Nat))) → Ev (Src sa cl) k 1 (tCall sp_pick [] E (tCons (tVar 0) (tCons (tVar 1) tNil))) σ G' (IsI fun z => 0 ≤ z ∧ z < (m : Int)) := fun e0 e1 => ev_pick (ea_consV (ev_var e0) (ea_consV (ev_var e1) ea_nilV)) (by omega) (by omega)
    refine q_ret s5.s (ev_lstXN (RA := RCons (IsV (.ref p4)) (RCons (IsV (.ref p5)) (RCons (IsI fun z => 0 ≤ z ∧ z < (m : Int)) (RCons (IsI fun z => 0 ≤ z ∧ z < (m : Int)) RNil)))) st (ea_cons (ev_var rfl) (ea_cons (ev_var rfl) (ea_cons (pk rfl rfl) (ea_cons (pk rfl rfl) ea_nil)))) fun vs G' e => ?_) fun v9 G9 H9 s9 r9 => q v9 G9 H9 (Fr.stp (fr5.trans s9.fr) (st.wk s9.s ?_)) ?_
    · obtain ⟨_, _, rfl, _, _, _, rfl, _, _, _, rfl, _, _, _, rfl, _, e⟩ := e
      obtain rfl := (show _ = [] from e)
      exact Nat.le_of_ble_eq_true rfl
    · rw [hm]
      have : m = 1 ∨ m = 2 ∨ m = 3 := by omega
      rcases this with rfl | rfl | rfl <;> omega
    · obtain ⟨p9, xs, rfl, f9, g9, _, _, rfl, e1, _, _, rfl, e2, _, _, rfl, ⟨z1, b1, rfl⟩, _, _, rfl, ⟨z2, b2, rfl⟩, e⟩ := r9
      obtain rfl := (show _ = _ from e1)
      obtain rfl := (show _ = _ from e2)
      obtain rfl := (show _ = [] from e)
      obtain ⟨nv, rfl⟩ : ∃ a : Nat, z1 = (a : Nat) := ⟨z1.toNat, by omega⟩
      obtain ⟨sl, rfl⟩ : ∃ a : Nat, z2 = (a : Nat) := ⟨z2.toNat, by omega⟩
      have s59 := s5.g.trans s9.g
      exact ⟨p9, rfl, fr5.g.free f9, p9, nv, sl, th, jn, rfl, ⟨p4, p5, g9, ⟨vs4, s59 _ _ g4, rl_mon s59 rl4⟩, ⟨vs5, s9.g _ _ g5, rl_mon s9.g rl5⟩⟩, by omega, by omega, bt, bj⟩
abbrev s__law_join : Stmt := top 34
theorem sc__law_join : FnScope ["_law_sort", "_law_a", "_law_b"] ["_law_sort", "_law_a", "_law_b"] (defScope s__law_join) := ⟨rfl, rfl, rfl, by decide +kernel, rfl, by decide +kernel, by decide +kernel⟩
abbrev s__law_then : Stmt := top 35
theorem sc__law_then : FnScope ["_law_sort", "_law_most", "_law_a", "_law_b", "_law_bits", "_law_k", "_law_row", "_law_column", "_law_one_way", "_law_other_way"] ["_law_sort", "_law_most", "_law_a", "_law_b"] (defScope s__law_then) := ⟨rfl, rfl, rfl, by decide +kernel, rfl, by decide +kernel, by decide +kernel⟩
abbrev s__law_tables : Stmt := top 36
theorem sc__law_tables : FnScope ["_law_state", "_law_sort", "_law_most", "_law_many", "_law_mid", "_law_turned", "_law_numbers", "_law_names", "_law_joins", "_law_products", "_law_k", "_law_a", "_law_b"] ["_law_state"] (defScope s__law_tables) := ⟨rfl, rfl, rfl, by decide +kernel, rfl, by decide +kernel, by decide +kernel⟩
abbrev s__law_table_scale : Stmt := top 37
theorem sc__law_table_scale : FnScope ["_law_names", "_law_joins", "_law_products", "_law_low", "_law_mid", "_law_join_names", "_law_product_names", "_law_scale", "_law_row", "_law_k"] ["_law_names", "_law_joins", "_law_products", "_law_low", "_law_mid"] (defScope s__law_table_scale) := ⟨rfl, rfl, rfl, by decide +kernel, rfl, by decide +kernel, by decide +kernel⟩
def PLjn : List V → Hp → HR → Prop := fun vs _ R => ∃ (sort : Nat) (a b : Int), vs = [.int (sort : Nat), .int a, .int b] ∧ sort < 5 ∧ R = IsV (.int (ljn sort a b))
def PLth : List V → Hp → HR → Prop := fun vs _ R => ∃ (sort : Nat) (most a b : Int), vs = [.int (sort : Nat), .int most, .int a, .int b] ∧ sort < 5 ∧ R = IsV (.int (lth sort most a b))
theorem ok_ljn {f : Addr} {fd : FuncData} (Z : Bi mg) (F : Fun K "_law_join" "_law_join" s__law_join f fd) : FnOk P w K mg base CX0 1 f fd ["_law_sort", "_law_a", "_law_b"] (spP PLjn) := by
  refine F.ok sc__law_join (fun vs H Q E h => ?_) (fun cdv A outer s H vs Q E hr h => ?_)
  · obtain ⟨_, _, _, ⟨_, _, _, rfl, _⟩, _⟩ := h
    rfl
  · obtain ⟨G, R, hs, ⟨sort, a, b, rfl, h5, rfl⟩, q⟩ := h
    refine ⟨_, (pss_cons (ps_if (PW.pt (pw_and (pt_cmpR op_ltA (pv 0) pe_int (nomark _)) (pw_and1 (PW.pt (pw_or (pt_cmpR (op_eqA K hr.units) (pv 1) pe_int (nomark _)) (pw_or1 (pt_cmpR (op_eqA K hr.units) (pv 2) pe_int (nomark _)))))))) (pss_cons (ps_ret (pe_op op_addA (pv 1) (pv 2)))
  pss_nil) pss_nil)
  (pss_cons (ps_if (pt_cmpR (op_eqA K hr.units) (pv 0) pe_int (nomark _)) (pss_cons (ps_ret (pe_callB (call_max2 rfl) (by rfl) Z.z_max (by decide +kernel) (pa_cons (pe_callTy call_intA (by rfl) Z.z_int (by decide +kernel) (pa_cons (pv 1) pa_nil)) (pa_cons (pe_callTy call_intA (by rfl) Z.z_int (by decide +kernel) (pa_cons (pv 2) pa_nil)) pa_nil))))
  pss_nil) pss_nil)
  (pss_cons (ps_if (pt_cmpR (op_eqA K hr.units) (pv 0) pe_int (nomark _)) (pss_cons (ps_ret (pe_callB (call_min2 rfl) (by rfl) Z.z_min (by decide +kernel) (pa_cons (pe_callTy call_intA (by rfl) Z.z_int (by decide +kernel) (pa_cons (pv 1) pa_nil)) (pa_cons (pe_callTy call_intA (by rfl) Z.z_int (by decide +kernel) (pa_cons (pv 2) pa_nil)) pa_nil))))
  pss_nil) pss_nil)
  (pss_cons (ps_if (pt_cmpR (op_eqA K hr.units) (pv 0) pe_int (nomark _)) (pss_cons (ps_ret (pe_op op_addA (pe_op op_and (pe_op op_subA (pv 1) pe_int) (pe_op op_subA (pv 2) pe_int)) pe_int))
  pss_nil) pss_nil)
  (pss_cons (ps_ret (pe_ifExp (pt_cmpR (op_eqA K hr.units) (pv 0) pe_int (nomark _)) (pe_op op_or (pv 1) (pv 2)) (pe_op op_addA (pe_op op_or (pe_op op_subA (pv 1) pe_int) (pe_op op_subA (pv 2) pe_int)) pe_int)))
  pss_nil))))), ?_⟩
    have st := stab0 G H
    have h0 : SP0 G H 0 G H := Grow.refl hs
    show tSeq _ _ (Ends.mk _ _ _ _) [some _, some _, some _] _
    refine q_if st h0 (et_and st (et_testV (ev_opV (ev_var rfl) ev_c (v_lt st))) fun _ => et_or st (et_testV (ev_opV (ev_var rfl) ev_c (v_eqI st))) fun _ => et_testV (ev_opV (ev_var rfl) ev_c (v_eqI st))) (fun H1 p1 k1 h1 => ?_) (fun H1 p1 k1 h1 => q_end ?_)
    · have p1 := p1.symm
      rw [Bool.and_eq_true, Bool.or_eq_true] at p1
      have c1 := of_decide_eq_true p1.1
      have c2 : a = 0 ∨ b = 0 := p1.2.imp of_decide_eq_true of_decide_eq_true
      exact q_retV st h1 (ev_opV (ev_var rfl) (ev_var rfl) (v_add st)) fun H2 k2 h2 => q _ _ _ h2 (by unfold ljn; rw [if_pos ⟨by omega, c2⟩]; rfl)
    have n1 : ¬ (sort < 4 ∧ (a = 0 ∨ b = 0)) := fun z => by
      have p1 := p1.symm
      rw [Bool.and_eq_false_iff, Bool.or_eq_false_iff] at p1
      rcases p1 with e | e
      · have := of_decide_eq_false e
        omega
      · have := of_decide_eq_false e.1
        have := of_decide_eq_false e.2
        omega
    refine q_if st h1 (et_testV (ev_opV (ev_var rfl) ev_c (v_eqI st))) (fun H2 p2 k2 h2 => ?_) (fun H2 p2 k2 h2 => q_end ?_)
    · have c2 := of_decide_eq_true p2.symm
      refine q_retV st h2 (ev_cbV (ea_consV (ev_cbV (ea_consV (ev_var rfl) ea_nilV) (c_int st)) (ea_consV (ev_cbV (ea_consV (ev_var rfl) ea_nilV) (c_int st)) ea_nilV)) (rc_val (x := .int (if b > a then b else a)) (fun H s Q q => ⟨a, b, rfl, q⟩) st)) fun H3 k3 h3 => q _ _ _ h3 (by unfold ljn; rw [if_neg n1, if_pos (by omega)]; rfl)
    have c2 := of_decide_eq_false p2.symm
    refine q_if st h2 (et_testV (ev_opV (ev_var rfl) ev_c (v_eqI st))) (fun H3 p3 k3 h3 => ?_) (fun H3 p3 k3 h3 => q_end ?_)
    · have c3 := of_decide_eq_true p3.symm
      refine q_retV st h3 (ev_cbV (ea_consV (ev_cbV (ea_consV (ev_var rfl) ea_nilV) (c_int st)) (ea_consV (ev_cbV (ea_consV (ev_var rfl) ea_nilV) (c_int st)) ea_nilV)) (rc_val (x := .int (if b < a then b else a)) (fun H s Q q => ⟨a, b, rfl, q⟩) st)) fun H4 k4 h4 => q _ _ _ h4 (by unfold ljn; rw [if_neg n1, if_neg (by omega), if_pos (by omega)]; rfl)
    have c3 := of_decide_eq_false p3.symm
    refine q_if st h3 (et_testV (ev_opV (ev_var rfl) ev_c (v_eqI st))) (fun H4 p4 k4 h4 => ?_) (fun H4 p4 k4 h4 => q_end ?_)
    · have c4 := of_decide_eq_true p4.symm
      exact q_retV st h4 (ev_opV (ev_opV (ev_opV (ev_var rfl) ev_c (v_sub st)) (ev_opV (ev_var rfl) ev_c (v_sub st)) (v_band st)) ev_c (v_add st)) fun H5 k5 h5 => q _ _ _ h5 (by unfold ljn; rw [if_neg n1, if_neg (by omega), if_neg (by omega), if_pos (by omega)]; rfl)
    have c4 := of_decide_eq_false p4.symm
    refine q_retV st h4 (ev_if (R := IsV (.int (ljn sort a b))) st (et_testV (ev_opV (ev_var rfl) ev_c (v_eqI st))) (fun c => ev_eq ?_ (ev_opV (ev_var rfl) (ev_var rfl) (v_bor st))) fun c => ev_eq ?_ (ev_opV (ev_opV (ev_opV (ev_var rfl) ev_c (v_sub st)) (ev_opV (ev_var rfl) ev_c (v_sub st)) (v_bor st)) ev_c (v_add st))) fun H5 k5 h5 => q _ _ _ h5 rfl
    · have c := of_decide_eq_true c
      unfold ljn
      rw [if_neg n1, if_neg (by omega), if_neg (by omega), if_neg (by omega), if_pos (by omega)]
    · have c := of_decide_eq_false c
      unfold ljn
      rw [if_neg n1, if_neg (by omega), if_neg (by omega), if_neg (by omega), if_neg (by omega)]
theorem ok_lth {f : Addr} {fd : FuncData} (Z : Bi mg) (F : Fun K "_law_then" "_law_then" s__law_then f fd) : FnOk P w K mg base CX0 1 f fd ["_law_sort", "_law_most", "_law_a", "_law_b"] (spP PLth) := by
  refine F.ok sc__law_then (fun vs H Q E h => ?_) (fun cdv A outer s H vs Q E hr h => ?_)
  · obtain ⟨_, _, _, ⟨_, _, _, _, rfl, _⟩, _⟩ := h
    rfl
  · obtain ⟨G, R, hs, ⟨sort, most, a, b, rfl, h5, rfl⟩, q⟩ := h
    refine ⟨_, (pss_cons (ps_if (pt_cmpR (op_eqA K hr.units) (pv 0) pe_int (nomark _)) (pss_cons (ps_set (i := 4) sc__law_then.nd rfl (Or.inl rfl) pe_int)
  (pss_cons (ps_for PassesOwn.never rfl (pi_range1 (by rfl) Z.z_range (pa_cons pe_int pa_nil)) (pg_name (i := 5) sc__law_then.nd rfl (Or.inl rfl)) (pss_cons (ps_set (i := 6) sc__law_then.nd rfl (Or.inl rfl) (pe_op op_divA (pv 5) pe_int))
  (pss_cons (ps_set (i := 7) sc__law_then.nd rfl (Or.inl rfl) (pe_op op_modA (pe_callTy call_intA (by rfl) Z.z_int (by decide +kernel) (pa_cons (pv 5) pa_nil)) pe_int))
  (pss_cons (ps_set (i := 8) sc__law_then.nd rfl (Or.inl rfl) (pe_op op_and (pe_op op_and (pe_op op_shr (pv 2) (pe_op op_subA pe_int (pe_op op_mulA (pv 6) pe_int))) (pe_op op_shr (pv 3) (pe_op op_subA pe_int (pv 7)))) pe_int))
  (pss_cons (ps_set (i := 9) sc__law_then.nd rfl (Or.inl rfl) (pe_op op_and (pe_op op_and (pe_op op_shr (pv 2) (pe_op op_subA pe_int (pe_op op_mulA (pv 6) pe_int))) (pe_op op_shr (pv 3) (pe_op op_subA pe_int (pv 7)))) pe_int))
  (pss_cons (ps_set (i := 4) sc__law_then.nd rfl (Or.inl rfl) (pe_op op_addA (pe_op op_mulA (pv 4) pe_int) (pe_op op_or (pv 8) (pv 9))))
  pss_nil))))))
  (pss_cons (ps_ret (pv 4))
  pss_nil))) pss_nil)
  (pss_cons (ps_if (PW.pt (pw_or (pt_cmpR (op_eqA K hr.units) (pv 2) pe_int (nomark _)) (pw_or1 (pt_cmpR (op_eqA K hr.units) (pv 3) pe_int (nomark _))))) (pss_cons (ps_ret pe_int)
  pss_nil) pss_nil)
  (pss_cons (ps_if (pt_cmpR op_ltA (pv 0) pe_int (nomark _)) (pss_cons (ps_ret (pe_op op_addA (pe_callB (call_min2 rfl) (by rfl) Z.z_min (by decide +kernel) (pa_cons (pe_callTy call_intA (by rfl) Z.z_int (by decide +kernel) (pa_cons (pe_op op_subA (pe_op op_addA (pv 2) (pv 3)) pe_int) pa_nil)) (pa_cons (pe_callTy call_intA (by rfl) Z.z_int (by decide +kernel) (pa_cons (pv 1) pa_nil)) pa_nil))) pe_int))
  pss_nil) pss_nil)
  (pss_cons (ps_ret (pe_op op_addA (pe_op op_or (pe_op op_subA (pv 2) pe_int) (pe_op op_subA (pv 3) pe_int)) pe_int))
  pss_nil)))), ?_⟩
    have st := stab0 G H
    have h0 : SP0 G H 0 G H := Grow.refl hs
    show tSeq _ _ (Ends.mk _ _ _ _) [some _, some _, some _, some _, none, none, none, none, none, none] _
    refine q_if st h0 (et_testV (ev_opV (ev_var rfl) ev_c (v_eqI st))) (fun H1 p1 k1 h1 => ?_) (fun H1 p1 k1 h1 => q_end ?_)
    · have c1 := of_decide_eq_true p1.symm
      refine q_setV st h1 ev_c fun H2 k2 h2 => ?_
      refine q_forP (m := 4) st h2 (ea_consV ev_c ea_nilV) (by decide) (by decide) (fun j σ' => ∃ y5 y6 y7 y8 y9, σ' = [some (.int (sort : Nat)), some (.int most), some (.int a), some (.int b), some (.int (lthW a b j)), y5, y6, y7, y8, y9]) ⟨_, _, _, _, _, rfl⟩ (fun j σ' J hj hp sJ => ?_) (fun σ' J hp sJ => ?_)
      · obtain ⟨y5, y6, y7, y8, y9, rfl⟩ := hp
        show tSeq _ _ (Ends.mk _ _ _ _) [some (.int (sort : Nat)), some (.int most), some (.int a), some (.int b), some (.int (lthW a b j)), some (.int (j : Nat)), y6, y7, y8, y9] _
        have e : lthW a b (j + 1) = lthW a b j * 2 + lthK a b j := by
          unfold lthW
          rw [List.range_succ, List.foldl_append]
          rfl
        rw [e]
        refine q_setV st sJ.s (ev_opV (ev_var rfl) ev_c (v_div st ⟨by decide, by decide⟩)) fun H3 k3 h3 => ?_
        refine q_setV st h3 (ev_opV (ev_cbV (ea_consV (ev_var rfl) ea_nilV) (c_int st)) ev_c (v_mod st (by decide))) fun H4 k4 h4 => ?_
        have r01 : 0 ≤ ((j : Nat) : Int) / 2 ∧ ((j : Nat) : Int) / 2 ≤ 1 := by omega
        have c01 : 0 ≤ ((j : Nat) : Int) % 2 ∧ ((j : Nat) : Int) % 2 ≤ 1 := by omega
        refine q_setV st h4 (ev_opV (ev_opV (ev_opV (ev_var rfl) (ev_opV ev_c (ev_opV (ev_var rfl) ev_c (v_mul st (.inr ⟨by decide, by decide⟩))) (v_sub st)) (v_shr st (by omega))) (ev_opV (ev_var rfl) (ev_opV ev_c (ev_var rfl) (v_sub st)) (v_shr st (by omega))) (v_band st)) ev_c (v_band st)) fun H5 k5 h5 => ?_
        refine q_setV st h5 (ev_opV (ev_opV (ev_opV (ev_var rfl) (ev_opV ev_c (ev_opV (ev_var rfl) ev_c (v_mul st (.inr ⟨by decide, by decide⟩))) (v_sub st)) (v_shr st (by omega))) (ev_opV (ev_var rfl) (ev_opV ev_c (ev_var rfl) (v_sub st)) (v_shr st (by omega))) (v_band st)) ev_c (v_band st)) fun H6 k6 h6 => ?_
        refine q_setV st h6 (x := .int (lthW a b j * 2 + lthK a b j)) (ev_opV (ev_opV (ev_var rfl) ev_c (v_mul st (.inr ⟨by decide, by decide⟩))) (ev_opV (ev_var rfl) (ev_var rfl) (v_bor st)) (v_add st)) fun H7 k7 h7 => ?_
        exact q_end ⟨⟨_, _, _, _, _, rfl⟩, sJ.go ((((k3.trans k4).trans k5).trans k6).trans k7) h7⟩
      · obtain ⟨y5, y6, y7, y8, y9, rfl⟩ := hp
        exact q_retV st sJ.s (ev_var rfl) fun H3 k3 h3 => q _ _ _ h3 (by unfold lth; rw [if_pos (by omega)]; rfl)
    have c1 := of_decide_eq_false p1.symm
    refine q_if st h1 (et_or st (et_testV (ev_opV (ev_var rfl) ev_c (v_eqI st))) fun _ => et_testV (ev_opV (ev_var rfl) ev_c (v_eqI st))) (fun H2 p2 k2 h2 => ?_) (fun H2 p2 k2 h2 => q_end ?_)
    · have p2 := p2.symm
      rw [Bool.or_eq_true] at p2
      have c2 : a = 0 ∨ b = 0 := p2.imp of_decide_eq_true of_decide_eq_true
      exact q_retV st h2 ev_c fun H3 k3 h3 => q _ _ _ h3 (by unfold lth; rw [if_neg (by omega), if_pos c2]; rfl)
    have n2 : ¬ (a = 0 ∨ b = 0) := fun z => by
      have p2 := p2.symm
      rw [Bool.or_eq_false_iff] at p2
      have := of_decide_eq_false p2.1
      have := of_decide_eq_false p2.2
      omega
    refine q_if st h2 (et_testV (ev_opV (ev_var rfl) ev_c (v_lt st))) (fun H3 p3 k3 h3 => ?_) (fun H3 p3 k3 h3 => q_end ?_)
    · have c3 := of_decide_eq_true p3.symm
      refine q_retV st h3 (ev_opV (ev_cbV (ea_consV (ev_cbV (ea_consV (ev_opV (ev_opV (ev_var rfl) (ev_var rfl) (v_add st)) ev_c (v_sub st)) ea_nilV) (c_int st)) (ea_consV (ev_cbV (ea_consV (ev_var rfl) ea_nilV) (c_int st)) ea_nilV)) (rc_val (x := .int (if most < a + b - 2 then most else a + b - 2)) (fun H s Q q => ⟨a + b - 2, most, rfl, q⟩) st)) ev_c (v_add st)) fun H4 k4 h4 => q _ _ _ h4 (by unfold lth; rw [if_neg (by omega), if_neg n2, if_pos (by omega)]; rfl)
    · have c3 := of_decide_eq_false p3.symm
      exact q_retV st h3 (ev_opV (ev_opV (ev_opV (ev_var rfl) ev_c (v_sub st)) (ev_opV (ev_var rfl) ev_c (v_sub st)) (v_bor st)) ev_c (v_add st)) fun H5 k5 h5 => q _ _ _ h5 (by unfold lth; rw [if_neg (by omega), if_neg n2, if_neg (by omega)]; rfl)
def PTscX (K : PySem.W.Frag) (Cs : List Addr) : List V → Hp → HR → Prop := fun vs G R => ∃ (pn pj pp : Addr) (names : List Str) (nv sl : Nat) (th jn : Nat → Nat → Int), vs = [.ref pn, .ref pj, .ref pp, .int (nv : Nat), .int (sl : Nat)] ∧ G pn = some (.lst (names.map V.str)) ∧ TabN G pj names.length jn ∧ TabN G pp names.length th ∧ TbIs names nv sl th jn ∧ R = fun v G' => ∃ p x, v = .ref p ∧ G' p = some (.lst [.ref pn, .ref pj, .ref pp, .int (nv : Nat), .int (sl : Nat), .ref x])
theorem ok_tscX {Cs : List Addr} {CT : Addr} {f : Addr} {fd : FuncData} (Z : Bi mg) (iT : CT ∈ Cs) (oT : ClsOk K CT) (k_TableScale : MakerK P w K mg base "TableScale" CT (L2.CX P w) 10 ["self", "names", "joins", "products", "never", "still"] 3 ["never", "still"] (fun vs zs => vs ++ zs) (spI (PTbI CT)))
    (F : Fun K "_law_table_scale" "_law_table_scale" s__law_table_scale f fd) : FnOk P w K mg base CX0 12 f fd ["_law_names", "_law_joins", "_law_products", "_law_low", "_law_mid"] (spP (PTscX K Cs)) := by
  refine F.ok sc__law_table_scale (fun vs H Q E h => ?_) (fun cdv A outer s H vs Q E hr h => ?_)
  · obtain ⟨_, _, _, ⟨_, _, _, _, _, _, _, _, rfl, _⟩, _⟩ := h
    rfl
  · obtain ⟨G, R, hs, ⟨pn, pj, pp, names, nv, sl, th, jn, rfl, gn, tj, tp, T, rfl⟩, q⟩ := h
    refine ⟨_, (pss_cons (ps_setLc (i := 5) (own := [("_law_row", 8)]) (g := (gName 8)) rfl sc__law_table_scale.nd rfl rfl (sw_true rfl rfl rfl (by decide +kernel)) (pi_listK K (pv 1)) (blkOk_by (by kernel_rfl)) (fun _ _ _ _ _ => (pg_name (i := 8) sc__law_table_scale.nd rfl (Or.inl rfl))) (fun _ _ _ _ _ => pts_nil) (fun _ _ _ _ _ => (pe_lc (own := [("_law_k", 9)]) (g := (gName 9)) rfl sc__law_table_scale.nd (pi_listK K (pv 8)) (blkOk_by (by kernel_rfl)) (fun _ _ _ _ _ => (pg_name (i := 9) sc__law_table_scale.nd rfl (Or.inl rfl))) (fun _ _ _ _ _ => pts_nil) (fun _ _ _ _ _ => (pe_ix (ix_any K (hu_of hr)) (pv 0) (pv 9) (fun _ _ => rfl))))))
  (pss_cons (ps_setLc (i := 6) (own := [("_law_row", 8)]) (g := (gName 8)) rfl sc__law_table_scale.nd rfl rfl (sw_true rfl rfl rfl (by decide +kernel)) (pi_listK K (pv 2)) (blkOk_by (by kernel_rfl)) (fun _ _ _ _ _ => (pg_name (i := 8) sc__law_table_scale.nd rfl (Or.inl rfl))) (fun _ _ _ _ _ => pts_nil) (fun _ _ _ _ _ => (pe_lc (own := [("_law_k", 9)]) (g := (gName 9)) rfl sc__law_table_scale.nd (pi_listK K (pv 8)) (blkOk_by (by kernel_rfl)) (fun _ _ _ _ _ => (pg_name (i := 9) sc__law_table_scale.nd rfl (Or.inl rfl))) (fun _ _ _ _ _ => pts_nil) (fun _ _ _ _ _ => (pe_ix (ix_any K (hu_of hr)) (pv 0) (pv 9) (fun _ _ => rfl))))))
  (pss_cons (ps_set (i := 7) sc__law_table_scale.nd rfl (Or.inl rfl) (pe_makeKC k_TableScale (hr.mono (by decide)) passL (pa_cons (pe_callTy (call_listA K) (by rfl) Z.z_list (by decide +kernel) (pa_cons (pv 0) pa_nil)) (pa_cons (pv 5) (pa_cons (pv 6) pa_nil))) (pk_cons (pe_ix (ix_any K (hu_of hr)) (pv 0) (pv 3) (fun _ _ => rfl)) (pk_cons (pe_ix (ix_any K (hu_of hr)) (pv 0) (pv 4) (fun _ _ => rfl)) pk_nil))))
  (pss_cons (ps_ret (pe_lst (pa_cons (pv 0) (pa_cons (pv 1) (pa_cons (pv 2) (pa_cons (pv 3) (pa_cons (pv 4) (pa_cons (pv 7) pa_nil))))))))
  pss_nil)))), ?_⟩
    have st := stab0 G H
    have h0 : SP0 G H 0 G H := Grow.refl hs
    have l2 := T.l2
    show tSeq _ _ (Ends.mk _ _ _ _) [some _, some _, some _, some _, some _, none, none, none, none, none] _
    refine q_set h0 (ev_names (r := 8) (c := 9) (i := 0) st (ev_var rfl) tj T.jn (by omega) gn (fun _ => rfl) (fun _ => rfl) fun _ _ => ⟨rfl, rfl, rfl⟩) fun v5 G5 H5 s5 r5 => ?_
    obtain ⟨p5, ws5, rfl, _, g5, rl5⟩ := r5
    refine q_set s5.s (ev_names (r := 8) (c := 9) (i := 0) st (ev_var rfl) (tp.mono s5.g) T.th (by omega) (s5.g _ _ gn) (fun _ => rfl) (fun _ => rfl) fun _ _ => ⟨rfl, rfl, rfl⟩) fun v6 G6 H6 s6 r6 => ?_
    obtain ⟨p6, ws6, rfl, _, g6, rl6⟩ := r6
    have s06 := s5.g.trans s6.g
    have gn6 := s06 _ _ gn
    have nmAt : ∀ {k : Nat} {m : Nat} {σ : L2.St} {j : Nat}, k < names.length → σ[0]? = some (some (.ref pn)) → σ[j]? = some (some (.int (k : Nat))) → Ev (SP0 G H) m (0 + 0) (tOp (rIxA K) (tVar 0) (tVar j)) σ G6 (IsV (.str (names.getD k ("" : Str)))) := fun hk e0 ej => ev_opV (ev_var e0) (ev_var ej) (v_ixL st (SqL.of gn6) (atI_nat (by rw [List.getElem?_map, List.getD_eq_getElem?_getD, List.getElem?_eq_getElem hk]; rfl)))
    refine q_set s6.s (ev_mkTab st iT oT T (ev_cbV (ea_consV (ev_var rfl) ea_nilV) (c_listN st (SqL.of gn6))) ((ev_var rfl).imp fun v G' s' e => ⟨p5, e, ws5, s' _ _ (s6.g _ _ g5), rl_mon (s6.g.trans s') rl5⟩) ((ev_var rfl).imp fun v G' s' e => ⟨p6, e, ws6, s' _ _ g6, rl_mon s' rl6⟩) (nmAt T.nv rfl rfl) (nmAt T.sl rfl rfl)) fun v7 G7 H7 s7 r7 => ?_
    obtain ⟨x, rfl, sx⟩ := r7
    refine q_ret s7.s (ev_lstN st (vs := [.ref pn, .ref pj, .ref pp, .int (nv : Nat), .int (sl : Nat), .ref x]) (ea_consV (ev_var rfl) (ea_consV (ev_var rfl) (ea_consV (ev_var rfl) (ea_consV (ev_var rfl) (ea_consV (ev_var rfl) (ea_consV (ev_var rfl) ea_nilV)))))) (by simp)) fun v8 G8 H8 s8 r8 => q v8 G8 H8 s8.s ?_
    obtain ⟨p8, rfl, _, g8⟩ := r8
    exact ⟨p8, x, rfl, g8⟩
def IsTbF (F : Hp) : HR := fun v G => ∃ (t pn pj pp x : Addr) (names : List Str) (nv sl : Nat) (th jn : Nat → Nat → Int), v = .ref t ∧ G t = some (.lst [.ref pn, .ref pj, .ref pp, .int (nv : Nat), .int (sl : Nat), .ref x]) ∧ TabF F G pj names.length jn ∧ TabF F G pp names.length th ∧ TbIs names nv sl th jn
def PTbsF : Addr → List V → Nat → Nat → Hp → HR → Prop := fun sa vs _ k G R => vs = [.ref sa] ∧ k = 3 ∧ R = IsTbF G
theorem str_small : ∀ i : Nat, i < 64 → ((i : Nat) : Int).natAbs.log2 < 1920 ∧ ("w" : Str).length + (toString ((i : Nat) : Int) : Str).length ≤ 100 := by decide +kernel
theorem ok_tablesF {Cs : List Addr} {f : Addr} {fd : FuncData} (Z : Bi mg) (c__law_pick : Callee P w K mg base "_law_pick" CX0 1 ["_law_source_here", "_law_many"] [] sp_pick) (c__law_join : Callee P w K mg base "_law_join" CX0 1 ["_law_sort", "_law_a", "_law_b"] [] (spP PLjn)) (c__law_then : Callee P w K mg base "_law_then" CX0 1 ["_law_sort", "_law_most", "_law_a", "_law_b"] [] (spP PLth))
    (c__law_table_scale : Callee P w K mg base "_law_table_scale" CX0 12 ["_law_names", "_law_joins", "_law_products", "_law_low", "_law_mid"] [] (spP (PTscX K Cs)))
    (F : Fun K "_law_tables" "_law_tables" s__law_tables f fd) : FnOk P w K mg base CX0 13 f fd ["_law_state"] (spS PTbsF) := by
  refine F.ok sc__law_tables (fun vs H Q E h => ?_) (fun cdv A outer s H vs Q E hr h => ?_)
  · obtain ⟨_, _, _, _, _, _, _, ⟨rfl, _⟩, _⟩ := h
    rfl
  · obtain ⟨sa, cl, n, k, G, R, h0, ⟨rfl, rfl, rfl⟩, q⟩ := h
    refine ⟨_, (pss_cons (ps_set (i := 1) sc__law_tables.nd rfl (Or.inr rfl) (pe_callC c__law_pick (hr.mono (by decide)) pass0 (pa_cons (pv 0) (pa_cons pe_int pa_nil))))
  (pss_cons (ps_set (i := 2) sc__law_tables.nd rfl (Or.inr rfl) (pe_callC c__law_pick (hr.mono (by decide)) pass0 (pa_cons (pv 0) (pa_cons pe_int pa_nil))))
  (pss_cons (ps_set (i := 3) sc__law_tables.nd rfl (Or.inl rfl) (pe_ifExp (pt_cmpR op_ltA (pv 1) pe_int (nomark _)) (pe_op op_addA (pv 2) pe_int) (pe_ifExp (pt_cmpR op_ltA (pv 1) pe_int (nomark _)) pe_int pe_int)))
  (pss_cons (ps_set (i := 4) sc__law_tables.nd rfl (Or.inl rfl) (pe_ifExp (pt_cmpR (op_eqA K hr.units) (pv 1) pe_int (nomark _)) pe_int pe_int))
  (pss_cons (ps_set (i := 5) sc__law_tables.nd rfl (Or.inr rfl) (pe_op op_mulA (pe_callC c__law_pick (hr.mono (by decide)) pass0 (pa_cons (pv 0) (pa_cons pe_int pa_nil))) (pe_op op_subA (pv 3) pe_int)))
  (pss_cons (ps_set (i := 6) sc__law_tables.nd rfl (Or.inr rfl) (pe_lc (own := [("_law_k", 10)]) (g := (gName 10)) rfl sc__law_tables.nd (pi_range1 (by rfl) Z.z_range (pa_cons (pv 3) pa_nil)) (blkOk_by (by kernel_rfl)) (fun _ _ _ _ _ => (pg_name (i := 10) sc__law_tables.nd rfl (Or.inl rfl))) (fun _ _ _ _ _ => pts_nil) (fun _ _ _ _ _ => (pe_callB call_absA (by rfl) Z.z_abs (by decide +kernel) (pa_cons (pe_op op_subA (pv 5) (pv 10)) pa_nil)))))
  (pss_cons (ps_setLc (i := 7) (own := [("_law_k", 10)]) (g := (gName 10)) rfl sc__law_tables.nd rfl rfl (sw_true rfl rfl rfl (by decide +kernel)) (pi_listK K (pv 6)) (blkOk_by (by kernel_rfl)) (fun _ _ _ _ _ => (pg_name (i := 10) sc__law_tables.nd rfl (Or.inl rfl))) (fun _ _ _ _ _ => pts_nil) (fun _ _ _ _ _ => (pe_op op_addA pe_str (pe_callTy call_strA (by rfl) Z.z_str (by decide +kernel) (pa_cons (pv 10) pa_nil)))))
  (pss_cons (ps_setLc (i := 8) (own := [("_law_a", 11)]) (g := (gName 11)) rfl sc__law_tables.nd rfl rfl (sw_true rfl rfl rfl (by decide +kernel)) (pi_listK K (pv 6)) (blkOk_by (by kernel_rfl)) (fun _ _ _ _ _ => (pg_name (i := 11) sc__law_tables.nd rfl (Or.inr rfl))) (fun _ _ _ _ _ => pts_nil) (fun _ _ _ _ _ => (pe_lc (own := [("_law_b", 12)]) (g := (gName 12)) rfl sc__law_tables.nd (pi_listK K (pv 6)) (blkOk_by (by kernel_rfl)) (fun _ _ _ _ _ => (pg_name (i := 12) sc__law_tables.nd rfl (Or.inl rfl))) (fun _ _ _ _ _ => pts_nil) (fun _ _ _ _ _ => (pe_callB call_absA (by rfl) Z.z_abs (by decide +kernel) (pa_cons (pe_op op_subA (pv 5) (pe_callC c__law_join (hr.mono (by decide)) pass0 (pa_cons (pv 1) (pa_cons (pv 11) (pa_cons (pv 12) pa_nil))))) pa_nil))))))
  (pss_cons (ps_setLc (i := 9) (own := [("_law_a", 11)]) (g := (gName 11)) rfl sc__law_tables.nd rfl rfl (sw_true rfl rfl rfl (by decide +kernel)) (pi_listK K (pv 6)) (blkOk_by (by kernel_rfl)) (fun _ _ _ _ _ => (pg_name (i := 11) sc__law_tables.nd rfl (Or.inr rfl))) (fun _ _ _ _ _ => pts_nil) (fun _ _ _ _ _ => (pe_lc (own := [("_law_b", 12)]) (g := (gName 12)) rfl sc__law_tables.nd (pi_listK K (pv 6)) (blkOk_by (by kernel_rfl)) (fun _ _ _ _ _ => (pg_name (i := 12) sc__law_tables.nd rfl (Or.inl rfl))) (fun _ _ _ _ _ => pts_nil) (fun _ _ _ _ _ => (pe_callB call_absA (by rfl) Z.z_abs (by decide +kernel) (pa_cons (pe_op op_subA (pv 5) (pe_callC c__law_then (hr.mono (by decide)) pass0 (pa_cons (pv 1) (pa_cons (pv 2) (pa_cons (pv 11) (pa_cons (pv 12) pa_nil)))))) pa_nil))))))
  (pss_cons (ps_ret (pe_callC c__law_table_scale (hr.mono (by decide)) pass0 (pa_cons (pv 7) (pa_cons (pv 8) (pa_cons (pv 9) (pa_cons (pv 5) (pa_cons (pe_callB call_absA (by rfl) Z.z_abs (by decide +kernel) (pa_cons (pe_op op_subA (pv 5) (pv 4)) pa_nil)) pa_nil)))))))
  pss_nil)))))))))), ?_⟩
    have st := stabS sa cl
    show tSeq _ _ (Ends.mk _ _ _ _) [some _, none, none, none, none, none, none, none, none, none, none, none, none] _
    refine q_setI st h0 (ev_pick (ea_consV (ev_var rfl) (ea_consV ev_c ea_nilV)) (by decide) (by decide)) fun w0 H1 hw k1 h1 => ?_
    obtain ⟨sort, rfl⟩ : ∃ a : Nat, w0 = (a : Nat) := ⟨w0.toNat, by omega⟩
    refine q_setI st h1 (ev_pick (ea_consV (ev_var rfl) (ea_consV ev_c ea_nilV)) (by decide) (by decide)) fun m0 H2 hm k2 h2 => ?_
    obtain ⟨most, rfl⟩ : ∃ a : Nat, m0 = (a : Nat) := ⟨m0.toNat, by omega⟩
    have h5 : sort < 5 := by omega
    have h4 : most < 4 := by omega
    obtain ⟨nn, hnn⟩ : ∃ nn, nn = bsN sort most := ⟨_, rfl⟩
    have n2 : 2 ≤ nn ∧ nn ≤ 16 := by
      rw [hnn]
      unfold bsN
      split <;> (try split) <;> omega
    refine q_setV st h2 (x := .int (nn : Nat)) (ev_if (ka := 0) (kb := 0) st (et_testV (ev_opV (ev_var rfl) ev_c (v_lt st))) (fun c => ev_eq (congrArg V.int ?_) (ev_opV (ev_var rfl) ev_c (v_add st))) fun c => ev_if (ka := 0) (kb := 0) st (et_testV (ev_opV (ev_var rfl) ev_c (v_lt st))) (fun c' => ev_eq (congrArg V.int ?_) ev_c) fun c' => ev_eq (congrArg V.int ?_) ev_c) fun H3 k3 h3 => ?_
    · have c := of_decide_eq_true c
      rw [hnn]
      unfold bsN
      rw [if_pos (by omega)]
      rfl
    · have c := of_decide_eq_false c
      have c' := of_decide_eq_true c'
      rw [hnn]
      unfold bsN
      rw [if_neg (by omega), if_pos (by omega)]
      rfl
    · have c := of_decide_eq_false c
      have c' := of_decide_eq_false c'
      rw [hnn]
      unfold bsN
      rw [if_neg (by omega), if_neg (by omega)]
      rfl
    refine q_setV st h3 (x := .int (bsM sort : Nat)) (ev_if (ka := 0) (kb := 0) st (et_testV (ev_opV (ev_var rfl) ev_c (v_eqI st))) (fun c => ev_eq (congrArg V.int ?_) ev_c) fun c => ev_eq (congrArg V.int ?_) ev_c) fun H4 k4 h4' => ?_
    · have c := of_decide_eq_true c
      unfold bsM
      rw [if_pos (by omega)]
      rfl
    · have c := of_decide_eq_false c
      unfold bsM
      rw [if_neg (by omega)]
      rfl
    refine q_setI st h4' (P := fun z => ∃ tt : Nat, tt < 2 ∧ z = (tt : Nat) * (((nn : Nat) : Int) - 1)) (ev_op (Ra := IsI fun r => 0 ≤ r ∧ r < 2) (Rb := IsV (.int (((nn : Nat) : Int) - 1))) (ev_pick (ea_consV (ev_var rfl) (ea_consV ev_c ea_nilV)) (by decide) (by decide)) (ev_opV (ev_var rfl) ev_c (v_sub st)) fun u v G3 s3 eu ev => ?_) fun t H5 ht k5 h5' => ?_
    · obtain ⟨i, hi, rfl⟩ := eu
      obtain rfl := (show _ = _ from ev)
      exact rv_imp (v_mul st (.inl ⟨by omega, by omega⟩)) fun v G2 s2 r => ⟨_, ⟨i.toNat, by omega, by rw [show ((i.toNat : Nat) : Int) = i by omega]⟩, r⟩
    obtain ⟨tt, ht, rfl⟩ := ht
    obtain ⟨T, rg⟩ := tbl_reg h5 h4 ht
    rw [← hnn] at T rg
    have tb : ∀ k : Nat, k < nn → ∃ j : Nat, j < nn ∧ trn ((tt : Nat) * (((nn : Nat) : Int) - 1)) k = (j : Nat) := fun k hk => ⟨_, by show (if tt = 0 then k else nn - 1 - k) < nn; split <;> omega, trn_nat ht hk⟩
    obtain ⟨t, et⟩ : ∃ t : Int, t = (tt : Nat) * (((nn : Nat) : Int) - 1) := ⟨_, rfl⟩
    have etn : t = ((tt * (nn - 1) : Nat) : Int) := by rw [et, Int.natCast_mul, Int.natCast_sub (by omega)]; rfl
    rw [← et] at T rg tb ⊢
    refine q_set h5' (ev_lcV (f := fun j => .int (trn t j)) st (ea_consV (ev_var rfl) ea_nilV) (by omega) (by omega) (fun _ => rfl) fun j G' hj s' => ev_cbV (ea_consV (ev_opV (ev_var rfl) (ev_var rfl) (v_sub st)) ea_nilV) (c_abs st)) fun v6 G6 H6 s6 r6 => ?_
    obtain ⟨p6, rfl, _, g6⟩ := r6
    rw [Int.toNat_natCast] at g6
    refine q_set s6.s (ev_lcVL (f := fun v => match v with | .int i => .str (("w" : Str) ++ (toString i : Str)) | _ => .non) st (ev_var rfl) (SqL.of g6) (by rw [List.length_map, List.length_range]; omega) (fun _ => rfl) fun j z G' hz s' => ?_) fun v7 G7 H7 s7 r7 => ?_
    · obtain ⟨hj, rfl⟩ := map_get hz
      rw [List.length_range] at hj
      rw [List.getElem_range]
      obtain ⟨i, hi, e⟩ := tb j hj
      have sm := str_small i (by omega)
      rw [e]
      exact ev_opV ev_c (ev_cbV (ea_consV (ev_var rfl) ea_nilV) (c_str st sm.1)) (v_adds st (Nat.le_trans sm.2 (by decide)))
    obtain ⟨p7, rfl, _, g7⟩ := r7
    have g7 : G7 p7 = some (.lst ((tuN nn t).map V.str)) := by
      rw [g7, List.map_map]
      unfold tuN
      rw [List.map_map]
      rfl
    have g67 := s7.g _ _ g6
    refine q_set s7.s (ev_gridUN (u := trn t) (n := nn) (f := tuJ sort t) (i := 6) (ja := 11) (jb := 12) (σa := fun a => [some (.ref sa), some (.int (sort : Nat)), some (.int (most : Nat)), some (.int (nn : Nat)), some (.int (bsM sort : Nat)), some (.int t), some (.ref p6), some (.ref p7), none, none, none, some (.int (trn t a)), none]) (σb := fun a b => [some (.ref sa), some (.int (sort : Nat)), some (.int (most : Nat)), some (.int (nn : Nat)), some (.int (bsM sort : Nat)), some (.int t), some (.ref p6), some (.ref p7), none, none, none, some (.int (trn t a)), some (.int (trn t b))]) st rfl g67 (by omega) (fun _ => rfl) (fun _ => rfl) (fun _ => rfl) (fun _ _ => rfl) (fun _ _ => rfl) fun a b G' ha hb s' => ?_) fun v8 G8 H8 s8 r8 => ?_
    · exact ev_cbV (ea_consV (ev_opV (ev_var rfl) (ev_callV (R := IsV (.int (ljn sort (trn t a) (trn t b)))) st (ea_consV (ev_var rfl) (ea_consV (ev_var rfl) (ea_consV (ev_var rfl) ea_nilV))) fun G'' s'' => ⟨sort, _, _, rfl, h5, rfl⟩) (v_sub st)) ea_nilV) (c_abs st)
    obtain ⟨p8, rfl, t8⟩ := r8
    refine q_set s8.s (ev_gridUN (u := trn t) (n := nn) (f := tuT sort (most : Nat) t) (i := 6) (ja := 11) (jb := 12) (σa := fun a => [some (.ref sa), some (.int (sort : Nat)), some (.int (most : Nat)), some (.int (nn : Nat)), some (.int (bsM sort : Nat)), some (.int t), some (.ref p6), some (.ref p7), some (.ref p8), none, none, some (.int (trn t a)), none]) (σb := fun a b => [some (.ref sa), some (.int (sort : Nat)), some (.int (most : Nat)), some (.int (nn : Nat)), some (.int (bsM sort : Nat)), some (.int t), some (.ref p6), some (.ref p7), some (.ref p8), none, none, some (.int (trn t a)), some (.int (trn t b))]) st rfl (s8.g _ _ g67) (by omega) (fun _ => rfl) (fun _ => rfl) (fun _ => rfl) (fun _ _ => rfl) (fun _ _ => rfl) fun a b G' ha hb s' => ?_) fun v9 G9 H9 s9 r9 => ?_
    · exact ev_cbV (ea_consV (ev_opV (ev_var rfl) (ev_callV (R := IsV (.int (lth sort (most : Nat) (trn t a) (trn t b)))) st (ea_consV (ev_var rfl) (ea_consV (ev_var rfl) (ea_consV (ev_var rfl) (ea_consV (ev_var rfl) ea_nilV)))) fun G'' s'' => ⟨sort, _, _, _, rfl, h5, rfl⟩) (v_sub st)) ea_nilV) (c_abs st)
    obtain ⟨p9, rfl, t9⟩ := r9
    have hm : bsM sort < nn := by
      rw [hnn]
      unfold bsN bsM
      split <;> split <;> (try split) <;> omega
    obtain ⟨ui, hui, eui⟩ := tb _ hm
    have uu : (trn t (bsM sort)).toNat = ui := by rw [eui, Int.toNat_natCast]
    rw [uu] at T rg
    refine q_ret s9.s (ev_callV (R := fun v G' => ∃ p x, v = .ref p ∧ G' p = some (.lst [.ref p7, .ref p8, .ref p9, .int ((tt * (nn - 1) : Nat) : Int), .int (ui : Nat), .ref x])) (ws := [.ref p7, .ref p8, .ref p9, .int ((tt * (nn - 1) : Nat) : Int), .int (ui : Nat)]) st (ea_consV (ev_var rfl) (ea_consV (ev_var rfl) (ea_consV (ev_var rfl) (ea_consV (ev_eq (congrArg V.int etn) (ev_var rfl)) (ea_consV (ev_eq (congrArg V.int eui) (ev_cbV (ea_consV (ev_opV (ev_var rfl) (ev_var rfl) (v_sub st)) ea_nilV) (c_abs st))) ea_nilV))))) fun G' s' => ⟨p7, p8, p9, _, _, _, _, _, rfl, s' _ _ (s9.g _ _ (s8.g _ _ g7)), by rw [tuN_len]; exact (t8.mono (s9.g.trans s')).tab, by rw [tuN_len]; exact (t9.mono s').tab, T, rfl⟩) fun v10 G10 H10 s10 r10 => q v10 G10 H10 (Fr.stp (((((((((Fr.refl G H).kp k1).kp k2).kp k3).kp k4).kp k5).trans s6.fr).trans s7.fr).trans (s8.fr.trans (s9.fr.trans s10.fr))) (st.wk s10.s (by omega))) ?_
    obtain ⟨p10, x10, rfl, g10⟩ := r10
    have s07 := s6.g.trans s7.g
    exact ⟨p10, p7, p8, p9, x10, tuN nn t, tt * (nn - 1), ui, tuT sort (most : Nat) t, tuJ sort t, rfl, g10, by rw [tuN_len]; exact (t8.back s07).mono (s9.g.trans s10.g), by rw [tuN_len]; exact (t9.back (s07.trans s8.g)).mono s10.g, T⟩
abbrev s__law_change : Stmt := top 42
theorem sc__law_change : FnScope ["_law_state", "_law_tables_here", "_law_many", "_law_way", "_law_table", "_law_row"] ["_law_state", "_law_tables_here"] (defScope s__law_change) := ⟨rfl, rfl, rfl, by decide +kernel, rfl, by decide +kernel, by decide +kernel⟩
/-- a table of places that stands in H, its lists new since H0 and not told of by G -/
def TabO (H0 G H : Hp) (p : Addr) (m : Nat) (f : Nat → Nat → Int) : Prop := H0 p = none ∧ G p = none ∧ ∃ qs : List Addr, H p = some (.lst (qs.map V.ref)) ∧ qs.length = m ∧ ∀ (a : Nat) q, qs[a]? = some q → H0 q = none ∧ G q = none ∧ H q = some (.lst ((List.range m).map fun b => V.int (f a b)))
def LTo (H0 G H : Hp) (m nv sl : Nat) (th jn : Nat → Nat → Int) (p : Addr) : Prop := H0 p = none ∧ G p = none ∧ ∃ pj pp, H p = some (.lst [.ref pj, .ref pp, .int (nv : Nat), .int (sl : Nat)]) ∧ TabO H0 G H pj m jn ∧ TabO H0 G H pp m th
def chgF (qs : List Addr) (q : Addr) (c : Nat) (v : Int) (f : Nat → Nat → Int) (a b : Nat) : Int := if qs[a]? = some q ∧ b = c then v else f a b
/-- the row at q is changed at c, wherever it stands -/
theorem rows_chg {qs : List Addr} {q : Addr} {c m : Nat} {v : Int} {f : Nat → Nat → Int} {H : Hp} {xs : List V} (hq : H q = some (.lst xs)) (hr : ∀ (a : Nat) r, qs[a]? = some r → H r = some (.lst ((List.range m).map fun b => V.int (f a b)))) :
    ∀ (a : Nat) r, qs[a]? = some r → upd H q (.lst (xs.set c (.int v))) r = some (.lst ((List.range m).map fun b => V.int (chgF qs q c v f a b))) := fun a r hra => by
  by_cases e : r = q
  · subst e
    have hx : xs = (List.range m).map fun b => V.int (f a b) := by
      have := (hr a r hra).symm.trans hq
      injection this with this
      injection this with this
      exact this.symm
    rw [upd_same, hx]
    refine congrArg (fun z => some (HO.lst z)) (List.ext_getElem (by simp) fun i h1 h2 => ?_)
    rw [List.getElem_set, List.getElem_map, List.getElem_range, List.getElem_map, List.getElem_range]
    unfold chgF
    by_cases hi : c = i
    · rw [if_pos hi, if_pos ⟨hra, hi.symm⟩]
    · rw [if_neg hi, if_neg fun z => hi z.2.symm]
  · rw [upd_ne e, hr a r hra]
    refine congrArg (fun z => some (HO.lst z)) (List.map_congr_left fun b _ => ?_)
    unfold chgF
    rw [if_neg fun z => e (Option.some.inj (hra.symm.trans z.1))]
theorem chgF_ok {qs : List Addr} {q : Addr} {c m : Nat} {v : Int} {f : Nat → Nat → Int} (hv : 0 ≤ v ∧ v < m) (hf : ∀ a b, a < m → b < m → 0 ≤ f a b ∧ f a b < m) : ∀ a b, a < m → b < m → 0 ≤ chgF qs q c v f a b ∧ chgF qs q c v f a b < m := fun a b ha hb => by
  unfold chgF
  split
  · exact hv
  · exact hf a b ha hb
def sp_chg9 : Sp := fun vs H Q _ => ∃ (sa cl p : Addr) (n0 n m nv sl : Nat) (G0 H0 G : Hp) (th jn : Nat → Nat → Int), vs = [.ref sa, .ref p] ∧ (Src sa cl).s n0 G0 H0 ∧ (Src sa cl).s n G H ∧ 1 ≤ m ∧ m ≤ 16 ∧ LTo H0 G H m nv sl th jn p ∧ LTok m nv sl th jn ∧
  ∀ H' nv' sl' th' jn', (Src sa cl).s (n + 4) G H' → LTo H0 G H' m nv' sl' th' jn' p → LTok m nv' sl' th' jn' → Q .non H'
theorem ok_chg {f : Addr} {fd : FuncData} (Z : Bi mg) (c__law_pick : Callee P w K mg base "_law_pick" CX0 1 ["_law_source_here", "_law_many"] [] sp_pick) (F : Fun K "_law_change" "_law_change" s__law_change f fd) : FnOk P w K mg base CX0 2 f fd ["_law_state", "_law_tables_here"] sp_chg9 := by
  refine F.ok sc__law_change (fun vs H Q E h => ?_) (fun cdv A outer s H vs Q E hr h => ?_)
  · obtain ⟨_, _, _, _, _, _, _, _, _, _, _, _, _, rfl, _⟩ := h
    rfl
  · obtain ⟨sa, cl, p, n0, n, m, nv, sl, G0, H0, G, th, jn, rfl, s0, h0, m1, m2, ⟨p0, pg, pj, pp, hp, ⟨j0, jg, qj, hj, lj, rj⟩, ⟨t0, tg, qt, ht, lt, rt⟩⟩, ok, q⟩ := h
    refine ⟨_, (pss_cons (ps_set (i := 2) sc__law_change.nd rfl (Or.inl rfl) (pe_callB (call_lenA K) (by rfl) Z.z_len PySem.boot_len (pa_cons (pe_ix (ix_any K (hu_of hr)) (pv 1) pe_int (fun _ _ => rfl)) pa_nil)))
  (pss_cons (ps_set (i := 3) sc__law_change.nd rfl (Or.inl rfl) (pe_callC c__law_pick (hr.mono (by decide)) pass0 (pa_cons (pv 0) (pa_cons pe_int pa_nil))))
  (pss_cons (ps_if (pt_cmpR op_gtA (pv 3) pe_int (nomark _)) (pss_cons (ps_asg (pe_callC c__law_pick (hr.mono (by decide)) pass0 (pa_cons (pv 0) (pa_cons (pv 2) pa_nil))) (pg_sub (pv 1) (pe_op op_subA (pv 3) pe_int) (set_any (hu_of hr))))
  (pss_cons ps_retN
  pss_nil)) pss_nil)
  (pss_cons (ps_set (i := 4) sc__law_change.nd rfl (Or.inl rfl) (pe_ix (ix_any K (hu_of hr)) (pv 1) (pe_op op_modA (pe_callTy call_intA (by rfl) Z.z_int (by decide +kernel) (pa_cons (pv 3) pa_nil)) pe_int) (fun _ _ => rfl)))
  (pss_cons (ps_set (i := 5) sc__law_change.nd rfl (Or.inl rfl) (pe_ix (ix_any K (hu_of hr)) (pv 4) (pe_callC c__law_pick (hr.mono (by decide)) pass0 (pa_cons (pv 0) (pa_cons (pv 2) pa_nil))) (fun _ _ => rfl)))
  (pss_cons (ps_asg (pe_callC c__law_pick (hr.mono (by decide)) pass0 (pa_cons (pv 0) (pa_cons (pv 2) pa_nil))) (pg_sub (pv 5) (pe_callC c__law_pick (hr.mono (by decide)) pass0 (pa_cons (pv 0) (pa_cons (pv 2) pa_nil))) (set_any (hu_of hr))))
  pss_nil)))))), ?_⟩
    have st := stabS sa cl
    obtain ⟨L, hL⟩ : ∃ L, L = p :: pj :: pp :: (qj ++ qt) := ⟨_, rfl⟩
    have off : ∀ b ∈ L, H0 b = none ∧ G b = none := fun b hb => by
      rw [hL] at hb
      rcases List.mem_cons.mp hb with rfl | hb
      · exact ⟨p0, pg⟩
      rcases List.mem_cons.mp hb with rfl | hb
      · exact ⟨j0, jg⟩
      rcases List.mem_cons.mp hb with rfl | hb
      · exact ⟨t0, tg⟩
      rcases List.mem_append.mp hb with hb | hb
      · obtain ⟨a, ha⟩ := List.mem_iff_getElem?.mp hb
        exact ⟨(rj a b ha).1, (rj a b ha).2.1⟩
      · obtain ⟨a, ha⟩ := List.mem_iff_getElem?.mp hb
        exact ⟨(rt a b ha).1, (rt a b ha).2.1⟩
    obtain ⟨hP, gP⟩ := pubL_s st s0 h0 off
    have on : ∀ {b : Addr} {o : HO}, b ∈ L → H b = some o → pubL G H L b = some o := fun hb e => pubL_on (st.sub h0) hb e
    obtain ⟨GP, hGP⟩ : ∃ GP, GP = pubL G H L := ⟨_, rfl⟩
    rw [← hGP] at hP gP
    have gp : GP p = some (.lst [.ref pj, .ref pp, .int (nv : Nat), .int (sl : Nat)]) := by rw [hGP]; exact on (by rw [hL]; simp) hp
    have gj : GP pj = some (.lst (qj.map V.ref)) := by rw [hGP]; exact on (by rw [hL]; simp) hj
    have gt : GP pp = some (.lst (qt.map V.ref)) := by rw [hGP]; exact on (by rw [hL]; simp) ht
    show tSeq _ _ (Ends.mk _ _ _ _) [some _, some _, none, none, none, none] _
    refine q_setV st hP (x := .int (m : Nat)) (ev_eq (y := .int ((qj.map V.ref).length : Nat)) (congrArg V.int (by rw [List.length_map, lj])) (ev_cbV (ea_consV (ev_at (k := 0) st gp (ev_var rfl) rfl) ea_nilV) (c_lenL st (SqL.of gj)))) fun H1 k1 h1 => ?_
    refine q_setI st h1 (ev_pick (ea_consV (ev_var rfl) (ea_consV ev_c ea_nilV)) (by decide) (by decide)) fun w0 H2 hw k2 h2 => ?_
    obtain ⟨wy, rfl⟩ : ∃ a : Nat, w0 = (a : Nat) := ⟨w0.toNat, by omega⟩
    have tr : ∀ {J : Hp}, Kp (Src sa cl) H J → ∀ b o, H0 b = none → H b = some o → J b = some o := fun k b o z e => k.k b o (st.fre s0 z) e
    have k12 := k1.trans k2
    have gN := st.anti h0 h2 gP
    have npx : ∀ {b : Addr} {qs : List Addr}, H b = some (.lst (qs.map V.ref)) → b ≠ p := fun {b qs} e z => by
      rw [z, hp] at e
      injection e with e
      injection e with e
      have h2 := congrArg (fun l : List V => l[2]?) e
      obtain ⟨_, z⟩ := map_get (show (qs.map V.ref)[2]? = some (V.int (nv : Nat)) from h2.symm)
      cases z
    have npr : ∀ {b : Addr} {f : Nat → Int}, H b = some (.lst ((List.range m).map fun k => V.int (f k))) → b ≠ p := fun {b f} e z => by
      rw [z, hp] at e
      injection e with e
      injection e with e
      have h2 := congrArg (fun l : List V => l[0]?) e
      obtain ⟨_, z⟩ := map_get (show ((List.range m).map fun k => V.int (f k))[0]? = some (V.ref pj) from h2.symm)
      cases z
    have nrr : ∀ {b r : Addr} {f : Nat → Int} {qs : List Addr}, qs.length = m → H b = some (.lst (qs.map V.ref)) → H r = some (.lst ((List.range m).map fun k => V.int (f k))) → b ≠ r := fun {b r f qs} hl e1 e2 z => by
      rw [z, e2] at e1
      injection e1 with e1
      injection e1 with e1
      have h2 := congrArg (fun l : List V => l[0]?) e1
      have h3 : ((List.range m).map fun k => V.int (f k))[0]? = some (V.int (f 0)) := by
        rw [List.getElem?_map, List.getElem?_range (by omega)]
        rfl
      obtain ⟨_, z⟩ := map_get (show (qs.map V.ref)[0]? = some (V.int (f 0)) from h2.symm.trans h3)
      cases z
    refine q_if st h2 (et_testV (ev_opV (ev_var rfl) ev_c (v_gt st))) (fun H3 p3 k3 h3 => ?_) (fun H3 p3 k3 h3 => q_end ?_)
    · have p3 := of_decide_eq_true p3.symm
      have h3G := st.anti h0 h3 gP
      refine q_setKI (Pv := fun z => 0 ≤ z ∧ z < (m : Nat)) (Pc := fun z => z = 2 ∨ z = 3) st s0 h3G gP h3 p0 pg (tr (k12.trans k3) _ _ p0 hp) (ev_pick (ea_consV (ev_var rfl) (ea_consV (ev_var rfl) ea_nilV)) (by omega) (by omega)) (ev_var rfl) (ev_IP (ev_opV (ev_var rfl) ev_c (v_sub st)) (by omega)) (fun z hz => by
        show 0 ≤ z ∧ z < ((4 : Nat) : Int)
        omega) fun c v H4 hc hv k4 h4 => ?_
      have kk := (k12.trans k3).trans k4
      have TO : ∀ {pt : Addr} {qs : List Addr} {f : Nat → Nat → Int} {o : HO}, H0 pt = none → G pt = none → H pt = some (.lst (qs.map V.ref)) → qs.length = m → (∀ (a : Nat) q, qs[a]? = some q → H0 q = none ∧ G q = none ∧ H q = some (.lst ((List.range m).map fun b => V.int (f a b)))) → TabO H0 G (upd H4 p o) pt m f := fun {pt qs f o} z0 zg e l r => ⟨z0, zg, qs, by rw [upd_ne (npx e)]; exact tr kk _ _ z0 e, l, fun a b hb => by
        obtain ⟨x1, x2, x3⟩ := r a b hb
        exact ⟨x1, x2, by rw [upd_ne (npr x3)]; exact tr kk _ _ x1 x3⟩⟩
      obtain ⟨vv, rfl⟩ : ∃ a : Nat, v = (a : Nat) := ⟨v.toNat, by omega⟩
      have h4 := st.wk h4 (show n + 0 + 1 + 0 + 1 + 0 + 0 ≤ n + 4 by omega)
      rcases hc with rfl | rfl
      · exact q _ vv sl th jn h4 ⟨p0, pg, pj, pp, upd_same, TO j0 jg hj lj rj, TO t0 tg ht lt rt⟩ ⟨by omega, ok.sl, ok.th, ok.jn⟩
      · exact q _ nv vv th jn h4 ⟨p0, pg, pj, pp, upd_same, TO j0 jg hj lj rj, TO t0 tg ht lt rt⟩ ⟨ok.nv, by omega, ok.th, ok.jn⟩
    obtain ⟨i, pt, qs, ff, hi, hz, gq, lq, rq, inL⟩ : ∃ (i : Nat) (pt : Addr) (qs : List Addr) (ff : Nat → Nat → Int), wy % 2 = i ∧ [V.ref pj, .ref pp, .int (nv : Nat), .int (sl : Nat)][i]? = some (.ref pt) ∧ GP pt = some (.lst (qs.map V.ref)) ∧ qs.length = m ∧ (∀ (a : Nat) q, qs[a]? = some q → H0 q = none ∧ G q = none ∧ H q = some (.lst ((List.range m).map fun b => V.int (ff a b)))) ∧ True := by
      rcases (show wy % 2 = 0 ∨ wy % 2 = 1 by omega) with e | e
      · exact ⟨0, pj, qj, jn, e, rfl, gj, lj, rj, trivial⟩
      · exact ⟨1, pp, qt, th, e, rfl, gt, lt, rt, trivial⟩
    refine q_setV st h3 (x := .ref pt) (ev_opV (ev_var rfl) (ev_eq (y := .int (((wy : Nat) : Int) % 2)) (z := .int (i : Nat)) (congrArg V.int (by omega)) (ev_opV (ev_cbV (ea_consV (ev_var rfl) ea_nilV) (c_int st)) ev_c (v_mod st (by decide)))) (v_ixL st (SqL.of gp) (atI_nat hz))) fun H4 k4 h4 => ?_
    refine q_set h4 (R := fun v G' => ∃ (a : Nat) (q : Addr), qs[a]? = some q ∧ v = .ref q) (ev_op (Ra := IsV (.ref pt)) (Rb := IsI fun r => 0 ≤ r ∧ r < (m : Nat)) (ev_var rfl) (ev_pick (ea_consV (ev_var rfl) (ea_consV (ev_var rfl) ea_nilV)) (by omega) (by omega)) fun u v G' s' eu ev => ?_) fun v5 G5 H5 s5 r5 => ?_
    · obtain rfl := (show _ = _ from eu)
      obtain ⟨z, hzz, rfl⟩ := ev
      obtain ⟨r, rfl⟩ : ∃ r : Nat, z = (r : Nat) := ⟨z.toNat, by omega⟩
      have hr : r < qs.length := by omega
      exact rv_imp (v_ixL st (SqL.of (s' _ _ gq)) (atI_nat (v := .ref qs[r]) (by rw [List.getElem?_map, List.getElem?_eq_getElem hr]; rfl))) fun v G2 _ e => ⟨r, qs[r], List.getElem?_eq_getElem hr, e⟩
    obtain ⟨a, q5, hq5, rfl⟩ := r5
    obtain ⟨q50, q5g, q5h⟩ := rq a q5 hq5
    have k05 := ((k12.trans k3).trans k4).trans s5.k
    have g05 := gP.trans s5.g
    have h5G := st.anti h0 s5.s g05
    refine q_setKI (Pv := fun z => 0 ≤ z ∧ z < (m : Nat)) (Pc := fun z => 0 ≤ z ∧ z < (m : Nat)) st s0 h5G g05 s5.s q50 q5g (tr k05 _ _ q50 q5h) (ev_pick (ea_consV (ev_var rfl) (ea_consV (ev_var rfl) ea_nilV)) (by omega) (by omega)) (ev_var rfl) (ev_pick (ea_consV (ev_var rfl) (ea_consV (ev_var rfl) ea_nilV)) (by omega) (by omega)) (fun z hz => by
      rw [List.length_map, List.length_range]
      exact hz) fun c v H6 hc hv k6 h6 => ?_
    have kk := k05.trans k6
    have TO : ∀ {pt : Addr} {qs : List Addr} {f : Nat → Nat → Int}, H0 pt = none → G pt = none → H pt = some (.lst (qs.map V.ref)) → qs.length = m → (∀ (a : Nat) q, qs[a]? = some q → H0 q = none ∧ G q = none ∧ H q = some (.lst ((List.range m).map fun b => V.int (f a b)))) → TabO H0 G (upd H6 q5 (.lst (((List.range m).map fun b => V.int (ff a b)).set c.toNat (.int v)))) pt m (chgF qs q5 c.toNat v f) := fun {pt qs f} z0 zg e l r => ⟨z0, zg, qs, by rw [upd_ne (nrr l e q5h)]; exact tr kk _ _ z0 e, l, fun a' b hb => by
      obtain ⟨x1, x2, x3⟩ := r a' b hb
      exact ⟨x1, x2, rows_chg (tr kk _ _ q50 q5h) (fun a'' r' hr' => tr kk _ _ (r a'' r' hr').1 (r a'' r' hr').2.2) a' b hb⟩⟩
    refine q_end ?_
    exact q _ nv sl _ _ (st.wk h6 (by omega)) ⟨p0, pg, pj, pp, by rw [upd_ne fun z => npr q5h z.symm]; exact tr kk _ _ p0 hp, TO j0 jg hj lj rj, TO t0 tg ht lt rt⟩ ⟨ok.nv, ok.sl, chgF_ok hv ok.th, chgF_ok hv ok.jn⟩
abbrev s__law_pair_right : Stmt := top 44
theorem sc__law_pair_right : FnScope ["_law_state", "_law_first", "_law_second", "_law_names", "_law_others", "_law_many", "_law_spots", "_law_a", "_law_both", "_law_at", "_law_words", "_law_scale", "_law_rows", "_law_x", "_law_lefts", "_law_rights", "_law_b", "_law_y"] ["_law_state"] (defScope s__law_pair_right) := ⟨rfl, rfl, rfl, by decide +kernel, rfl, by decide +kernel, by decide +kernel⟩
def PPr9 : Addr → List V → Nat → Nat → Hp → HR → Prop := fun sa vs _ k _ R => vs = [.ref sa] ∧ k = 60 ∧ R = IsV (.bl true)
theorem ok_pair9 {Cs : List Addr} {CP : Addr} {f : Addr} {fd : FuncData} (Z : Bi mg) (iP : CP ∈ Cs) (oP : ClsOk K CP)
    (c__law_pick : Callee P w K mg base "_law_pick" CX0 1 ["_law_source_here", "_law_many"] [] sp_pick) (c__law_free : Callee P w K mg base "_law_free" CX0 2 ["_law_state", "_law_many"] [] (spS PFr9)) (c__law_scale_of : Callee P w K mg base "_law_scale_of" CX0 12 ["_law_tables_here", "_law_names"] [] (spP (PLso K Cs)))
    (c_PairScale : Maker P w K mg base "PairScale" CP (L2.CX P w) 10 ["self", "left", "right"] [] (spI (PPrI K Cs CP))) (c_first_fault : Callee P w K mg base "first_fault" CX0 4 ["scale"] [] (spP (PFft K Cs))) (c__law_fault : Callee P w K mg base "_law_fault" CX0 2 ["_law_tables_here", "_law_names"] [] (spP (PLft K)))
    (c__law_like : Callee P w K mg base "_law_like" CX0 4 ["_law_found", "_law_due"] [] (spP (PLike K 4))) (F : Fun K "_law_pair_right" "_law_pair_right" s__law_pair_right f fd) : FnOk P w K mg base CX0 13 f fd ["_law_state"] (spS PPr9) := by
  refine F.ok sc__law_pair_right (fun vs H Q E h => ?_) (fun cdv A outer s H vs Q E hr h => ?_)
  · obtain ⟨_, _, _, _, _, _, _, ⟨rfl, _⟩, _⟩ := h
    rfl
  · obtain ⟨sa, cl, n, k, G, R, h0, ⟨rfl, rfl, rfl⟩, q⟩ := h
    refine ⟨_, (pss_cons (ps_set (i := 1) sc__law_pair_right.nd rfl (Or.inl rfl) (pe_callC c__law_free (hr.mono (by decide)) pass0 (pa_cons (pv 0) (pa_cons (pe_op op_addA pe_int (pe_callC c__law_pick (hr.mono (by decide)) pass0 (pa_cons (pv 0) (pa_cons pe_int pa_nil)))) pa_nil))))
  (pss_cons (ps_set (i := 2) sc__law_pair_right.nd rfl (Or.inl rfl) (pe_callC c__law_free (hr.mono (by decide)) pass0 (pa_cons (pv 0) (pa_cons (pe_op op_addA pe_int (pe_callC c__law_pick (hr.mono (by decide)) pass0 (pa_cons (pv 0) (pa_cons pe_int pa_nil)))) pa_nil))))
  (pss_cons (ps_set (i := 3) sc__law_pair_right.nd rfl (Or.inr rfl) (pe_slice (sl_listK K) (pe_lst (pa_cons pe_str (pa_cons pe_str pa_nil))) po_none (po_some (pe_callB (call_lenA K) (by rfl) Z.z_len PySem.boot_len (pa_cons (pe_ix (ix_any K (hu_of hr)) (pv 1) pe_int (fun _ _ => rfl)) pa_nil)))))
  (pss_cons (ps_set (i := 4) sc__law_pair_right.nd rfl (Or.inr rfl) (pe_slice (sl_listK K) (pe_lst (pa_cons pe_str (pa_cons pe_str pa_nil))) po_none (po_some (pe_callB (call_lenA K) (by rfl) Z.z_len PySem.boot_len (pa_cons (pe_ix (ix_any K (hu_of hr)) (pv 2) pe_int (fun _ _ => rfl)) pa_nil)))))
  (pss_cons (ps_set (i := 5) sc__law_pair_right.nd rfl (Or.inr rfl) (pe_callB (call_lenA K) (by rfl) Z.z_len PySem.boot_len (pa_cons (pv 4) pa_nil)))
  (pss_cons (ps_set (i := 6) sc__law_pair_right.nd rfl (Or.inl rfl) (pe_lst pa_nil))
  (pss_cons (ps_for PassesOwn.never rfl (pi_range1 (by rfl) Z.z_range (pa_cons (pe_callB (call_lenA K) (by rfl) Z.z_len PySem.boot_len (pa_cons (pv 3) pa_nil)) pa_nil)) (pg_name (i := 7) sc__law_pair_right.nd rfl (Or.inr rfl)) (pss_cons (ps_set (i := 6) sc__law_pair_right.nd rfl (Or.inl rfl) (pe_op op_addA (pv 6) (pe_lc (own := [("_law_b", 16)]) (g := (gName 16)) rfl sc__law_pair_right.nd (pi_range1 (by rfl) Z.z_range (pa_cons (pv 5) pa_nil)) (blkOk_by (by kernel_rfl)) (fun _ _ _ _ _ => (pg_name (i := 16) sc__law_pair_right.nd rfl (Or.inl rfl))) (fun _ _ _ _ _ => pts_nil) (fun _ _ _ _ _ => (pe_lst (pa_cons (pv 7) (pa_cons (pv 16) pa_nil)))))))
  pss_nil))
  (pss_cons (ps_set (i := 8) sc__law_pair_right.nd rfl (Or.inl rfl) (pe_lst pa_nil))
  (pss_cons (ps_for PassesOwn.never rfl (pi_range1 (by rfl) Z.z_range (pa_cons pe_int pa_nil)) (pg_name (i := 9) sc__law_pair_right.nd rfl (Or.inl rfl)) (pss_cons (ps_set (i := 12) sc__law_pair_right.nd rfl (Or.inl rfl) (pe_lst pa_nil))
  (pss_cons (ps_for PassesOwn.never rfl (pi_listK K (pv 6)) (pg_name (i := 13) sc__law_pair_right.nd rfl (Or.inl rfl)) (pss_cons (ps_set (i := 14) sc__law_pair_right.nd rfl (Or.inr rfl) (pe_ix (ix_any K (hu_of hr)) (pe_ix (ix_any K (hu_of hr)) (pv 1) (pv 9) (fun _ _ => rfl)) (pe_ix (ix_any K (hu_of hr)) (pv 13) pe_int (fun _ _ => rfl)) (fun _ _ => rfl)))
  (pss_cons (ps_set (i := 15) sc__law_pair_right.nd rfl (Or.inr rfl) (pe_ix (ix_any K (hu_of hr)) (pe_ix (ix_any K (hu_of hr)) (pv 2) (pv 9) (fun _ _ => rfl)) (pe_ix (ix_any K (hu_of hr)) (pv 13) pe_int (fun _ _ => rfl)) (fun _ _ => rfl)))
  (pss_cons (ps_expr (pe_bm PySem.F.plainAttrs_list PySem.F.slot_list_append PySem.F.type_list_append mt_append (pv 12) (pa_cons (pe_lc (own := [("_law_y", 17)]) (g := (gName 17)) rfl sc__law_pair_right.nd (pi_listK K (pv 6)) (blkOk_by (by kernel_rfl)) (fun _ _ _ _ _ => (pg_name (i := 17) sc__law_pair_right.nd rfl (Or.inl rfl))) (fun _ _ _ _ _ => pts_nil) (fun _ _ _ _ _ => (pe_op op_addA (pe_op op_mulA (pe_ix (ix_any K (hu_of hr)) (pv 14) (pe_ix (ix_any K (hu_of hr)) (pv 17) pe_int (fun _ _ => rfl)) (fun _ _ => rfl)) (pv 5)) (pe_ix (ix_any K (hu_of hr)) (pv 15) (pe_ix (ix_any K (hu_of hr)) (pv 17) pe_int (fun _ _ => rfl)) (fun _ _ => rfl))))) pa_nil)))
  pss_nil))))
  (pss_cons (ps_expr (pe_bm PySem.F.plainAttrs_list PySem.F.slot_list_append PySem.F.type_list_append mt_append (pv 8) (pa_cons (pv 12) pa_nil)))
  pss_nil))))
  (pss_cons (ps_set (i := 8) sc__law_pair_right.nd rfl (Or.inl rfl) (pe_op op_addA (pv 8) (pe_lst (pa_cons (pe_op op_addA (pe_op op_mulA (pe_ix (ix_any K (hu_of hr)) (pv 1) pe_int (fun _ _ => rfl)) (pv 5)) (pe_ix (ix_any K (hu_of hr)) (pv 2) pe_int (fun _ _ => rfl))) (pa_cons (pe_op op_addA (pe_op op_mulA (pe_ix (ix_any K (hu_of hr)) (pv 1) pe_int (fun _ _ => rfl)) (pv 5)) (pe_ix (ix_any K (hu_of hr)) (pv 2) pe_int (fun _ _ => rfl))) pa_nil)))))
  (pss_cons (ps_setLc (i := 10) (own := [("_law_x", 13)]) (g := (gName 13)) rfl sc__law_pair_right.nd rfl rfl (sw_true rfl rfl rfl (by decide +kernel)) (pi_listK K (pv 6)) (blkOk_by (by kernel_rfl)) (fun _ _ _ _ _ => (pg_name (i := 13) sc__law_pair_right.nd rfl (Or.inl rfl))) (fun _ _ _ _ _ => pts_nil) (fun _ _ _ _ _ => (pe_op op_addA (pe_op op_addA (pe_op op_addA (pe_op op_addA pe_str (pe_ix (ix_any K (hu_of hr)) (pv 3) (pe_ix (ix_any K (hu_of hr)) (pv 13) pe_int (fun _ _ => rfl)) (fun _ _ => rfl))) pe_str) (pe_ix (ix_any K (hu_of hr)) (pv 4) (pe_ix (ix_any K (hu_of hr)) (pv 13) pe_int (fun _ _ => rfl)) (fun _ _ => rfl))) pe_str)))
  (pss_cons (ps_set (i := 11) sc__law_pair_right.nd rfl (Or.inl rfl) (pe_makeC c_PairScale (hr.mono (by decide)) passL (pa_cons (pe_callC c__law_scale_of (hr.mono (by decide)) pass0 (pa_cons (pv 1) (pa_cons (pv 3) pa_nil))) (pa_cons (pe_callC c__law_scale_of (hr.mono (by decide)) pass0 (pa_cons (pv 2) (pa_cons (pv 4) pa_nil))) pa_nil))))
  (pss_cons (ps_ret (pe_callC c__law_like (hr.mono (by decide)) pass0 (pa_cons (pe_callC c_first_fault (hr.mono (by decide)) pass0 (pa_cons (pv 11) pa_nil)) (pa_cons (pe_callC c__law_fault (hr.mono (by decide)) pass0 (pa_cons (pv 8) (pa_cons (pv 10) pa_nil))) pa_nil))))
  pss_nil))))))))))))), ?_⟩
    have st := stabS sa cl
    show tSeq _ _ (Ends.mk _ _ _ _) [some _, none, none, none, none, none, none, none, none, none, none, none, none, none, none, none, none, none] _
    have free : ∀ {n : Nat} {σ : L2.St} {G' : Hp}, σ[0]? = some (some (.ref sa)) → Ev (Src sa cl) n (0 + (0 + (0 + (0 + 0) + 1) + 0) + 20) (tCall (spS PFr9) [] E0 (tCons (tVar 0) (tCons (tOp rAddA (tC (.int 1)) (tCall sp_pick [] E0 (tCons (tVar 0) (tCons (tC (.int 2)) tNil)))) tNil))) σ G' (fun v G => ∃ m, 1 ≤ m ∧ m ≤ 2 ∧ IsLT m v G) := fun {n σ G'} e0 =>
      ev_callSW (kb := 20) (ea_cons (ev_var e0) (ea_cons (R := IsI fun z => 1 ≤ z ∧ z ≤ 2) (ev_op (Ra := IsV (.int 1)) (Rb := IsI fun r => 0 ≤ r ∧ r < 2) ev_c (ev_pick (ea_consV (ev_var e0) (ea_consV ev_c ea_nilV)) (by decide) (by decide)) fun u v G3 s3 eu ev => by
        obtain rfl := (show _ = _ from eu)
        obtain ⟨i, hi, rfl⟩ := ev
        exact rv_imp (v_add st) fun v G2 s2 r => ⟨_, by omega, r⟩) ea_nil)) fun vs G3 s3 h => by
        obtain ⟨_, _, rfl, a1, _, _, rfl, ⟨z, hz, rfl⟩, a3⟩ := h
        obtain rfl := (show _ = _ from a1)
        obtain rfl := (show _ = _ from a3)
        exact ⟨_, ⟨z.toNat, by rw [show ((z.toNat : Nat) : Int) = z by omega]; rfl, by omega, by omega, rfl, rfl⟩, fun v G2 r => ⟨z.toNat, by omega, by omega, r.choose_spec.2.2⟩⟩
    refine q_set h0 (free rfl) fun v1 G1 H1 s1 r1 => ?_
    obtain ⟨m1, a1, a2, p1, nv1, sl1, th1, jn1, rfl, T1, ok1⟩ := r1
    refine q_set s1.s (free rfl) fun v2 G2 H2 s2 r2 => ?_
    obtain ⟨m2, b1, b2, p2, nv2, sl2, th2, jn2, rfl, T2, ok2⟩ := r2
    have T1b := T1.mono s2.g
    obtain ⟨pj1, pp1, gp1, tj1, tp1⟩ := id T1b
    obtain ⟨pj2, pp2, gp2, tj2, tp2⟩ := id T2
    obtain ⟨us1, hj1, lj1, aj1⟩ := tj1.at
    obtain ⟨us2, hj2, lj2, aj2⟩ := tj2.at
    obtain ⟨n1, en1⟩ : ∃ n1, n1 = (["p", "q"] : List Str).take m1 := ⟨_, rfl⟩
    obtain ⟨n2, en2⟩ : ∃ n2, n2 = (["x", "y"] : List Str).take m2 := ⟨_, rfl⟩
    have l1 : n1.length = m1 := by rw [en1]; exact nm9_len a2
    have l2 : n2.length = m2 := by rw [en2]; exact nm9_len b2
    have k1 := nm9_ok ["p", "q"] (by decide) m1 (by omega)
    have k2 := nm9_ok ["x", "y"] (by decide) m2 (by omega)
    rw [← en1] at k1
    rw [← en2] at k2
    have TI1 : TbIs n1 nv1 sl1 th1 jn1 := LTok.tab (by rw [l1]; exact ok1) (by omega) (by omega) k1.1 (fun nm h => (k1.2 nm h).1) fun nm h => (k1.2 nm h).2
    have TI2 : TbIs n2 nv2 sl2 th2 jn2 := LTok.tab (by rw [l2]; exact ok2) (by omega) (by omega) k2.1 (fun nm h => (k2.2 nm h).1) fun nm h => (k2.2 nm h).2
    obtain ⟨d1, ed1⟩ : ∃ d1, d1 = tabSD n1 nv1 sl1 th1 jn1 := ⟨_, rfl⟩
    obtain ⟨d2, ed2⟩ : ∃ d2, d2 = tabSD n2 nv2 sl2 th2 jn2 := ⟨_, rfl⟩
    have dn1 : d1.names = n1 := by rw [ed1]; rfl
    have dn2 : d2.names = n2 := by rw [ed2]; rfl
    obtain ⟨o1, w1⟩ := TI1.sd
    obtain ⟨o2, w2⟩ := TI2.sd
    rw [← ed1] at o1 w1
    rw [← ed2] at o2 w2
    refine q_set s2.s (ev_slNew (F := G2) (lo := none) (hi := some ((m1 : Nat) : Int)) (xs := [V.str "p", .str "q"]) st (ev_lstN st (ea_consV ev_c (ea_consV ev_c ea_nilV)) (by simp)) eo_none (eo_some (ev_eq (congrArg V.int (by rw [lj1])) (ev_cbV (ea_consV (ev_at (k := 0) st gp1 (ev_var rfl) rfl) ea_nilV) (c_lenL st (SqL.of hj1)))))) fun v3 G3 H3 s3 r3 => ?_
    obtain ⟨p3, rfl, _, g3⟩ := r3
    have g3 : G3 p3 = some (.lst (n1.map V.str)) := by
      rw [g3, cutV_to (by show m1 ≤ 2; exact a2), en1, List.map_take]
      rfl
    refine q_set s3.s (ev_slNew (F := G3) (lo := none) (hi := some ((m2 : Nat) : Int)) (xs := [V.str "x", .str "y"]) st (ev_lstN st (ea_consV ev_c (ea_consV ev_c ea_nilV)) (by simp)) eo_none (eo_some (ev_eq (congrArg V.int (by rw [lj2])) (ev_cbV (ea_consV (ev_at (k := 0) st (s3.g _ _ gp2) (ev_var rfl) rfl) ea_nilV) (c_lenL st (SqL.of (s3.g _ _ hj2))))))) fun v4 G4 H4 s4 r4 => ?_
    obtain ⟨p4, rfl, _, g4⟩ := r4
    have g4 : G4 p4 = some (.lst (n2.map V.str)) := by
      rw [g4, cutV_to (by show m2 ≤ 2; exact b2), en2, List.map_take]
      rfl
    have g34 := s4.g _ _ g3
    have s24 := s3.g.trans s4.g
    refine q_setV st s4.s (x := .int (m2 : Nat)) (ev_eq (congrArg V.int (by rw [List.length_map, l2])) (ev_cbV (ea_consV (ev_var rfl) ea_nilV) (c_lenL st (SqL.of g4)))) fun H5 k5 h5 => ?_
    refine q_set h5 (ev_lstN st ea_nilV (by simp)) fun v6 G6 H6 s6 r6 => ?_
    obtain ⟨p6, rfl, _, g6⟩ := r6
    have s26 := s24.trans s6.g
    have fr6 : Fr (Src sa cl) G H G6 H6 := ((s1.fr.trans s2.fr).trans ((s3.fr.trans s4.fr).kp k5)).trans s6.fr
    refine q_forR st s6.s (ea_consV (ev_eq (y := .int ((n1.map V.str).length : Nat)) (z := .int (m1 : Nat)) (by rw [List.length_map, l1]) (ev_cbV (ea_consV (ev_var rfl) ea_nilV) (c_lenL st (SqL.of (s6.g _ _ g34))))) ea_nilV) (fun _ => 0) (fun j σ' G' H' => (∃ pp vs a, σ' = [some (.ref sa), some (.ref p1), some (.ref p2), some (.ref p3), some (.ref p4), some (.int (m2 : Nat)), some (.ref pp), a, none, none, none, none, none, none, none, none, none, none] ∧ G' pp = some (.lst vs) ∧ RL (fun s : Int × Int => IsLs (some s)) (pairsL j m2) vs G') ∧ Fr (Src sa cl) G H G' H') rfl (by omega) (by omega) (fun H7 k7 h7 => ⟨⟨p6, [], none, rfl, g6, rfl⟩, fr6.kp k7⟩) (fun j σ' G7 H7 hj s7 h7 hp => ?_) (fun σ' G7 H7 s7 h7 hp => ?_)
    · obtain ⟨⟨pp, vs, a, rfl, gpp, rlp⟩, fr7⟩ := hp
      refine q_set (R := IsNX G7 (RL (fun s : Int × Int => IsLs (some s)) (pairsL (j + 1) m2))) h7 (ev_op (Rb := IsNX G7 (RL (fun s : Int × Int => IsLs (some s)) ((List.range m2).map fun b => (((j : Nat) : Int), ((b : Nat) : Int))))) (ev_var rfl) ((ev_lcFR (R := fun s : Int × Int => IsLs (some s)) (b := fun _ => true) (sj := fun b => (((j : Nat) : Int), ((b : Nat) : Int))) (σf := fun b => [some (.ref sa), some (.ref p1), some (.ref p2), some (.ref p3), some (.ref p4), some (.int (m2 : Nat)), some (.ref pp), some (.int (j : Nat)), none, none, none, none, none, none, none, none, some (.int (b : Nat)), none]) st (ea_consV (ev_var rfl) ea_nilV) (by omega) (by omega) (fun j J Q q => q) (fun j => rfl) (fun j G' _ _ => et_yes) (fun b G' _ _ s' => (ev_lstN st (ea_consV (ev_var rfl) (ea_consV (ev_var rfl) ea_nilV)) (by simp)).imp fun v G'' s' ⟨p, e, _, g⟩ => ⟨p, e, g⟩)).imp fun v G' s' r => ?_) fun u v G' s' eu ev => ?_) fun v5 G8 H8 s8 r8 => ?_
      · rw [filt_true, Int.toNat_natCast] at r
        exact r
      · obtain rfl := (show _ = _ from eu)
        obtain ⟨pv, ws, rfl, fv, gv, rlv⟩ := ev
        have lv := rl_len rlv
        have lp := rl_len rlp
        rw [List.length_map, List.length_range] at lv
        have lpl : (pairsL j m2).length = j * m2 := flat_len _ _ _
        have : j * m2 ≤ 4 * 4 := Nat.mul_le_mul (by omega) (by omega)
        refine rv_imp (v_cat st (s' _ _ gpp) gv (by omega)) fun v G2 s2 ⟨pz, e, fz, gz⟩ => ⟨pz, _, e, s'.free fz, gz, ?_⟩
        have e2 : pairsL (j + 1) m2 = pairsL j m2 ++ (List.range m2).map fun b => (((j : Nat) : Int), ((b : Nat) : Int)) := by
          unfold pairsL
          rw [List.range_succ, List.flatMap_append, List.flatMap_cons, List.flatMap_nil, List.append_nil]
        rw [e2]
        exact rl_app (rl_mon (s'.trans s2) rlp) (rl_mon s2 rlv)
      · obtain ⟨p5, ws, rfl, _, g5, rl5⟩ := r8
        exact q_end ⟨G8, s7.trans s8.g, s8.s, ⟨p5, ws, _, rfl, g5, rl5⟩, fr7.trans s8.fr⟩
    · obtain ⟨⟨pp, vs, a, rfl, gpp, rlp⟩, fr7⟩ := hp
      rw [Int.toNat_natCast] at rlp
      have lv := rl_len rlp
      have lpl : (pairsL m1 m2).length = m1 * m2 := flat_len _ _ _
      have hmm : m1 * m2 ≤ 2 * 2 := Nat.mul_le_mul (by omega) (by omega)
      have hm2 : 0 < m2 := by omega
      have elt : ∀ {k : Nat} {G' : Hp}, k < m1 * m2 → Same G7 G' → ∃ q, vs[k]? = some (.ref q) ∧ G' q = some (.lst [.int ((k / m2 : Nat)), .int ((k % m2 : Nat))]) ∧ k / m2 < m1 ∧ k % m2 < m2 := fun {k G'} hk s' => by
        have c1 : k / m2 < m1 := Nat.div_lt_of_lt_mul (by rw [Nat.mul_comm]; exact hk)
        have c2 : k % m2 < m2 := Nat.mod_lt _ hm2
        have hg := flat_get (fun a b => (((a : Nat) : Int), ((b : Nat) : Int))) m2 m1 (k / m2) (k % m2) c1 c2
        have e2 : k / m2 * m2 + k % m2 = k := by rw [Nat.mul_comm]; exact Nat.div_add_mod k m2
        rw [e2] at hg
        obtain ⟨u, hu, q, rfl, hq⟩ := rl_get rlp hg
        exact ⟨q, hu, s' _ _ hq, c1, c2⟩
      have c1 : ("<" : Str).length = 1 ∧ ("/" : Str).length = 1 ∧ (">" : Str).length = 1 := by decide +kernel
      have la : ∀ a b : Str, (a ++ b).length = a.length + b.length := Str.length_append
      have hsz : (1000 : Nat) ≤ sizeLine := by decide
      have sh1 : ∀ {a : Nat}, a < m1 → (d1.names.getD a ("" : Str)).length ≤ 12 := fun h => by
        have hm := getD_mem (d := d1) (a := _) (by rw [dn1, l1]; exact h)
        rw [dn1] at hm ⊢
        exact (okNm_len (k1.2 _ hm).1).2
      have sh2 : ∀ {a : Nat}, a < m2 → (d2.names.getD a ("" : Str)).length ≤ 12 := fun h => by
        have hm := getD_mem (d := d2) (a := _) (by rw [dn2, l2]; exact h)
        rw [dn2] at hm ⊢
        exact (okNm_len (k2.2 _ hm).1).2
      have s27 := s26.trans s7
      let fk : Nat → Nat → Nat → Int := fun t x y => if t = 0 then jn1 (x / m2) (y / m2) * (m2 : Nat) + jn2 (x % m2) (y % m2) else th1 (x / m2) (y / m2) * (m2 : Nat) + th2 (x % m2) (y % m2)
      obtain ⟨N, hN⟩ : ∃ N : Nat, N = n + 0 + 100 := ⟨_, rfl⟩
      refine q_newO (R := fun t : Nat => IsTbN (m1 * m2) (fk t)) st h7 fun D G8 H8 J8 s8 hD hJ => ?_
      refine q_forI1 (m := 2) hJ.s.s (ea_consV ev_c ea_nilV) (by decide) (by decide) (fun j σ' J => (∃ y9 y12 y13 y14 y15, σ' = [some (.ref sa), some (.ref p1), some (.ref p2), some (.ref p3), some (.ref p4), some (.int (m2 : Nat)), some (.ref pp), a, some (.ref D), y9, none, none, y12, y13, y14, y15, none, none]) ∧ ∃ G3, LcO (Src sa cl) G8 H8 _ D (fun t : Nat => IsTbN (m1 * m2) (fk t)) (List.range j) G3 J) (fun G9 H9 s9 => ⟨⟨_, _, _, _, _, rfl⟩, _, hJ.go st s8.s hD s9⟩) (fun t σ' J ht hp => ?_) (fun σ' J hp => ?_)
      · obtain ⟨⟨y9, y12, y13, y14, y15, rfl⟩, G9, hO⟩ := hp
        have ht2 : t < 2 := by omega
        have s79 := s8.g.trans hO.s.g
        have s29 := s27.trans s79
        obtain ⟨pt1, pt2, f1, f2, hz1, hz2, T1t, T2t, bd1, efk⟩ : ∃ (pt1 pt2 : Addr) (f1 f2 : Nat → Nat → Int), [V.ref pj1, .ref pp1, .int (nv1 : Nat), .int (sl1 : Nat)][t]? = some (.ref pt1) ∧ [V.ref pj2, .ref pp2, .int (nv2 : Nat), .int (sl2 : Nat)][t]? = some (.ref pt2) ∧ TabN G2 pt1 m1 f1 ∧ TabN G2 pt2 m2 f2 ∧ (∀ a b, a < m1 → b < m1 → 0 ≤ f1 a b ∧ f1 a b < m1) ∧ fk t = fun x y => f1 (x / m2) (y / m2) * (m2 : Nat) + f2 (x % m2) (y % m2) := by
          rcases (show t = 0 ∨ t = 1 by omega) with rfl | rfl
          · exact ⟨pj1, pj2, jn1, jn2, rfl, rfl, tj1, tj2, ok1.jn, rfl⟩
          · exact ⟨pp1, pp2, th1, th2, rfl, rfl, tp1, tp2, ok1.th, rfl⟩
        obtain ⟨ut1, ht1, lt1, at1⟩ := T1t.at
        obtain ⟨ut2, ht2', lt2, at2⟩ := T2t.at
        show tSeq _ _ (Ends.mk _ _ _ _) [some (.ref sa), some (.ref p1), some (.ref p2), some (.ref p3), some (.ref p4), some (.int (m2 : Nat)), some (.ref pp), a, some (.ref D), some (.int (t : Nat)), none, none, y12, y13, y14, y15, none, none] _
        refine q_newO (R := fun x : Nat => IsIRow (m1 * m2) (fk t x)) st hO.s.s fun D2 GA HA JA sA hD2 hA => ?_
        refine q_forL1 (K := K) (p := pp) (xs := vs) hA.s.s (ev_var rfl) (fun j σ' J' => (∃ y13 y14 y15, σ' = [some (.ref sa), some (.ref p1), some (.ref p2), some (.ref p3), some (.ref p4), some (.int (m2 : Nat)), some (.ref pp), a, some (.ref D), some (.int (t : Nat)), none, none, some (.ref D2), y13, y14, y15, none, none]) ∧ ∃ G3, LcO (Src sa cl) GA HA _ D2 (fun x : Nat => IsIRow (m1 * m2) (fk t x)) (List.range j) G3 J') (fun j τ J' hp => ?_) (fun GB HB sB => ⟨⟨_, _, _, rfl⟩, _, hA.go st sA.s hD2 sB⟩) (fun j y σ' J' hy hp => ?_) (fun σ' J' hp => ?_)
        · obtain ⟨_, GB, hB⟩ := hp
          exact (st.sub hB.s.s).seq (SqL.of (hB.s.g _ _ (sA.g _ _ (s79 _ _ gpp))))
        · obtain ⟨⟨z13, z14, z15, rfl⟩, GB, hB⟩ := hp
          have hj : j < m1 * m2 := by
            have := (List.getElem?_eq_some_iff.mp hy).1
            omega
          have s9B := sA.g.trans hB.s.g
          have s7B := s79.trans s9B
          have s2B := s29.trans s9B
          obtain ⟨qx, hx1, hx2, c3, c4⟩ := elt hj s7B
          rw [hx1] at hy
          obtain rfl := Option.some.inj hy
          obtain ⟨r1, hr1, hr1g⟩ := at1 (j / m2) c3
          obtain ⟨r2, hr2, hr2g⟩ := at2 (j % m2) c4
          show tSeq _ _ (Ends.mk _ _ _ _) [some (.ref sa), some (.ref p1), some (.ref p2), some (.ref p3), some (.ref p4), some (.int (m2 : Nat)), some (.ref pp), a, some (.ref D), some (.int (t : Nat)), none, none, some (.ref D2), some (.ref qx), z14, z15, none, none] _
          refine q_setV st hB.s.s (x := .ref r1) (ev_opV (ev_opV (ev_var rfl) (ev_var rfl) (v_ixL st (SqL.of (s2B _ _ gp1)) (atI_nat hz1))) (ev_opV (ev_var rfl) ev_c (v_ixL st (SqL.of hx2) (atI_nat (j := 0) rfl))) (v_ixL st (SqL.of (s2B _ _ ht1)) (atI_nat hr1))) fun HC kC hC => ?_
          refine q_setV st hC (x := .ref r2) (ev_opV (ev_opV (ev_var rfl) (ev_var rfl) (v_ixL st (SqL.of (s2B _ _ gp2)) (atI_nat hz2))) (ev_opV (ev_var rfl) ev_c (v_ixL st (SqL.of hx2) (atI_nat (j := 1) rfl))) (v_ixL st (SqL.of (s2B _ _ ht2')) (atI_nat hr2))) fun HE kE hE => ?_
          have hB2 := hB.go st sA.s hD2 ((Stp.go0 kC hC).go kE hE)
          refine q_appO (k := 0) st sA.s hD2 hB2 (x := j) (by rw [List.length_range]; omega) rfl (ea_cons ?_ ea_nil) fun G4 J2 g' h2 => q_end ⟨⟨_, _, _, rfl⟩, G4, by rw [List.range_succ]; exact h2⟩
          refine (ev_lcF (R := fun v : V => IsV v) (b := fun _ => true) (sj := fun y => .int (f1 (j / m2) (y / m2) * (m2 : Nat) + f2 (j % m2) (y % m2))) (σf := fun y => [some (.ref sa), some (.ref p1), some (.ref p2), some (.ref p3), some (.ref p4), some (.int (m2 : Nat)), some (.ref pp), a, some (.ref D), some (.int (t : Nat)), none, none, some (.ref D2), some (.ref qx), some (.ref r1), some (.ref r2), none, vs[y]?]) st (ev_var rfl) (SqL.of (s7B _ _ gpp)) (by omega) (fun y z G3 J hz s3 t3 Qs q' => ?_) (fun _ => rfl) (fun y z G3 _ _ => et_yes) (fun y z G3 hz _ s3 => ?_)).imp fun v G3 s3 r => ?_
          · rw [hz] at q'
            exact q'
          · show Ev _ _ _ _ [some (.ref sa), some (.ref p1), some (.ref p2), some (.ref p3), some (.ref p4), some (.int (m2 : Nat)), some (.ref pp), a, some (.ref D), some (.int (t : Nat)), none, none, some (.ref D2), some (.ref qx), some (.ref r1), some (.ref r2), none, vs[y]?] _ _
            have hy' : y < m1 * m2 := by
              have := (List.getElem?_eq_some_iff.mp hz).1
              omega
            obtain ⟨qy, hy1, hy2, c5, c6⟩ := elt hy' (s7B.trans s3)
            rw [hy1]
            have sg3 := s2B.trans s3
            have bd := bd1 (j / m2) (y / m2) c3 c5
            have row1 := rowAt (n := m1) (f := f1 (j / m2)) (b := y / m2) c5
            have row2 := rowAt (n := m2) (f := f2 (j % m2)) (b := y % m2) c6
            exact ev_opV (ev_opV (ev_opV (ev_var rfl) (ev_opV (ev_var rfl) ev_c (v_ixL st (SqL.of hy2) (atI_nat (j := 0) rfl))) (v_ixL st (SqL.of (sg3 _ _ hr1g)) row1)) (ev_var rfl) (v_mul st (.inl ⟨by omega, by omega⟩)))
              (ev_opV (ev_var rfl) (ev_opV (ev_var rfl) ev_c (v_ixL st (SqL.of hy2) (atI_nat (j := 1) rfl))) (v_ixL st (SqL.of (sg3 _ _ hr2g)) row2)) (v_add st)
          · rw [filt_true, lv, lpl] at r
            obtain ⟨pz, e, _, gz⟩ := isNX_V (f := fun v : V => v) r
            rw [List.map_id'] at gz
            refine ⟨pz, e, ?_⟩
            rw [gz, efk]
        · obtain ⟨⟨z13, z14, z15, rfl⟩, GB, hB⟩ := hp
          obtain ⟨GC, sC, sBC, D2', ws, e, _, gD2, rlD⟩ := hB.pub st sA.s (Nat.le_refl _) hD2
          obtain rfl : D2 = D2' := by cases e; rfl
          rw [lv, lpl] at rlD
          have hO2 := hO.go st s8.s hD (sA.trans sC)
          refine q_appO (k := 0) st s8.s hD hO2 (x := t) (by rw [List.length_range]; omega) rfl (ea_cons ((ev_var rfl).imp fun v G' s' e => ⟨D2, e, ws, s' _ _ gD2, rl_mon s' rlD⟩) ea_nil) fun G4 J2 g' h2 => q_end ⟨⟨_, _, _, _, _, rfl⟩, G4, by rw [List.range_succ]; exact h2⟩
      · obtain ⟨⟨y9, y12, y13, y14, y15, rfl⟩, G9, hO⟩ := hp
        obtain ⟨GA, sA, sBA, D', ws, e, _, gD, rlD⟩ := hO.pub st s8.s (Nat.le_refl _) hD
        obtain rfl : D = D' := by cases e; rfl
        have lws := rl_len rlD
        obtain ⟨_, _, rfl, ⟨t0, rfl, tb0⟩, _, _, rfl, ⟨t1, rfl, tb1⟩, e⟩ := (show RCons (IsTbN (m1 * m2) (fk 0)) (RCons (IsTbN (m1 * m2) (fk 1)) RNil) ws GA from rlD)
        obtain rfl := (show _ = [] from e)
        have s7A := s8.g.trans sA.g
        have s2A := s27.trans s7A
        have frA := fr7.trans (s8.fr.trans sA.fr)
        have hnv1 := ok1.nv
        have hsl1 := ok1.sl
        refine q_set sA.s (ev_op (Ra := IsV (.ref D)) (Rb := IsNew GA (.lst [.int ((nv1 : Nat) * (m2 : Nat) + (nv2 : Nat)), .int ((sl1 : Nat) * (m2 : Nat) + (sl2 : Nat))])) (R := IsNew GA (.lst [.ref t0, .ref t1, .int ((nv1 : Nat) * (m2 : Nat) + (nv2 : Nat)), .int ((sl1 : Nat) * (m2 : Nat) + (sl2 : Nat))])) (ev_var rfl) (ev_lstN st (ea_consV (ev_opV (ev_opV (ev_at (k := 2) st (s2A _ _ gp1) (ev_var rfl) rfl) (ev_var rfl) (v_mul st (.inl ⟨by omega, by omega⟩))) (ev_at (k := 2) st (s2A _ _ gp2) (ev_var rfl) rfl) (v_add st)) (ea_consV (ev_opV (ev_opV (ev_at (k := 3) st (s2A _ _ gp1) (ev_var rfl) rfl) (ev_var rfl) (v_mul st (.inl ⟨by omega, by omega⟩))) (ev_at (k := 3) st (s2A _ _ gp2) (ev_var rfl) rfl) (v_add st)) ea_nilV)) (by simp)) fun u v G' s' hu hv => ?_) fun vB GB HB sB rB => ?_
        · obtain rfl := (show _ = _ from hu)
          obtain ⟨qv, rfl, _, gv⟩ := hv
          exact rv_imp (v_cat st (s' _ _ gD) gv (by simp)) fun v G2 s2 ⟨pz, e, fz, gz⟩ => ⟨pz, e, s'.free fz, gz⟩
        obtain ⟨pB, rfl, _, gB⟩ := rB
        have s7B := s7A.trans sB.g
        have g3B := (s4.g.trans ((s6.g.trans s7).trans s7B)) _ _ g3
        have g4B := ((s6.g.trans s7).trans s7B) _ _ g4
        let nmOf : Nat → Str := fun k => ("<" : Str) ++ d1.names.getD (k / m2) ("" : Str) ++ ("/" : Str) ++ d2.names.getD (k % m2) ("" : Str) ++ (">" : Str)
        refine q_set (R := IsNX GB (RL (fun k : Nat => IsV (.str (nmOf k))) (List.range (m1 * m2)))) sB.s (ev_lcG (R := fun k : Nat => IsV (.str (nmOf k))) (ss := List.range (m1 * m2)) (σf := fun j => [some (.ref sa), some (.ref p1), some (.ref p2), some (.ref p3), some (.ref p4), some (.int (m2 : Nat)), some (.ref pp), a, some (.ref pB), y9, none, none, y12, vs[j]?, y14, y15, none, none]) st (ev_var rfl) (SqL.of (s7B _ _ gpp)) (by rw [lv, lpl, List.length_range]) (by omega) (fun j y G'' J hy s'' t'' Qs q' => ?_) (fun _ => rfl) (fun j y k G'' hy hk s'' => ?_)) fun vC GC HC sC rC => ?_
        · rw [hy] at q'
          exact q'
        · show Ev _ _ _ _ [some (.ref sa), some (.ref p1), some (.ref p2), some (.ref p3), some (.ref p4), some (.int (m2 : Nat)), some (.ref pp), a, some (.ref pB), y9, none, none, y12, vs[j]?, y14, y15, none, none] _ _
          have hj : j < m1 * m2 := by
            have := (List.getElem?_eq_some_iff.mp hk).1
            rw [List.length_range] at this
            exact this
          rw [List.getElem?_range hj] at hk
          obtain rfl := Option.some.inj hk
          obtain ⟨q, hq1, hq2, c3, c4⟩ := elt hj (s7B.trans s'')
          rw [hq1]
          have s1' := sh1 c3
          have s2' := sh2 c4
          exact ev_opV (ev_opV (ev_opV (ev_opV ev_c (ev_opV (ev_var rfl) (ev_opV (ev_var rfl) ev_c (v_ixL st (SqL.of hq2) (atI_nat (j := 0) rfl))) (v_ixL st (SqL.of (s'' _ _ g3B)) (atI_nat (by rw [List.getElem?_map, ← dn1, getD_names (by rw [dn1, l1]; exact c3)]; rfl)))) (v_adds st (by omega))) ev_c (v_adds st (by simp only [la]; omega)))
            (ev_opV (ev_var rfl) (ev_opV (ev_var rfl) ev_c (v_ixL st (SqL.of hq2) (atI_nat (j := 1) rfl))) (v_ixL st (SqL.of (s'' _ _ g4B)) (atI_nat (by rw [List.getElem?_map, ← dn2, getD_names (by rw [dn2, l2]; exact c4)]; rfl)))) (v_adds st (by simp only [la]; omega))) ev_c (v_adds st (by simp only [la]; omega))
        obtain ⟨pC, ysC, rfl, _, gC, rlC⟩ := rC
        rw [rl_vals rlC] at gC
        have lpn := pairNames_len d1 d2
        rw [dn1, dn2, l1, l2] at lpn
        have en : (List.range (m1 * m2)).map (fun k => V.str (nmOf k)) = (pairNames d1 d2).map V.str := by
          refine List.ext_getElem? fun k => ?_
          rw [List.getElem?_map, List.getElem?_map]
          by_cases hk : k < m1 * m2
          · have k1 : k / m2 < m1 := Nat.div_lt_of_lt_mul (by rw [Nat.mul_comm]; exact hk)
            have k2 : k % m2 < m2 := Nat.mod_lt _ hm2
            have e2 : k / m2 * m2 + k % m2 = k := by rw [Nat.mul_comm]; exact Nat.div_add_mod k m2
            have hg := flat_get (fun a b => ("<" : Str) ++ d1.names.getD a ("" : Str) ++ ("/" : Str) ++ d2.names.getD b ("" : Str) ++ (">" : Str)) m2 m1 (k / m2) (k % m2) k1 k2
            rw [e2] at hg
            have hg2 : (pairNames d1 d2)[k]? = some (nmOf k) := by
              unfold pairNames
              rw [dn1, dn2, l1, l2]
              rw [dn1, dn2] at hg
              rw [hg]
              show some _ = some (("<" : Str) ++ d1.names.getD (k / m2) ("" : Str) ++ ("/" : Str) ++ d2.names.getD (k % m2) ("" : Str) ++ (">" : Str))
              rw [dn1, dn2]
            rw [List.getElem?_range hk, hg2]
            rfl
          · rw [List.getElem?_eq_none (by rw [List.length_range]; omega), List.getElem?_eq_none (by omega)]
            rfl
        rw [en] at gC
        obtain ⟨pnd, psh⟩ := nm9_pair m1 (by omega) m2 (by omega)
        have hpn : pairNames d1 d2 = pairN ((["p", "q"] : List Str).take m1) ((["x", "y"] : List Str).take m2) := by
          show pairN d1.names d2.names = _
          rw [dn1, dn2, en1, en2]
        rw [← hpn] at pnd psh
        have h64 : d1.names.length * d2.names.length ≤ 64 := by rw [dn1, dn2, l1, l2]; omega
        have op : SdOk (pairSD d1 d2) := SdOk.pair o1 o2 h64 pnd (fun nm h => Nat.le_trans (psh nm h) (by decide)) (by omega) (by omega)
        have dp2 : depL [d1, d2] = 2 := depL2 (by rw [ed1]; rfl) (by rw [ed2]; rfl)
        have s7C := s7B.trans sC.g
        have s2C := s27.trans s7C
        have sof : ∀ {n i j : Nat} {σ : L2.St} {G' : Hp} {p pn m nv sl : Nat} {names : List Str} {th jn : Nat → Nat → Int}, LTn names.length nv sl th jn p G' → G' pn = some (.lst (names.map V.str)) → TbIs names nv sl th jn → σ[i]? = some (some (.ref p)) → σ[j]? = some (some (.ref pn)) → Ev (Src sa cl) n (0 + (0 + 0)) (tCall (spP (PLso K Cs)) [] E0 (tCons (tVar i) (tCons (tVar j) tNil))) σ G' (IsScP K Cs fun d => d = tabSD names nv sl th jn) := fun {n i j σ G' p pn m nv sl names th jn} hT hn T ei ej =>
          (ev_callV (R := IsScD K Cs (tabSD names nv sl th jn)) st (ea_consV (ev_var ei) (ea_consV (ev_var ej) ea_nilV)) fun G'' s'' => ⟨p, pn, names, nv, sl, th, jn, rfl, hT.mono s'', s'' _ _ hn, T, rfl⟩).imp fun v G'' s'' h => ⟨_, h, rfl⟩
        refine q_set sC.s (ev_mkPair (P1 := fun d => d = d1) (P2 := fun d => d = d2) (P := fun d => d = pairSD d1 d2) st iP oP (by rw [ed1]; exact sof (m := 0) (by rw [l1]; exact T1b.mono s2C) (sC.g _ _ g3B) TI1 rfl rfl) (by rw [ed2]; exact sof (m := 0) (by rw [l2]; exact T2.mono s2C) (sC.g _ _ g4B) TI2 rfl rfl) (fun x y hx hy => ?_) (fun x y hx hy => by rw [hx, hy])) fun vE GE HE sE rE => ?_
        · rw [hx, hy]
          exact ⟨o1, o2, h64, by omega, pnd⟩
        obtain ⟨dE, ⟨xE, rfl, hE⟩, rfl⟩ := rE
        have sBE := sC.g.trans sE.g
        have hLT : LTb (pairSD d1 d2) pB GE := by
          have e0 : (pairSD d1 d2).names.length = m1 * m2 := lpn
          refine ⟨t0, t1, ?_, ?_, ?_⟩
          · rw [sBE _ _ gB]
            have e1 : (((pairSD d1 d2).nv.toNat : Nat) : Int) = (nv1 : Nat) * (m2 : Nat) + (nv2 : Nat) := by
              rw [Int.toNat_of_nonneg op.nv.1]
              show d1.nv * (d2.names.length : Nat) + d2.nv = _
              rw [dn2, l2, ed1, ed2]
              rfl
            have e2 : (((pairSD d1 d2).sl.toNat : Nat) : Int) = (sl1 : Nat) * (m2 : Nat) + (sl2 : Nat) := by
              rw [Int.toNat_of_nonneg op.sl.1]
              show d1.sl * (d2.names.length : Nat) + d2.sl = _
              rw [dn2, l2, ed1, ed2]
              rfl
            rw [e1, e2]
          · rw [e0]
            have : (pairSD d1 d2).jn = fk 0 := by
              show (fun a b => d1.jn (a / d2.names.length) (b / d2.names.length) * (d2.names.length : Nat) + d2.jn (a % d2.names.length) (b % d2.names.length)) = _
              rw [dn2, l2, ed1, ed2]
              rfl
            rw [this]
            exact tb0.mono (sB.g.trans sBE)
          · rw [e0]
            have : (pairSD d1 d2).th = fk 1 := by
              show (fun a b => d1.th (a / d2.names.length) (b / d2.names.length) * (d2.names.length : Nat) + d2.th (a % d2.names.length) (b % d2.names.length)) = _
              rw [dn2, l2, ed1, ed2]
              rfl
            rw [this]
            exact tb1.mono (sB.g.trans sBE)
        refine q_ret sE.s (ev_call (R := IsV (.bl true)) (RA := RCons (IsFt K (pairSD d1 d2) (faultF (pairSD d1 d2))) (RCons (IsFt K (pairSD d1 d2) (faultF (pairSD d1 d2))) RNil)) st (ea_cons (ev_callV (ws := [.ref xE]) st (ea_consV (ev_var rfl) ea_nilV) fun G' s' => ⟨xE, pairSD d1 d2, rfl, hE.mono s', op, rfl⟩) (ea_cons (ev_callV (ws := [.ref pB, .ref pC]) st (ea_consV (ev_var rfl) (ea_consV (ev_var rfl) ea_nilV)) fun G' s' => ⟨pB, pC, pairSD d1 d2, rfl, hLT.mono s', op, (sE.g.trans s') _ _ gC, rfl⟩) ea_nil)) fun vs G' s' h => ?_) fun v10 G10 H10 s10 r10 => q v10 G10 H10 (Fr.stp (frA.trans (sB.fr.trans (sC.fr.trans (sE.fr.trans s10.fr)))) (st.wk s10.s (by omega))) r10
        obtain ⟨_, _, rfl, h1, _, _, rfl, h2, e⟩ := h
        obtain rfl := (show _ = [] from e)
        exact like_ft h1 h2
abbrev s__law_heap_right : Stmt := top 45
theorem sc__law_heap_right : FnScope ["_law_state", "_law_tables_here", "_law_many", "_law_names", "_law_heaps", "_law_joins", "_law_products", "_law_first", "_law_words", "_law_due", "_law_row", "_law_second", "_law_number", "_law_a", "_law_found", "_law_heap", "_law_k", "_law_b"] ["_law_state"] (defScope s__law_heap_right) := ⟨rfl, rfl, rfl, by decide +kernel, rfl, by decide +kernel, by decide +kernel⟩
theorem ok_heap9 {Cs : List Addr} {CH : Addr} {f : Addr} {fd : FuncData} (Z : Bi mg) (iH : CH ∈ Cs) (oH : ClsOk K CH)
    (c__law_pick : Callee P w K mg base "_law_pick" CX0 1 ["_law_source_here", "_law_many"] [] sp_pick) (c__law_free : Callee P w K mg base "_law_free" CX0 2 ["_law_state", "_law_many"] [] (spS PFr9)) (c__law_scale_of : Callee P w K mg base "_law_scale_of" CX0 12 ["_law_tables_here", "_law_names"] [] (spP (PLso K Cs)))
    (c_HeapScale : Maker P w K mg base "HeapScale" CH (L2.CX P w) 10 ["self", "inner"] [] (spI (PHpI K Cs CH))) (c_first_fault : Callee P w K mg base "first_fault" CX0 4 ["scale"] [] (spP (PFft K Cs))) (c__law_fault : Callee P w K mg base "_law_fault" CX0 2 ["_law_tables_here", "_law_names"] [] (spP (PLft K)))
    (c__law_like : Callee P w K mg base "_law_like" CX0 4 ["_law_found", "_law_due"] [] (spP (PLike K 4))) (F : Fun K "_law_heap_right" "_law_heap_right" s__law_heap_right f fd) : FnOk P w K mg base CX0 13 f fd ["_law_state"] (spS PPr9) := by
  refine F.ok sc__law_heap_right (fun vs H Q E h => ?_) (fun cdv A outer s H vs Q E hr h => ?_)
  · obtain ⟨_, _, _, _, _, _, _, ⟨rfl, _⟩, _⟩ := h
    rfl
  · obtain ⟨sa, cl, n, k, G, R, h0, ⟨rfl, rfl, rfl⟩, q⟩ := h
    refine ⟨_, (pss_cons (ps_set (i := 1) sc__law_heap_right.nd rfl (Or.inl rfl) (pe_callC c__law_free (hr.mono (by decide)) pass0 (pa_cons (pv 0) (pa_cons (pe_op op_addA pe_int (pe_callC c__law_pick (hr.mono (by decide)) pass0 (pa_cons (pv 0) (pa_cons pe_int pa_nil)))) pa_nil))))
  (pss_cons (ps_set (i := 2) sc__law_heap_right.nd rfl (Or.inr rfl) (pe_callB (call_lenA K) (by rfl) Z.z_len PySem.boot_len (pa_cons (pe_ix (ix_any K (hu_of hr)) (pv 1) pe_int (fun _ _ => rfl)) pa_nil)))
  (pss_cons (ps_set (i := 3) sc__law_heap_right.nd rfl (Or.inr rfl) (pe_slice (sl_listK K) (pe_lst (pa_cons pe_str (pa_cons pe_str (pa_cons pe_str pa_nil)))) po_none (po_some (pv 2))))
  (pss_cons (ps_set (i := 4) sc__law_heap_right.nd rfl (Or.inr rfl) (pe_lc (own := [("_law_number", 12)]) (g := (gName 12)) rfl sc__law_heap_right.nd (pi_range1 (by rfl) Z.z_range (pa_cons (pe_op op_shl pe_int (pv 2)) pa_nil)) (blkOk_by (by kernel_rfl)) (fun _ _ _ _ _ => (pg_name (i := 12) sc__law_heap_right.nd rfl (Or.inr rfl))) (fun _ _ _ _ _ => pts_nil) (fun _ _ _ _ _ => (pe_lc (own := [("_law_k", 16)]) (g := (gName 16)) rfl sc__law_heap_right.nd (pi_range1 (by rfl) Z.z_range (pa_cons (pv 2) pa_nil)) (blkOk_by (by kernel_rfl)) (fun _ _ _ _ _ => (pg_name (i := 16) sc__law_heap_right.nd rfl (Or.inl rfl))) (fun _ _ _ _ _ => (pts_one (pt_cmpR (op_eqA K hr.units) (pe_op op_modA (pe_callTy call_intA (by rfl) Z.z_int (by decide +kernel) (pa_cons (pe_op op_shr (pv 12) (pv 16)) pa_nil)) pe_int) pe_int (nomark _)))) (fun _ _ _ _ _ => (pv 16))))))
  (pss_cons (ps_setLc (i := 5) (own := [("_law_a", 13)]) (g := (gName 13)) rfl sc__law_heap_right.nd rfl rfl (sw_true rfl rfl rfl (by decide +kernel)) (pi_range1 (by rfl) Z.z_range (pa_cons (pe_callB (call_lenA K) (by rfl) Z.z_len PySem.boot_len (pa_cons (pv 4) pa_nil)) pa_nil)) (blkOk_by (by kernel_rfl)) (fun _ _ _ _ _ => (pg_name (i := 13) sc__law_heap_right.nd rfl (Or.inr rfl))) (fun _ _ _ _ _ => pts_nil) (fun _ _ _ _ _ => (pe_lc (own := [("_law_b", 17)]) (g := (gName 17)) rfl sc__law_heap_right.nd (pi_range1 (by rfl) Z.z_range (pa_cons (pe_callB (call_lenA K) (by rfl) Z.z_len PySem.boot_len (pa_cons (pv 4) pa_nil)) pa_nil)) (blkOk_by (by kernel_rfl)) (fun _ _ _ _ _ => (pg_name (i := 17) sc__law_heap_right.nd rfl (Or.inl rfl))) (fun _ _ _ _ _ => pts_nil) (fun _ _ _ _ _ => (pe_op op_or (pv 13) (pv 17))))))
  (pss_cons (ps_set (i := 6) sc__law_heap_right.nd rfl (Or.inl rfl) (pe_lst pa_nil))
  (pss_cons (ps_for PassesOwn.never rfl (pi_listK K (pv 4)) (pg_name (i := 7) sc__law_heap_right.nd rfl (Or.inl rfl)) (pss_cons (ps_set (i := 10) sc__law_heap_right.nd rfl (Or.inl rfl) (pe_lst pa_nil))
  (pss_cons (ps_for PassesOwn.never rfl (pi_listK K (pv 4)) (pg_name (i := 11) sc__law_heap_right.nd rfl (Or.inl rfl)) (pss_cons (ps_set (i := 14) sc__law_heap_right.nd rfl (Or.inl rfl) pe_int)
  (pss_cons (ps_for PassesOwn.never rfl (pi_listK K (pv 7)) (pg_name (i := 13) sc__law_heap_right.nd rfl (Or.inl rfl)) (pss_cons (ps_for PassesOwn.never rfl (pi_listK K (pv 11)) (pg_name (i := 17) sc__law_heap_right.nd rfl (Or.inl rfl)) (pss_cons (ps_set (i := 14) sc__law_heap_right.nd rfl (Or.inl rfl) (pe_op op_or (pv 14) (pe_op op_shl pe_int (pe_ix (ix_any K (hu_of hr)) (pe_ix (ix_any K (hu_of hr)) (pe_ix (ix_any K (hu_of hr)) (pv 1) pe_int (fun _ _ => rfl)) (pv 13) (fun _ _ => rfl)) (pv 17) (fun _ _ => rfl)))))
  pss_nil))
  pss_nil))
  (pss_cons (ps_expr (pe_bm PySem.F.plainAttrs_list PySem.F.slot_list_append PySem.F.type_list_append mt_append (pv 10) (pa_cons (pv 14) pa_nil)))
  pss_nil))))
  (pss_cons (ps_expr (pe_bm PySem.F.plainAttrs_list PySem.F.slot_list_append PySem.F.type_list_append mt_append (pv 6) (pa_cons (pv 10) pa_nil)))
  pss_nil))))
  (pss_cons (ps_setLc (i := 8) (own := [("_law_heap", 15)]) (g := (gName 15)) rfl sc__law_heap_right.nd rfl rfl (sw_true rfl rfl rfl (by decide +kernel)) (pi_listK K (pv 4)) (blkOk_by (by kernel_rfl)) (fun _ _ _ _ _ => (pg_name (i := 15) sc__law_heap_right.nd rfl (Or.inl rfl))) (fun _ _ _ _ _ => pts_nil) (fun _ _ _ _ _ => (pe_op op_addA (pe_op op_addA pe_str (pe_joinK K pe_str (pe_lc (own := [("_law_k", 16)]) (g := (gName 16)) rfl sc__law_heap_right.nd (pi_listK K (pv 15)) (blkOk_by (by kernel_rfl)) (fun _ _ _ _ _ => (pg_name (i := 16) sc__law_heap_right.nd rfl (Or.inl rfl))) (fun _ _ _ _ _ => pts_nil) (fun _ _ _ _ _ => (pe_ix (ix_any K (hu_of hr)) (pv 3) (pv 16) (fun _ _ => rfl)))))) pe_str)))
  (pss_cons (ps_set (i := 9) sc__law_heap_right.nd rfl (Or.inl rfl) (pe_callC c__law_fault (hr.mono (by decide)) pass0 (pa_cons (pe_lst (pa_cons (pv 5) (pa_cons (pv 6) (pa_cons pe_int (pa_cons (pe_op op_shl pe_int (pe_ix (ix_any K (hu_of hr)) (pv 1) pe_int (fun _ _ => rfl))) pa_nil))))) (pa_cons (pv 8) pa_nil))))
  (pss_cons (ps_ret (pe_callC c__law_like (hr.mono (by decide)) pass0 (pa_cons (pe_callC c_first_fault (hr.mono (by decide)) pass0 (pa_cons (pe_makeC c_HeapScale (hr.mono (by decide)) passL (pa_cons (pe_callC c__law_scale_of (hr.mono (by decide)) pass0 (pa_cons (pv 1) (pa_cons (pv 3) pa_nil))) pa_nil)) pa_nil)) (pa_cons (pv 9) pa_nil))))
  pss_nil)))))))))), ?_⟩
    have st := stabS sa cl
    show tSeq _ _ (Ends.mk _ _ _ _) [some _, none, none, none, none, none, none, none, none, none, none, none, none, none, none, none, none, none] _
    have free : ∀ {n : Nat} {σ : L2.St} {G' : Hp}, σ[0]? = some (some (.ref sa)) → Ev (Src sa cl) n (0 + (0 + (0 + (0 + 0) + 1) + 0) + 20) (tCall (spS PFr9) [] E0 (tCons (tVar 0) (tCons (tOp rAddA (tC (.int 1)) (tCall sp_pick [] E0 (tCons (tVar 0) (tCons (tC (.int 3)) tNil)))) tNil))) σ G' (fun v G => ∃ m, 1 ≤ m ∧ m ≤ 3 ∧ IsLT m v G) := fun {n σ G'} e0 =>
      ev_callSW (kb := 20) (ea_cons (ev_var e0) (ea_cons (R := IsI fun z => 1 ≤ z ∧ z ≤ 3) (ev_op (Ra := IsV (.int 1)) (Rb := IsI fun r => 0 ≤ r ∧ r < 3) ev_c (ev_pick (ea_consV (ev_var e0) (ea_consV ev_c ea_nilV)) (by decide) (by decide)) fun u v G3 s3 eu ev => by
        obtain rfl := (show _ = _ from eu)
        obtain ⟨i, hi, rfl⟩ := ev
        exact rv_imp (v_add st) fun v G2 s2 r => ⟨_, by omega, r⟩) ea_nil)) fun vs G3 s3 h => by
        obtain ⟨_, _, rfl, a1, _, _, rfl, ⟨z, hz, rfl⟩, a3⟩ := h
        obtain rfl := (show _ = _ from a1)
        obtain rfl := (show _ = _ from a3)
        exact ⟨_, ⟨z.toNat, by rw [show ((z.toNat : Nat) : Int) = z by omega]; rfl, by omega, by omega, rfl, rfl⟩, fun v G2 r => ⟨z.toNat, by omega, by omega, r.choose_spec.2.2⟩⟩
    refine q_set h0 (free rfl) fun v1 G1 H1 s1 r1 => ?_
    obtain ⟨m, a1, a2, p1, nv, sl, th, jn, rfl, T1, ok⟩ := r1
    obtain ⟨pj, pp, gp, tj, tp⟩ := id T1
    obtain ⟨us, hj, lj, aj⟩ := tj.at
    obtain ⟨ut, ht, lt, at'⟩ := tp.at
    obtain ⟨ns, ens⟩ : ∃ ns, ns = (["h", "i", "j"] : List Str).take m := ⟨_, rfl⟩
    have ln : ns.length = m := by rw [ens]; exact nm9_len a2
    have k1 := nm9_ok ["h", "i", "j"] (by decide) m (by omega)
    have hnd := nm9_heap m (by omega)
    rw [← ens] at k1 hnd
    have TI : TbIs ns nv sl th jn := LTok.tab (by rw [ln]; exact ok) (by omega) (by omega) k1.1 (fun nm h => (k1.2 nm h).1) fun nm h => (k1.2 nm h).2
    obtain ⟨o, ll⟩ := TI.sd
    obtain ⟨d, ed⟩ : ∃ d, d = tabSD ns nv sl th jn := ⟨_, rfl⟩
    have dn : d.names = ns := by rw [ed]; rfl
    have ddep : d.dep = 1 := by rw [ed]; rfl
    rw [← ed] at o ll
    have h2m : 2 ^ m ≤ 8 := by
      rcases (show m = 1 ∨ m = 2 ∨ m = 3 by omega) with rfl | rfl | rfl <;> decide
    have shn : ∀ {k : Nat}, k < m → (ns.getD k ("" : Str)).length ≤ 12 := fun h => by
      have hm := getD_mem (d := d) (a := _) (by rw [dn, ln]; exact h)
      rw [dn] at hm
      exact (okNm_len (k1.2 _ hm).1).2
    refine q_setV st s1.s (x := .int (m : Nat)) (ev_eq (congrArg V.int (by rw [lj])) (ev_cbV (ea_consV (ev_at (k := 0) st gp (ev_var rfl) rfl) ea_nilV) (c_lenL st (SqL.of hj)))) fun H2 k2 h2 => ?_
    refine q_set h2 (ev_slNew (F := G1) (lo := none) (hi := some ((m : Nat) : Int)) (xs := [V.str "h", .str "i", .str "j"]) st (ev_lstN st (ea_consV ev_c (ea_consV ev_c (ea_consV ev_c ea_nilV))) (by simp)) eo_none (eo_some (ev_var rfl))) fun v3 G3 H3 s3 r3 => ?_
    obtain ⟨p3, rfl, _, g3⟩ := r3
    have g3 : G3 p3 = some (.lst (ns.map V.str)) := by
      rw [g3, cutV_to (by show m ≤ 3; exact a2), ens, List.map_take]
      rfl
    have e2n : (1 : Int) * 2 ^ (((m : Nat) : Int)).toNat = ((2 ^ m : Nat) : Int) := by
      rw [Int.toNat_natCast, Int.one_mul]
      exact (Int.natCast_pow 2 m).symm
    refine q_set (R := IsNX G3 (RL (fun a => IsIL (bitsOf m a)) (List.range (2 ^ m)))) s3.s ((ev_lcFR (R := fun a => IsIL (bitsOf m a)) (b := fun _ => true) (sj := fun a => a) (σf := fun a => [some (.ref sa), some (.ref p1), some (.int (m : Nat)), some (.ref p3), none, none, none, none, none, none, none, none, some (.int (a : Nat)), none, none, none, none, none]) st (ea_consV (ev_opV ev_c (ev_var rfl) (v_shl st ⟨by omega, by omega, by decide⟩)) ea_nilV) (by rw [e2n]; exact Int.le_trans (by decide) (Int.natCast_nonneg _)) (by rw [e2n]; exact Int.ofNat_le.mpr (show 2 ^ m ≤ 100000 by omega)) (fun j J Q q => q) (fun j => rfl) (fun j G' _ _ => et_yes)
      (fun a G' ha _ s' => (ev_lcFR (R := fun k : Nat => IsV (.int (k : Nat))) (m := (m : Nat)) (b := fun k => decide (a / 2 ^ k % 2 = 1)) (sj := fun k => k) (σf := fun k => [some (.ref sa), some (.ref p1), some (.int (m : Nat)), some (.ref p3), none, none, none, none, none, none, none, none, some (.int (a : Nat)), none, none, none, some (.int (k : Nat)), none]) st (ea_consV (ev_var rfl) ea_nilV) (by omega) (by omega) (fun j J Q q => q) (fun j => rfl) (fun k G'' hk s'' => (et_testV (ev_opV (ev_opV (ev_cbV (ea_consV (ev_opV (ev_var rfl) (ev_var rfl) (v_shr st (by omega))) ea_nilV) (c_int st)) ev_c (v_mod st (by decide))) ev_c (v_eqI st))).imp fun c e => ?_) (fun k G'' hk _ s'' => ev_var rfl)).imp fun v G'' s'' r => ?_)).imp fun v G' s' r => ?_) fun v4 G4 H4 s4 r4 => ?_
    · rw [e, Int.toNat_natCast]
      have z : ((a : Nat) : Int) / 2 ^ k % 2 = ((a / 2 ^ k % 2 : Nat) : Int) := by push_cast; rfl
      rw [z]
      by_cases h : a / 2 ^ k % 2 = 1
      · rw [decide_eq_true h, h]
        rfl
      · rw [decide_eq_false h, decide_eq_false (by omega)]
    · rw [Int.toNat_natCast, List.map_id', srcF (L := [])] at r
      obtain ⟨q, e, _, g⟩ := isNX_V (f := fun k : Nat => V.int (k : Nat)) r
      exact ⟨q, e, g⟩
    · rw [filt_true, List.map_id', e2n, Int.toNat_natCast] at r
      exact r
    obtain ⟨p4, hs, rfl, _, g4, rl4⟩ := r4
    have lh := rl_len rl4
    rw [List.length_range] at lh
    have hat : ∀ {a : Nat}, a < 2 ^ m → ∃ q, hs[a]? = some (.ref q) ∧ G4 q = some (.lst ((bitsOf m a).map fun k => V.int (k : Nat))) := fun ha => by
      obtain ⟨u, hu, q, rfl, hq⟩ := rl_get rl4 (List.getElem?_range ha)
      exact ⟨q, hu, hq⟩
    have lenH : ∀ {n : Nat} {σ : L2.St} {G' : Hp}, Same G4 G' → σ[4]? = some (some (.ref p4)) → EvA (Src sa cl) n 0 (tCons (tCB (rLenA K) (tCons (tVar 4) tNil)) tNil) σ G' (IsVs [.int ((2 ^ m : Nat) : Int)]) := fun s' e4 => ea_consV (ev_eq (congrArg V.int (by rw [lh])) (ev_cbV (ea_consV (ev_var e4) ea_nilV) (c_lenL st (SqL.of (s' _ _ g4))))) ea_nilV
    refine q_set s4.s (ev_grid2 (n := 2 ^ m) (f := fun a b => Builtin.bitOr (a : Nat) (b : Nat)) (σa := fun a => [some (.ref sa), some (.ref p1), some (.int (m : Nat)), some (.ref p3), some (.ref p4), none, none, none, none, none, none, none, none, some (.int (a : Nat)), none, none, none, none]) (σb := fun a b => [some (.ref sa), some (.ref p1), some (.int (m : Nat)), some (.ref p3), some (.ref p4), none, none, none, none, none, none, none, none, some (.int (a : Nat)), none, none, none, some (.int (b : Nat))]) st (lenH (Same.refl _) rfl) (by omega) (fun _ => rfl) (fun _ => rfl) (fun a G' s' => lenH s' rfl) (fun _ _ => rfl) (fun _ _ => rfl) fun a b G' ha hb s' => ev_opV (ev_var rfl) (ev_var rfl) (v_bor st)) fun v5 G5 H5 s5 r5 => ?_
    obtain ⟨p5, ws5, rfl, _, g5, rl5⟩ := r5
    have s15 := (s3.g.trans s4.g).trans s5.g
    have fr5 : Fr (Src sa cl) G H G5 H5 := (s1.fr.kp k2).trans ((s3.fr.trans s4.fr).trans s5.fr)
    refine q_newO (R := fun a : Nat => IsIRow (2 ^ m) (hth m th a)) st s5.s fun D G6 H6 J6 s6 hD hJ => ?_
    have g46 := (s5.g.trans s6.g) _ _ g4
    refine q_forL1 (K := K) (p := p4) (xs := hs) hJ.s.s (ev_var rfl) (fun j σ' J => (∃ y7 y10 y11 y13 y14 y17, σ' = [some (.ref sa), some (.ref p1), some (.int (m : Nat)), some (.ref p3), some (.ref p4), some (.ref p5), some (.ref D), y7, none, none, y10, y11, none, y13, y14, none, none, y17]) ∧ ∃ G3, LcO (Src sa cl) G6 H6 _ D (fun a : Nat => IsIRow (2 ^ m) (hth m th a)) (List.range j) G3 J) (fun j τ J hp => ?_) (fun G7 H7 s7 => ⟨⟨_, _, _, _, _, _, rfl⟩, _, hJ.go st s6.s hD s7⟩) (fun a y σ' J hy hp => ?_) (fun σ' J hp => ?_)
    · obtain ⟨_, G7, hO⟩ := hp
      exact (st.sub hO.s.s).seq (SqL.of (hO.s.g _ _ g46))
    · obtain ⟨⟨y7, y10, y11, y13, y14, y17, rfl⟩, G7, hO⟩ := hp
      have ha : a < 2 ^ m := by
        have := (List.getElem?_eq_some_iff.mp hy).1
        omega
      obtain ⟨qa, ea, ga⟩ := hat ha
      rw [ea] at hy
      obtain rfl := Option.some.inj hy
      have s47 := (s5.g.trans s6.g).trans hO.s.g
      show tSeq _ _ (Ends.mk _ _ _ _) [some (.ref sa), some (.ref p1), some (.int (m : Nat)), some (.ref p3), some (.ref p4), some (.ref p5), some (.ref D), some (.ref qa), none, none, y10, y11, none, y13, y14, none, none, y17] _
      refine q_newO (R := fun b : Nat => IsV (.int (hth m th a b))) st hO.s.s fun D2 G8 H8 J8 s8 hD2 hJ2 => ?_
      have s48 := s47.trans s8.g
      refine q_forL1 (K := K) (p := p4) (xs := hs) hJ2.s.s (ev_var rfl) (fun j σ' J => (∃ y11 y13 y14 y17, σ' = [some (.ref sa), some (.ref p1), some (.int (m : Nat)), some (.ref p3), some (.ref p4), some (.ref p5), some (.ref D), some (.ref qa), none, none, some (.ref D2), y11, none, y13, y14, none, none, y17]) ∧ ∃ G3, LcO (Src sa cl) G8 H8 _ D2 (fun b : Nat => IsV (.int (hth m th a b))) (List.range j) G3 J) (fun j τ J hp => ?_) (fun G9 H9 s9 => ⟨⟨_, _, _, _, rfl⟩, _, hJ2.go st s8.s hD2 s9⟩) (fun b y σ' J hy hp => ?_) (fun σ' J hp => ?_)
      · obtain ⟨_, G9, hO2⟩ := hp
        exact (st.sub hO2.s.s).seq (SqL.of (hO2.s.g _ _ (s48 _ _ g4)))
      · obtain ⟨⟨y11, y13, y14, y17, rfl⟩, G9, hO2⟩ := hp
        have hb : b < 2 ^ m := by
          have := (List.getElem?_eq_some_iff.mp hy).1
          omega
        obtain ⟨qb, eb, gb⟩ := hat hb
        rw [eb] at hy
        obtain rfl := Option.some.inj hy
        have s49 := s48.trans hO2.s.g
        have s19 := s15.trans (s6.g.trans (hO.s.g.trans (s8.g.trans hO2.s.g)))
        have ga9 := s49 _ _ ga
        have gb9 := s49 _ _ gb
        have gp9 := s19 _ _ gp
        let inn : Int → Nat → Int := fun f k => (bitsOf m b).foldl (fun f l => Builtin.bitOr f (1 * 2 ^ (th k l).toNat)) f
        show tSeq _ _ (Ends.mk _ _ _ _) [some (.ref sa), some (.ref p1), some (.int (m : Nat)), some (.ref p3), some (.ref p4), some (.ref p5), some (.ref D), some (.ref qa), none, none, some (.ref D2), some (.ref qb), none, y13, y14, none, none, y17] _
        refine q_setV st hO2.s.s ev_c fun HA kA hA => ?_
        refine q_forPL st hA (ev_var rfl) (SqL.of ga9) (fun j σ' => ∃ y13 y17, σ' = [some (.ref sa), some (.ref p1), some (.int (m : Nat)), some (.ref p3), some (.ref p4), some (.ref p5), some (.ref D), some (.ref qa), none, none, some (.ref D2), some (.ref qb), none, y13, some (.int (((bitsOf m a).take j).foldl inn 0)), none, none, y17]) ⟨_, _, rfl⟩ (fun j y σ' J hy hp s2 => ?_) (fun σ' J hp s2 => ?_)
        · obtain ⟨z13, z17, rfl⟩ := hp
          obtain ⟨hj, rfl⟩ := map_get hy
          have hk : (bitsOf m a)[j] < m := bits_lt (List.getElem_mem hj)
          rw [List.take_succ_eq_append_getElem hj, List.foldl_append, List.foldl_cons, List.foldl_nil]
          generalize (bitsOf m a)[j] = k at hk
          generalize ((bitsOf m a).take j).foldl inn 0 = acc
          show tSeq _ _ (Ends.mk _ _ _ _) [some (.ref sa), some (.ref p1), some (.int (m : Nat)), some (.ref p3), some (.ref p4), some (.ref p5), some (.ref D), some (.ref qa), none, none, some (.ref D2), some (.ref qb), none, some (.int (k : Nat)), some (.int acc), none, none, z17] _
          refine q_forPL st s2.s (ev_var rfl) (SqL.of gb9) (fun j σ' => ∃ y17, σ' = [some (.ref sa), some (.ref p1), some (.int (m : Nat)), some (.ref p3), some (.ref p4), some (.ref p5), some (.ref D), some (.ref qa), none, none, some (.ref D2), some (.ref qb), none, some (.int (k : Nat)), some (.int (((bitsOf m b).take j).foldl (fun f l => Builtin.bitOr f (1 * 2 ^ (th k l).toNat)) acc)), none, none, y17]) ⟨_, rfl⟩ (fun i y σ' J3 hy hp s3 => ?_) (fun σ' J3 hp s3 => ?_)
          · obtain ⟨y3, rfl⟩ := hp
            obtain ⟨hi2, rfl⟩ := map_get hy
            have hl : (bitsOf m b)[i] < m := bits_lt (List.getElem_mem hi2)
            rw [List.take_succ_eq_append_getElem hi2, List.foldl_append, List.foldl_cons, List.foldl_nil]
            generalize (bitsOf m b)[i] = l at hl
            generalize ((bitsOf m b).take i).foldl (fun f l => Builtin.bitOr f (1 * 2 ^ (th k l).toNat)) acc = ac2
            have bd := ok.th k l hk hl
            show tSeq _ _ (Ends.mk _ _ _ _) [some (.ref sa), some (.ref p1), some (.int (m : Nat)), some (.ref p3), some (.ref p4), some (.ref p5), some (.ref D), some (.ref qa), none, none, some (.ref D2), some (.ref qb), none, some (.int (k : Nat)), some (.int ac2), none, none, some (.int (l : Nat))] _
            refine q_setV st s3.s (ev_opV (ev_var rfl) (ev_opV ev_c (ev_ent2 st (tp.mono s19) (ev_at (k := 1) st gp9 (ev_var rfl) rfl) (ev_var rfl) (ev_var rfl) hk hl) (v_shl st ⟨bd.1, by omega, by decide⟩)) (v_bor st)) fun H4 k4 h4 => q_end ⟨⟨_, rfl⟩, s3.go k4 h4⟩
          · obtain ⟨y3, rfl⟩ := hp
            rw [List.length_map, List.take_length]
            exact q_end ⟨⟨_, _, rfl⟩, ⟨Same.refl _, s2.k.trans s3.k, s3.s, fun _ _ h => .inl h⟩⟩
        · obtain ⟨z13, z17, rfl⟩ := hp
          rw [List.length_map, List.take_length]
          have hB2 := hO2.go st s8.s hD2 ((Stp.go0 kA hA).go s2.k s2.s)
          refine q_appO (k := 0) st s8.s hD2 hB2 (x := b) (by rw [List.length_range]; omega) rfl (ea_cons (ev_var rfl) ea_nil) fun G4 J2 g' h2 => q_end ⟨⟨_, _, _, _, rfl⟩, G4, by rw [List.range_succ]; exact h2⟩
      · obtain ⟨⟨y11, y13, y14, y17, rfl⟩, G9, hO2⟩ := hp
        obtain ⟨GC, sC, sBC, D2', ws, e, _, gD2, rlD⟩ := hO2.pub st s8.s (Nat.le_refl _) hD2
        obtain rfl : D2 = D2' := by cases e; rfl
        rw [lh] at rlD
        have gD2 : GC D2 = some (.lst ((List.range (2 ^ m)).map fun b => V.int (hth m th a b))) := by rw [gD2, rl_vals (g := fun b => V.int (hth m th a b)) rlD]
        have hO3 := hO.go st s6.s hD (s8.trans sC)
        refine q_appO (k := 0) st s6.s hD hO3 (x := a) (by rw [List.length_range]; omega) rfl (ea_cons ((ev_var rfl).imp fun v G' s' e => ⟨D2, e, s' _ _ gD2⟩) ea_nil) fun G4 J2 g' h2 => q_end ⟨⟨_, _, _, _, _, _, rfl⟩, G4, by rw [List.range_succ]; exact h2⟩
    · obtain ⟨⟨y7, y10, y11, y13, y14, y17, rfl⟩, G7, hO⟩ := hp
      obtain ⟨GA, sA, sBA, D', ws, e, _, gD, rlD⟩ := hO.pub st s6.s (Nat.le_refl _) hD
      obtain rfl : D = D' := by cases e; rfl
      rw [lh] at rlD
      have s5A := s6.g.trans sA.g
      have s4A := s5.g.trans s5A
      have s1A := s15.trans s5A
      have g3A := (s4.g.trans s4A) _ _ g3
      have g4A := s4A _ _ g4
      have frA := fr5.trans (s6.fr.trans sA.fr)
      have hll : ∀ a : Nat, (((bitsOf m a).map fun k => ns.getD k ("" : Str)).map (·.length)).sum + ((bitsOf m a).map fun k => ns.getD k ("" : Str)).length * ("," : Str).length ≤ 3 * 13 ∧ (Txt.join ("," : Str) ((bitsOf m a).map fun k => ns.getD k ("" : Str))).length ≤ 3 * 13 := fun a => by
        have hb := bits_len m a
        have := joinC_len ((bitsOf m a).map fun k => ns.getD k ("" : Str)) 12 fun y hy => by
          obtain ⟨k, hk, rfl⟩ := List.mem_map.mp hy
          exact shn (bits_lt hk)
        have z4 : ((bitsOf m a).map fun k => ns.getD k ("" : Str)).length * 13 ≤ 3 * 13 := Nat.mul_le_mul_right _ (by rw [List.length_map]; omega)
        exact ⟨Nat.le_trans this.1 z4, Nat.le_trans this.2 z4⟩
      have c1 : ("{" : Str).length = 1 ∧ ("}" : Str).length = 1 := by decide +kernel
      have la : ∀ a b : Str, (a ++ b).length = a.length + b.length := Str.length_append
      have hsz : (1000 : Nat) ≤ sizeLine := by decide
      refine q_set (R := IsNX GA (RL (fun a : Nat => IsV (.str (heapName ns a))) (List.range (2 ^ m)))) sA.s (ev_lcG (R := fun a : Nat => IsV (.str (heapName ns a))) (ss := List.range (2 ^ m)) (σf := fun j => [some (.ref sa), some (.ref p1), some (.int (m : Nat)), some (.ref p3), some (.ref p4), some (.ref p5), some (.ref D), y7, none, none, y10, y11, none, y13, y14, hs[j]?, none, y17]) st (ev_var rfl) (SqL.of g4A) (by rw [lh, List.length_range]) (by omega) (fun j y G' J hy s' t' Qs q' => ?_) (fun _ => rfl) (fun j y a G' hy ha s' => ?_)) fun vB GB HB sB rB => ?_
      · rw [hy] at q'
        exact q'
      · show Ev _ _ _ _ [some (.ref sa), some (.ref p1), some (.int (m : Nat)), some (.ref p3), some (.ref p4), some (.ref p5), some (.ref D), y7, none, none, y10, y11, none, y13, y14, hs[j]?, none, y17] _ _
        have hj : j < 2 ^ m := by
          have := (List.getElem?_eq_some_iff.mp ha).1
          rw [List.length_range] at this
          exact this
        rw [List.getElem?_range hj] at ha
        obtain rfl := Option.some.inj ha
        obtain ⟨qr, hu, hqr⟩ := hat hj
        rw [hu]
        have h39 := hll j
        have eN : heapName ns j = ("{" : Str) ++ Txt.join ("," : Str) ((bitsOf m j).map fun k => ns.getD k ("" : Str)) ++ ("}" : Str) := by
          unfold heapName
          rw [ln]
        refine ev_eq (congrArg V.str eN.symm) (ev_opV (ev_opV ev_c (ev_join st ev_c ((ev_lcVL (f := fun v => match v with | .int k => .str (ns.getD k.toNat ("" : Str)) | _ => .non) st (ev_var rfl) (SqL.of ((s4A.trans s') _ _ hqr)) (by rw [List.length_map]; have := bits_len m j; omega) (fun _ => rfl) fun i z G'' hz s'' => ?_).imp fun v G'' s'' ⟨p, e, _, g⟩ => ⟨p, e, SqL.of (by rw [g, List.map_map, List.map_map]; rfl)⟩) (Nat.le_trans h39.1 (by decide))) (v_adds st (by omega))) ev_c (v_adds st (by simp only [la]; omega)))
        obtain ⟨hi2, rfl⟩ := map_get hz
        have hk : (bitsOf m j)[i] < m := bits_lt (List.getElem_mem hi2)
        exact ev_opV (ev_var rfl) (ev_var rfl) (v_ixL st (SqL.of ((s'.trans s'') _ _ g3A)) (atI_nat (by rw [List.getElem?_map, ← dn, getD_names (by rw [dn, ln]; exact hk)]; rfl)))
      obtain ⟨pB, ysB, rfl, _, gB, rlB⟩ := rB
      rw [rl_vals (g := fun a => V.str (heapName ns a)) rlB] at gB
      have gB : GB pB = some (.lst ((heapSD d).names.map V.str)) := by
        rw [gB]
        show _ = some (HO.lst ((heapNames d.names).map V.str))
        unfold heapNames
        rw [dn, ln, List.map_map]
        rfl
      have oh : SdOk (heapSD d) := heap_sd o (by rw [dn, ln]; omega) (by rw [dn]; exact hnd) (fun nm h => by rw [dn] at h; exact Nat.le_trans (okNm_len (k1.2 _ h).1).2 (by decide)) (by omega)
      have lhd : (heapSD d).names.length = 2 ^ m := by
        show (heapNames d.names).length = _
        rw [heapNames_len, dn, ln]
      have dsl : d.sl = ((sl : Nat) : Int) := by rw [ed]; rfl
      have hslm := ok.sl
      refine q_set sB.s (R := IsFt K (heapSD d) (faultF (heapSD d))) (ev_call (RA := RCons (IsNew GB (.lst [.ref p5, .ref D, .int 0, .int (1 * 2 ^ (((sl : Nat) : Int)).toNat)])) (RCons (IsV (.ref pB)) RNil)) st (ea_cons (ev_lstN st (ea_consV (ev_var rfl) (ea_consV (ev_var rfl) (ea_consV ev_c (ea_consV (ev_opV ev_c (ev_at (k := 3) st ((s1A.trans sB.g) _ _ gp) (ev_var rfl) rfl) (v_shl st ⟨by omega, by omega, by decide⟩)) ea_nilV)))) (by simp)) (ea_cons (ev_var rfl) ea_nil)) fun vs G' s' h => ?_) fun vE GE HE sE rE => ?_
      · obtain ⟨_, _, rfl, ⟨pz, rfl, _, gz⟩, _, _, rfl, h2, e⟩ := h
        obtain rfl := (show _ = _ from h2)
        obtain rfl := (show _ = [] from e)
        refine ⟨pz, pB, heapSD d, rfl, ⟨p5, D, ?_, ?_, ?_⟩, oh, s' _ _ gB, rfl⟩
        · rw [gz]
          have e1 : (((heapSD d).nv.toNat : Nat) : Int) = 0 := rfl
          have e2 : (((heapSD d).sl.toNat : Nat) : Int) = 1 * 2 ^ (((sl : Nat) : Int)).toNat := by
            rw [Int.toNat_of_nonneg oh.sl.1]
            show 1 * 2 ^ d.sl.toNat = _
            rw [dsl]
          rw [e1, e2]
        · rw [lhd]
          exact ⟨ws5, (s5A.trans (sB.g.trans s')) _ _ g5, rl_mon (s5A.trans (sB.g.trans s')) rl5⟩
        · rw [lhd]
          have et : (heapSD d).th = hth m th := by
            show hth d.names.length d.th = _
            rw [dn, ln, ed]
            rfl
          rw [et]
          exact ⟨ws, (sB.g.trans s') _ _ gD, rl_mon (sB.g.trans s') rlD⟩
      have s1E := s1A.trans (sB.g.trans sE.g)
      have g3E := (sB.g.trans sE.g) _ _ g3A
      refine q_ret sE.s (ev_call (R := IsV (.bl true)) (RA := RCons (IsFt K (heapSD d) (faultF (heapSD d))) (RCons (IsFt K (heapSD d) (faultF (heapSD d))) RNil)) st (ea_cons (ev_call (RA := RCons (IsScP K Cs fun x => x = heapSD d) RNil) st (ea_cons (ev_mkHeap (P1 := fun x => x = d) (P := fun x => x = heapSD d) st iH oH ((ev_callV (R := IsScD K Cs (tabSD ns nv sl th jn)) (ws := [.ref p1, .ref p3]) st (ea_consV (ev_var rfl) (ea_consV (ev_var rfl) ea_nilV)) fun G' s' => ⟨p1, p3, ns, nv, sl, th, jn, rfl, by rw [ln]; exact T1.mono (s1E.trans s'), s' _ _ g3E, TI, rfl⟩).imp fun v G' s' h => ⟨_, h, ed.symm⟩) (fun x hx => ?_) (fun x hx => by rw [hx])) ea_nil) fun vs G' s' h => ?_) (ea_cons ((ev_var rfl).imp fun v G' s' e => ?_) ea_nil)) fun vs G' s' h => ?_) fun v10 G10 H10 s10 r10 => q v10 G10 H10 (Fr.stp (frA.trans (sB.fr.trans (sE.fr.trans s10.fr))) (st.wk s10.s (by omega))) r10
      · rw [hx]
        exact ⟨o, by rw [dn, ln]; omega, by rw [depL1 (by rw [ddep]; decide), ddep]; decide, by rw [dn]; exact hnd⟩
      · obtain ⟨_, _, rfl, ⟨x, ⟨a, rfl, hx⟩, rfl⟩, e⟩ := h
        obtain rfl := (show _ = [] from e)
        exact ⟨a, heapSD d, rfl, hx, oh, rfl⟩
      · obtain rfl := (show _ = _ from e)
        exact Mon.mon s' rE
      · obtain ⟨_, _, rfl, h1, _, _, rfl, h2, e⟩ := h
        obtain rfl := (show _ = [] from e)
        exact like_ft h1 h2
abbrev s_law : Stmt := top 46
theorem sc_law : FnScope ["_law_script", "_law_state", "_law_way", "_law_turned", "_law_tables_here", "_law_many", "_law_names", "_law_scale", "_law_due", "_law_found", "_law_regular", "_law_k", "_law_a", "_law_b"] ["_law_script"] (defScope s_law) := ⟨rfl, rfl, rfl, by decide +kernel, rfl, by decide +kernel, by decide +kernel⟩
theorem TabO.pub {H0 G H G' : Hp} {p : Addr} {m : Nat} {f : Nat → Nat → Int} (h : TabO H0 G H p m f) (on : ∀ b o, H0 b = none → G b = none → H b = some o → (b = p ∨ ∃ qs : List Addr, H p = some (.lst (qs.map V.ref)) ∧ b ∈ qs) → G' b = some o) : TabN G' p m f := by
  obtain ⟨p0, pg, qs, hp, lq, hr⟩ := h
  refine ⟨_, on p _ p0 pg hp (.inl rfl), rl_of_get (by rw [List.length_map, List.length_range]; exact lq) fun i s y hs hy => ?_⟩
  have hi : i < m := by
    have := (List.getElem?_eq_some_iff.mp hs).1
    rw [List.length_range] at this
    exact this
  rw [List.getElem?_range hi] at hs
  obtain rfl := Option.some.inj hs
  obtain ⟨hj, rfl⟩ := map_get hy
  obtain ⟨a, b, c⟩ := hr i _ (List.getElem?_eq_getElem hj)
  exact ⟨_, rfl, on _ _ a b c (.inr ⟨qs, hp, List.getElem_mem hj⟩)⟩
theorem LTo.pub {S : SR} {n0 n m nv sl : Nat} {G0 H0 G H : Hp} {th jn : Nat → Nat → Int} {p : Addr} (st : Stab S) (s0 : S n0 G0 H0) (s : S n G H) (h : LTo H0 G H m nv sl th jn p) : ∃ G', S n G' H ∧ Same G G' ∧ LTn m nv sl th jn p G' := by
  obtain ⟨p0, pg, pj, pp, hp, tj, tp⟩ := h
  obtain ⟨j0, jg, qj, hj, lj, rj⟩ := id tj
  obtain ⟨t0, tg, qt, ht, lt, rt⟩ := id tp
  obtain ⟨L, hL⟩ : ∃ L, L = p :: pj :: pp :: (qj ++ qt) := ⟨_, rfl⟩
  have off : ∀ b ∈ L, H0 b = none ∧ G b = none := fun b hb => by
    rw [hL] at hb
    rcases List.mem_cons.mp hb with rfl | hb
    · exact ⟨p0, pg⟩
    rcases List.mem_cons.mp hb with rfl | hb
    · exact ⟨j0, jg⟩
    rcases List.mem_cons.mp hb with rfl | hb
    · exact ⟨t0, tg⟩
    rcases List.mem_append.mp hb with hb | hb
    · obtain ⟨a, ha⟩ := List.mem_iff_getElem?.mp hb
      exact ⟨(rj a b ha).1, (rj a b ha).2.1⟩
    · obtain ⟨a, ha⟩ := List.mem_iff_getElem?.mp hb
      exact ⟨(rt a b ha).1, (rt a b ha).2.1⟩
  obtain ⟨hP, gP⟩ := pubL_s st s0 s off
  have refI : ∀ {xs ys : List Addr}, xs.map V.ref = ys.map V.ref → xs = ys := fun {xs ys} e => (List.map_inj_right fun x y h => by cases h; rfl).mp e
  refine ⟨pubL G H L, hP, gP, pj, pp, pubL_on (st.sub s) (by rw [hL]; simp) hp, tj.pub fun b o z1 z2 hb hm => pubL_on (st.sub s) ?_ hb, tp.pub fun b o z1 z2 hb hm => pubL_on (st.sub s) ?_ hb⟩
  · rw [hL]
    rcases hm with rfl | ⟨qs, e, hm⟩
    · simp
    · rw [hj] at e
      injection e with e
      injection e with e
      obtain rfl := refI e
      simp [hm]
  · rw [hL]
    rcases hm with rfl | ⟨qs, e, hm⟩
    · simp
    · rw [ht] at e
      injection e with e
      injection e with e
      obtain rfl := refI e
      simp [hm]
theorem TabF.to {F G H0 H : Hp} {p : Addr} {m : Nat} {f : Nat → Nat → Int} (s : Same G H) (h : TabF F G p m f) (fr : ∀ b o, G b = some o → F b = none → H0 b = none) : TabO H0 F H p m f := by
  obtain ⟨fp, vs, gp, rl⟩ := h
  have z : ∃ qs : List Addr, vs = qs.map V.ref ∧ ∀ (a : Nat) q, qs[a]? = some q → F q = none ∧ G q = some (.lst ((List.range m).map fun b => V.int (f a b))) := by
    have lv := rl_len rl
    rw [List.length_range] at lv
    refine ⟨vs.map fun v => match v with | .ref a => a | _ => 0, ?_, fun a q hq => ?_⟩
    · rw [List.map_map]
      refine (List.ext_getElem (by simp) fun i h1 h2 => ?_)
      rw [List.getElem_map]
      obtain ⟨u, hu, q, e, _⟩ := rl_get rl (List.getElem?_range (i := i) (by omega))
      rw [List.getElem?_eq_getElem h1] at hu
      have e2 : vs[i] = .ref q := (Option.some.inj hu).trans e
      show _ = V.ref (match vs[i] with | .ref a => a | _ => 0)
      rw [e2]
    · obtain ⟨ha, e⟩ := map_get hq
      obtain ⟨u, hu, q', e', fq, gq⟩ := rl_get rl (List.getElem?_range (i := a) (by omega))
      rw [List.getElem?_eq_getElem ha] at hu
      have e2 : vs[a] = .ref q' := (Option.some.inj hu).trans e'
      rw [e2] at e
      obtain rfl := (show q = q' from e)
      exact ⟨fq, gq⟩
  obtain ⟨qs, rfl, hq⟩ := z
  have lv := rl_len rl
  rw [List.length_range, List.length_map] at lv
  exact ⟨fr _ _ gp fp, fp, qs, s _ _ gp, lv, fun a q e => ⟨fr _ _ (hq a q e).2 (hq a q e).1, (hq a q e).1, s _ _ (hq a q e).2⟩⟩
theorem ok_law9 {Cs : List Addr} {CR : Addr} {f : Addr} {fd : FuncData} (Z : Bi mg) (iR : CR ∈ Cs) (oR : ClsOk K CR)
    (c__law_source : Callee P w K mg base "_law_source" CX0 1 ["_law_script"] [] (sp_source K)) (c__law_pick : Callee P w K mg base "_law_pick" CX0 1 ["_law_source_here", "_law_many"] [] sp_pick) (c__law_free : Callee P w K mg base "_law_free" CX0 2 ["_law_state", "_law_many"] [] (spS PFr9)) (c__law_scale_of : Callee P w K mg base "_law_scale_of" CX0 12 ["_law_tables_here", "_law_names"] [] (spP (PLso K Cs)))
    (c__law_tables : Callee P w K mg base "_law_tables" CX0 13 ["_law_state"] [] (spS PTbsF)) (c__law_change : Callee P w K mg base "_law_change" CX0 2 ["_law_state", "_law_tables_here"] [] sp_chg9) (c__law_pair_right : Callee P w K mg base "_law_pair_right" CX0 13 ["_law_state"] [] (spS PPr9)) (c__law_heap_right : Callee P w K mg base "_law_heap_right" CX0 13 ["_law_state"] [] (spS PPr9))
    (c_TurnedScale : Maker P w K mg base "TurnedScale" CR (L2.CX P w) 10 ["self", "inner"] [] (spI (PTuI K Cs CR))) (c_first_fault : Callee P w K mg base "first_fault" CX0 4 ["scale"] [] (spP (PFft K Cs))) (c__law_fault : Callee P w K mg base "_law_fault" CX0 2 ["_law_tables_here", "_law_names"] [] (spP (PLft K)))
    (c__law_like : Callee P w K mg base "_law_like" CX0 4 ["_law_found", "_law_due"] [] (spP (PLike K 4))) (F : Fun K "law" "law" s_law f fd) : FnOk P w K mg base CX0 15 f fd ["_law_script"] (sp_law K) := by
  refine F.ok sc_law (fun vs H Q E h => ?_) (fun cdv A outer s H vs Q E hr h => ?_)
  · obtain ⟨_, _, rfl, _⟩ := h
    rfl
  · obtain ⟨ps, scr, rfl, hq, hl, q⟩ := h
    refine ⟨_, (pss_cons (ps_set (i := 1) sc_law.nd rfl (Or.inl rfl) (pe_callC c__law_source (hr.mono (by decide)) pass0 (pa_cons (pv 0) pa_nil)))
  (pss_cons (ps_if (pt_cmpR (op_eqA K hr.units) (pe_callC c__law_pick (hr.mono (by decide)) pass0 (pa_cons (pv 1) (pa_cons pe_int pa_nil))) pe_int (nomark _)) (pss_cons (ps_ret (pe_callC c__law_pair_right (hr.mono (by decide)) pass0 (pa_cons (pv 1) pa_nil)))
  pss_nil) pss_nil)
  (pss_cons (ps_if (pt_cmpR (op_eqA K hr.units) (pe_callC c__law_pick (hr.mono (by decide)) pass0 (pa_cons (pv 1) (pa_cons pe_int pa_nil))) pe_int (nomark _)) (pss_cons (ps_ret (pe_callC c__law_heap_right (hr.mono (by decide)) pass0 (pa_cons (pv 1) pa_nil)))
  pss_nil) pss_nil)
  (pss_cons (ps_set (i := 2) sc_law.nd rfl (Or.inl rfl) (pe_callC c__law_pick (hr.mono (by decide)) pass0 (pa_cons (pv 1) (pa_cons pe_int pa_nil))))
  (pss_cons (ps_set (i := 3) sc_law.nd rfl (Or.inl rfl) (pe_cmpR (op_eqA K hr.units) (pe_callC c__law_pick (hr.mono (by decide)) pass0 (pa_cons (pv 1) (pa_cons pe_int pa_nil))) pe_int (nomark _)))
  (pss_cons (ps_set (i := 4) sc_law.nd rfl (Or.inr rfl) (pe_callC c__law_free (hr.mono (by decide)) pass0 (pa_cons (pv 1) (pa_cons (pe_op op_addA pe_int (pe_callC c__law_pick (hr.mono (by decide)) pass0 (pa_cons (pv 1) (pa_cons pe_int pa_nil)))) pa_nil))))
  (pss_cons (ps_if (pt_cmpR op_gtA (pv 2) pe_int (nomark _)) (pss_cons (ps_set (i := 10) sc_law.nd rfl (Or.inl rfl) (pe_callC c__law_tables (hr.mono (by decide)) pass0 (pa_cons (pv 1) pa_nil)))
  (pss_cons (ps_set (i := 4) sc_law.nd rfl (Or.inr rfl) (pe_lst (pa_cons (pe_ix (ix_any K (hu_of hr)) (pv 10) pe_int (fun _ _ => rfl)) (pa_cons (pe_ix (ix_any K (hu_of hr)) (pv 10) pe_int (fun _ _ => rfl)) (pa_cons (pe_ix (ix_any K (hu_of hr)) (pv 10) pe_int (fun _ _ => rfl)) (pa_cons (pe_ix (ix_any K (hu_of hr)) (pv 10) pe_int (fun _ _ => rfl)) pa_nil))))))
  (pss_cons (ps_for PassesOwn.never rfl (pi_range1 (by rfl) Z.z_range (pa_cons (pe_op op_subA (pv 2) pe_int) pa_nil)) (pg_name (i := 11) sc_law.nd rfl (Or.inl rfl)) (pss_cons (ps_expr (pe_callC c__law_change (hr.mono (by decide)) pass0 (pa_cons (pv 1) (pa_cons (pv 4) pa_nil))))
  pss_nil))
  pss_nil))) pss_nil)
  (pss_cons (ps_set (i := 5) sc_law.nd rfl (Or.inr rfl) (pe_callB (call_lenA K) (by rfl) Z.z_len PySem.boot_len (pa_cons (pe_ix (ix_any K (hu_of hr)) (pv 4) pe_int (fun _ _ => rfl)) pa_nil)))
  (pss_cons (ps_setLc (i := 6) (own := [("_law_k", 11)]) (g := (gName 11)) rfl sc_law.nd rfl rfl (sw_true rfl rfl rfl (by decide +kernel)) (pi_range1 (by rfl) Z.z_range (pa_cons (pv 5) pa_nil)) (blkOk_by (by kernel_rfl)) (fun _ _ _ _ _ => (pg_name (i := 11) sc_law.nd rfl (Or.inl rfl))) (fun _ _ _ _ _ => pts_nil) (fun _ _ _ _ _ => (pe_op op_addA pe_str (pe_callTy call_strA (by rfl) Z.z_str (by decide +kernel) (pa_cons (pe_op op_modA (pe_callTy call_intA (by rfl) Z.z_int (by decide +kernel) (pa_cons (pe_op op_mulA (pv 11) pe_int) pa_nil)) pe_int) pa_nil)))))
  (pss_cons (ps_set (i := 7) sc_law.nd rfl (Or.inl rfl) (pe_callC c__law_scale_of (hr.mono (by decide)) pass0 (pa_cons (pv 4) (pa_cons (pv 6) pa_nil))))
  (pss_cons (ps_if (pt_val (pv 3)) (pss_cons (ps_set (i := 7) sc_law.nd rfl (Or.inl rfl) (pe_makeC c_TurnedScale (hr.mono (by decide)) passL (pa_cons (pv 7) pa_nil)))
  (pss_cons (ps_asg (pe_lc (own := [("_law_a", 12)]) (g := (gName 12)) rfl sc_law.nd (pi_range1 (by rfl) Z.z_range (pa_cons (pv 5) pa_nil)) (blkOk_by (by kernel_rfl)) (fun _ _ _ _ _ => (pg_name (i := 12) sc_law.nd rfl (Or.inr rfl))) (fun _ _ _ _ _ => pts_nil) (fun _ _ _ _ _ => (pe_lc (own := [("_law_b", 13)]) (g := (gName 13)) rfl sc_law.nd (pi_range1 (by rfl) Z.z_range (pa_cons (pv 5) pa_nil)) (blkOk_by (by kernel_rfl)) (fun _ _ _ _ _ => (pg_name (i := 13) sc_law.nd rfl (Or.inl rfl))) (fun _ _ _ _ _ => pts_nil) (fun _ _ _ _ _ => (pe_ix (ix_any K (hu_of hr)) (pe_ix (ix_any K (hu_of hr)) (pe_ix (ix_any K (hu_of hr)) (pv 4) pe_int (fun _ _ => rfl)) (pv 13) (fun _ _ => rfl)) (pv 12) (fun _ _ => rfl)))))) (pg_sub (pv 4) pe_int (set_any (hu_of hr))))
  pss_nil)) pss_nil)
  (pss_cons (ps_set (i := 8) sc_law.nd rfl (Or.inl rfl) (pe_callC c__law_fault (hr.mono (by decide)) pass0 (pa_cons (pv 4) (pa_cons (pv 6) pa_nil))))
  (pss_cons (ps_set (i := 9) sc_law.nd rfl (Or.inl rfl) (pe_lst (pa_cons (pe_callC c_first_fault (hr.mono (by decide)) pass0 (pa_cons (pv 7) pa_nil)) (pa_cons (pe_callC c_first_fault (hr.mono (by decide)) pass0 (pa_cons (pv 7) pa_nil)) (pa_cons (pe_fldK K (pv 7)) (pa_cons (pe_fldK K (pv 7)) (pa_cons (pe_fldK K (pv 7)) pa_nil)))))))
  (pss_cons (ps_ret (pe_callC c__law_like (hr.mono (by decide)) pass0 (pa_cons (pv 9) (pa_cons (pe_lst (pa_cons (pv 8) (pa_cons (pv 8) (pa_cons (pv 5) (pa_cons (pe_ix (ix_any K (hu_of hr)) (pv 4) pe_int (fun _ _ => rfl)) (pa_cons (pe_ix (ix_any K (hu_of hr)) (pv 4) pe_int (fun _ _ => rfl)) pa_nil)))))) pa_nil))))
  pss_nil)))))))))))))), ?_⟩
    show tSeq _ _ (Ends.mk _ _ _ _) [some _, none, none, none, none, none, none, none, none, none, none, none, none, none] _
    refine q_source (fun Q q => ⟨_, rfl, q⟩) hq (by omega) fun sa cl H1 h1 => ?_
    have st := stabS sa cl
    have isz : ∀ {n c : Nat} {σ : L2.St} {G' : Hp}, 1 ≤ c → c ≤ 10 → σ[1]? = some (some (.ref sa)) → Ev (Src sa cl) n (0 + (0 + 0) + 1 + 0) (tOp (rEqA K) (tCall sp_pick [] E0 (tCons (tVar 1) (tCons (tC (.int (c : Nat))) tNil))) (tC (.int 0))) σ G' (IsB fun _ => True) := fun hc h10 e1 => ev_op (Ra := IsI fun r => 0 ≤ r ∧ r < _) (Rb := IsV (.int 0)) (ev_pick (ea_consV (ev_var e1) (ea_consV ev_c ea_nilV)) (by omega) (by omega)) ev_c fun u v G3 s3 eu ev => by
      obtain ⟨i, hi, rfl⟩ := eu
      obtain rfl := (show _ = _ from ev)
      exact rv_imp (v_eqI st) fun v G2 s2 r => ⟨_, trivial, r⟩
    refine q_if st h1 (P := fun _ => True) (et_test (isz (c := 6) (by decide) (by decide) rfl)) (fun H2 _ k2 h2 => ?_) (fun H2 _ k2 h2 => q_end ?_)
    · exact q_ret h2 (ev_callSV (kb := 60) (R := IsV (.bl true)) (ws := [.ref sa]) (ea_consV (ev_var rfl) ea_nilV) fun G' s' => ⟨rfl, rfl, rfl⟩) fun v G3 H3 s3 r => by
        rw [show v = .bl true from r]
        exact q H3
    refine q_if st h2 (P := fun _ => True) (et_test (isz (c := 6) (by decide) (by decide) rfl)) (fun H3 _ k3 h3 => ?_) (fun H3 _ k3 h3 => q_end ?_)
    · exact q_ret h3 (ev_callSV (kb := 60) (R := IsV (.bl true)) (ws := [.ref sa]) (ea_consV (ev_var rfl) ea_nilV) fun G' s' => ⟨rfl, rfl, rfl⟩) fun v G3 H3 s3 r => by
        rw [show v = .bl true from r]
        exact q H3
    refine q_setI st h3 (ev_pick (ea_consV (ev_var rfl) (ea_consV ev_c ea_nilV)) (by decide) (by decide)) fun w0 H4 hw k4 h4 => ?_
    obtain ⟨way, rfl⟩ : ∃ a : Nat, w0 = (a : Nat) := ⟨w0.toNat, by omega⟩
    refine q_set h4 (isz (c := 4) (by decide) (by decide) rfl) fun v5 G5 H5 s5 r5 => ?_
    obtain ⟨turned, _, rfl⟩ := r5
    have k15 : Kp (Src sa cl) H1 H5 := ((k2.trans k3).trans k4).trans s5.k
    refine q_set (R := fun v G => ∃ m, 1 ≤ m ∧ m ≤ 3 ∧ IsLTF G5 m v G) s5.s (ev_callSW (kb := 20) (ea_cons (ev_var rfl) (ea_cons (R := IsI fun z => 1 ≤ z ∧ z ≤ 3) (ev_op (Ra := IsV (.int 1)) (Rb := IsI fun r => 0 ≤ r ∧ r < 3) ev_c (ev_pick (ea_consV (ev_var rfl) (ea_consV ev_c ea_nilV)) (by decide) (by decide)) fun u v G3 s3 eu ev => by
        obtain rfl := (show _ = _ from eu)
        obtain ⟨i, hi, rfl⟩ := ev
        exact rv_imp (v_add st) fun v G2 s2 r => ⟨_, by omega, r⟩) ea_nil)) fun vs G3 s3 h => by
        obtain ⟨_, _, rfl, a1, _, _, rfl, ⟨z, hz, rfl⟩, a3⟩ := h
        obtain rfl := (show _ = _ from a1)
        obtain rfl := (show _ = _ from a3)
        refine ⟨_, ⟨z.toNat, by rw [show ((z.toNat : Nat) : Int) = z by omega]; rfl, by omega, by omega, rfl, rfl⟩, fun v G2 r => ⟨z.toNat, by omega, by omega, ?_⟩⟩
        obtain ⟨p, e, fp, r⟩ := r
        exact ⟨p, e, s3.free fp, r⟩) fun v6 G6 H6 s6 r6 => ?_
    obtain ⟨mf, mf1, mf3, pf, rfl, fpf, pf', nvf, slf, thf, jnf, e6, Tf, okf⟩ := r6
    cases e6
    have k16 := k15.trans s6.k
    have hpf : H1 pf = none := by
      obtain ⟨_, _, gpf, _⟩ := id Tf
      exact k15.v _ ((s6.n _ _ gpf).resolve_left (by rw [fpf]; exact fun z => nomatch z))
    refine q_ifB st (fun σ' J => ∃ (n m nv sl : Nat) (G' : Hp) (p : Addr) (th jn : Nat → Nat → Int) (y10 y11 : Option V), σ' = [some (.ref ps), some (.ref sa), some (.int (way : Nat)), some (.bl turned), some (.ref p), none, none, none, none, none, y10, y11, none, none] ∧ (Src sa cl).s n G' J ∧ H1 p = none ∧ LTn m nv sl th jn p G' ∧ LTok m nv sl th jn ∧ 1 ≤ m ∧ m ≤ 16) s6.s (et_testV (ev_opV (ev_var rfl) ev_c (v_gt st))) (fun σ' J hj => ?_) (fun H7 hu p7 k7 h7 => ?_) (fun H7 hu p7 k7 h7 => ?_)
    · obtain ⟨n, m, nv, sl, G, p, th, jn, y10, y11, rfl, s, hp0, hT, ok, m1, m16⟩ := hj
      obtain ⟨pj, pp, gp, tj, tp⟩ := id hT
      obtain ⟨us, hj, lj, aj⟩ := tj.at
      refine q_setV st s (x := .int (m : Nat)) (ev_eq (congrArg V.int (by rw [lj])) (ev_cbV (ea_consV (ev_at (k := 0) st gp (ev_var rfl) rfl) ea_nilV) (c_lenL st (SqL.of hj)))) fun H8 k8 h8 => ?_
      refine q_set h8 (ev_lcV (f := fun k => V.str (("n" : Str) ++ (toString (((k : Nat) : Int) * 7 % 97) : Str))) st (ea_consV (ev_var rfl) ea_nilV) (by omega) (by omega) (fun _ => rfl) fun j G' hj s' => ?_) fun v9 G9 H9 s9 r9 => ?_
      · have sm := nN9_sm j (by omega)
        exact ev_opV ev_c (ev_cbV (ea_consV (ev_opV (ev_cbV (ea_consV (ev_opV (ev_var rfl) ev_c (v_mul st (.inl ⟨by omega, by omega⟩))) ea_nilV) (c_int st)) ev_c (v_mod st (by decide))) ea_nilV) (c_str st sm.1)) (v_adds st (Nat.le_trans sm.2 (by decide)))
      obtain ⟨pn, rfl, _, gn⟩ := r9
      rw [Int.toNat_natCast] at gn
      have gn : G9 pn = some (.lst ((nN9 m).map V.str)) := by
        rw [gn]
        unfold nN9
        rw [List.map_map]
        rfl
      have kn := nN9_ok m (by omega)
      have ln := nN9_len m
      have TI : TbIs (nN9 m) nv sl th jn := LTok.tab (by rw [ln]; exact ok) (by omega) (by omega) kn.1 (fun nm h => (kn.2 nm h).1) fun nm h => (kn.2 nm h).2
      obtain ⟨d, ed⟩ : ∃ d, d = tabSD (nN9 m) nv sl th jn := ⟨_, rfl⟩
      have dn : d.names = nN9 m := by rw [ed]; rfl
      have ddep : d.dep = 1 := by rw [ed]; rfl
      obtain ⟨o, ll⟩ := TI.sd
      rw [← ed] at o ll
      have gp9 := s9.g _ _ gp
      have hLT : LTb d p G9 := by
        rw [ed]
        exact LTn.tab (by rw [ln]; exact hT.mono s9.g)
      refine q_set s9.s (ev_callV (R := IsScD K Cs d) (ws := [.ref p, .ref pn]) st (ea_consV (ev_var rfl) (ea_consV (ev_var rfl) ea_nilV)) fun G' s' => ⟨p, pn, nN9 m, nv, sl, th, jn, rfl, by rw [ln]; exact hT.mono (s9.g.trans s'), s' _ _ gn, TI, by rw [ed]⟩) fun v10 GA HA sA rA => ?_
      obtain ⟨x, rfl, sx⟩ := rA
      have gpA := sA.g _ _ gp9
      have gnA := sA.g _ _ gn
      refine q_ifB st (fun σ' J => ∃ (n : Nat) (G' : Hp) (x : Addr) (d : SD), σ' = [some (.ref ps), some (.ref sa), some (.int (way : Nat)), some (.bl turned), some (.ref p), some (.int (m : Nat)), some (.ref pn), some (.ref x), none, none, y10, y11, none, none] ∧ (Src sa cl).s n G' J ∧ ScD K Cs d x G' ∧ LTb d p G' ∧ SdOk d ∧ d.names = nN9 m ∧ G' pn = some (.lst ((nN9 m).map V.str))) sA.s (et_B (ev_var rfl)) (fun σ' J hj => ?_) (fun HB hu pB kB hB => ?_) (fun HB hu pB kB hB => q_end (hu _ _ ⟨_, GA, x, d, rfl, hB, sx, hLT.mono sA.g, o, dn, gnA⟩))
      · obtain ⟨n, G, x, d, rfl, s, sx, hL, o, dn, gn⟩ := hj
        refine q_set s (ev_callV (R := IsFt K d (faultF d)) (ws := [.ref p, .ref pn]) st (ea_consV (ev_var rfl) (ea_consV (ev_var rfl) ea_nilV)) fun G' s' => ⟨p, pn, d, rfl, hL.mono s', o, by rw [dn]; exact s' _ _ gn, rfl⟩) fun v8 G8 H8 s8 r8 => ?_
        have sx8 := sx.mono s8.g
        obtain ⟨pj, pp, gp, _, _⟩ := hL.mono s8.g
        have ff : ∀ {n : Nat} {σ : L2.St}, σ[7]? = some (some (.ref x)) → Ev (Src sa cl) n (0 + 0) (tCall (spP (PFft K Cs)) [] E0 (tCons (tVar 7) tNil)) σ G8 (IsFt K d (faultF d)) := fun e => ev_callV (ws := [.ref x]) st (ea_consV (ev_var e) ea_nilV) fun G' s' => ⟨x, d, rfl, sx8.mono s', o, rfl⟩
        have F5 := fun {n : Nat} {σ : L2.St} (e : σ[7]? = some (some (.ref x))) => ev_sF (n := n) (k := 0) (σ := σ) st sx8 (ev_var e)
        have env : ((d.nv.toNat : Nat) : Int) = d.nv := Int.toNat_of_nonneg o.nv.1
        have esl : ((d.sl.toNat : Nat) : Int) = d.sl := Int.toNat_of_nonneg o.sl.1
        rw [env, esl] at gp
        refine q_set (R := IsLX (RCons (IsFt K d (faultF d)) (RCons (IsFt K d (faultF d)) (RCons (IsV (.int (m : Nat))) (RCons (IsV (.int d.nv)) (RCons (IsV (.int d.sl)) RNil)))))) s8.s (ev_lstX st (ea_cons (ff rfl) (ea_cons (ff rfl) (ea_cons (ev_eq (congrArg V.int (by rw [dn, ln])) (F5 rfl).1) (ea_cons (F5 rfl).2.1 (ea_cons (F5 rfl).2.2.1 ea_nil))))) fun vs G' h => ?_) fun v9 G9 H9 s9 r9 => ?_
        · obtain ⟨_, _, rfl, _, _, _, rfl, _, _, _, rfl, _, _, _, rfl, _, _, _, rfl, _, e⟩ := h
          obtain rfl := (show _ = [] from e)
          simp
        have gp9 := s9.g _ _ gp
        have dat : ∀ {v : V} {G' : Hp}, IsLX (RCons (IsFt K d (faultF d)) (RCons (IsFt K d (faultF d)) (RCons (IsV (.int (m : Nat))) (RCons (IsV (.int d.nv)) (RCons (IsV (.int d.sl)) RNil))))) v G' → Dp K G' v (.list [ftD d (faultF d), ftD d (faultF d), .int (m : Nat), .int d.nv, .int d.sl]) := fun h => by
          obtain ⟨p, _, rfl, g, _, _, rfl, h1, _, _, rfl, h2, _, _, rfl, h3, _, _, rfl, h4, _, _, rfl, h5, e⟩ := h
          obtain rfl := (show _ = _ from h3)
          obtain rfl := (show _ = _ from h4)
          obtain rfl := (show _ = _ from h5)
          obtain rfl := (show _ = [] from e)
          exact .lst (SqL.of g) (.cons h1.dp (.cons h2.dp (.cons (.int _) (.cons (.int _) (.cons (.int _) .nil)))))
        obtain ⟨sm, dp⟩ := ftD_sml d (faultF d) fun i t e => Nat.le_trans (faultF_len e) (by decide)
        refine q_ret s9.s (ev_call (R := IsV (.bl true)) (RA := RCons (IsLX (RCons (IsFt K d (faultF d)) (RCons (IsFt K d (faultF d)) (RCons (IsV (.int (m : Nat))) (RCons (IsV (.int d.nv)) (RCons (IsV (.int d.sl)) RNil)))))) (RCons (IsLX (RCons (IsFt K d (faultF d)) (RCons (IsFt K d (faultF d)) (RCons (IsV (.int (m : Nat))) (RCons (IsV (.int d.nv)) (RCons (IsV (.int d.sl)) RNil)))))) RNil)) st (ea_cons ((ev_var rfl).imp fun v G' s' e => by rw [show v = _ from e]; exact Mon.mon s' r9) (ea_cons (ev_lstX st (ea_cons ((ev_var rfl).imp fun v G' s' e => by rw [show v = _ from e]; exact Mon.mon (s9.g.trans s') r8) (ea_cons ((ev_var rfl).imp fun v G' s' e => by rw [show v = _ from e]; exact Mon.mon (s9.g.trans s') r8) (ea_cons (ev_var rfl) (ea_cons (ev_at (k := 2) st gp9 (ev_var rfl) rfl) (ea_cons (ev_at (k := 3) st gp9 (ev_var rfl) rfl) ea_nil))))) fun vs G' h => ?_) ea_nil)) fun vs G' s' h => ?_) fun v10 G10 H10 s10 r10 => by
            rw [show v10 = .bl true from r10]
            exact q H10
        · obtain ⟨_, _, rfl, _, _, _, rfl, _, _, _, rfl, _, _, _, rfl, _, _, _, rfl, _, e⟩ := h
          obtain rfl := (show _ = [] from e)
          simp
        · obtain ⟨_, _, rfl, h1, _, _, rfl, h2, e⟩ := h
          obtain rfl := (show _ = [] from e)
          refine ⟨_, _, .list [ftD d (faultF d), ftD d (faultF d), .int (m : Nat), .int d.nv, .int d.sl], rfl, ?_, .lst (by show 5 ≤ 100000; decide) fun x hx => ?_, dat h1, dat h2, rfl⟩
          · simp only [PyData.depth, PyData.depthAll]
            omega
          · simp only [List.mem_cons, List.not_mem_nil, or_false] at hx
            rcases hx with rfl | rfl | rfl | rfl | rfl
            · exact sm
            · exact sm
            · exact .int _
            · exact .int _
            · exact .int _
      · refine q_set hB (ev_mkTurn (P1 := fun z => z = d) (P := fun z => z = turnSD d) st iR oR ((ev_var rfl).imp fun v G' s' e => ⟨d, ⟨x, e, sx.mono s'⟩, rfl⟩) (fun z hz => by rw [hz]; exact ⟨o, by rw [depL1 (by rw [ddep]; decide), ddep]; decide⟩) fun z hz => by rw [hz]) fun v11 GC HC sC rC => ?_
        obtain ⟨dC, ⟨xt, rfl, hxt⟩, rfl⟩ := rC
        have gpC := sC.g _ _ gpA
        have tpC := tp.mono (s9.g.trans (sA.g.trans sC.g))
        have tjC := tj.mono (s9.g.trans (sA.g.trans sC.g))
        refine q_setNewR (i := 1) st h1 hp0 sC.s (fun m G' J h => src_cut h) gpC (by simp) (ev_gridR (i := 5) (n := m) (f := fun a b => th b a) (σa := fun a => [some (.ref ps), some (.ref sa), some (.int (way : Nat)), some (.bl turned), some (.ref p), some (.int (m : Nat)), some (.ref pn), some (.ref xt), none, none, y10, y11, some (.int (a : Nat)), none]) (σb := fun a b => [some (.ref ps), some (.ref sa), some (.int (way : Nat)), some (.bl turned), some (.ref p), some (.int (m : Nat)), some (.ref pn), some (.ref xt), none, none, y10, y11, some (.int (a : Nat)), some (.int (b : Nat))]) st rfl (by omega) (fun _ => rfl) (fun _ => rfl) (fun _ => rfl) (fun _ _ => rfl) (fun _ _ => rfl) fun a b G' ha hb s' => ev_ent2 st (tpC.mono s') (ev_at (k := 1) st (s' _ _ gpC) (ev_var rfl) rfl) (ev_var rfl) (ev_var rfl) hb ha) (fun G' s' => ev_var rfl) (fun G' s' => ev_c) fun v GD HD rD sD hD => ?_
        obtain ⟨pt, ws, rfl, _, gt, rlt⟩ := rD
        have gpD := sD _ _ gpC
        have tpT : TabN GD pt m fun a b => th b a := ⟨ws, gt, rlt⟩
        refine q_end (hu _ _ ⟨_, _, xt, turnSD d, rfl, hD, (hxt.mono sD).updP gpD, ?_, o.turn (by omega), dn, ?_⟩)
        · have e0 : (turnSD d).names.length = m := by show d.names.length = m; rw [dn, ln]
          refine ⟨pj, pt, ?_, ?_, ?_⟩
          · rw [upd_same]
            have e1 : (turnSD d).nv = ((nv : Nat) : Int) := by show d.nv = _; rw [ed]; rfl
            have e2 : (turnSD d).sl = ((sl : Nat) : Int) := by show d.sl = _; rw [ed]; rfl
            rw [e1, e2]
            rfl
          · rw [e0]
            have : (turnSD d).jn = jn := by show d.jn = _; rw [ed]; rfl
            rw [this]
            exact (tjC.mono sD).updP gpD m1
          · rw [e0]
            have : (turnSD d).th = fun a b => th b a := by show (fun a b => d.th b a) = _; rw [ed]; rfl
            rw [this]
            exact tpT.updP gpD m1
        · rw [upd_ne fun z => ?_]
          · exact (sC.g.trans sD) _ _ gnA
          · have e := (sC.g.trans sD) _ _ gnA
            rw [z, gpD] at e
            injection e with e
            injection e with e
            have h2 := congrArg (fun l : List V => l[0]?) e
            obtain ⟨_, z⟩ := map_get (show ((nN9 m).map V.str)[0]? = some (V.ref pj) from h2.symm)
            cases z
    · have p7 := of_decide_eq_true p7.symm
      refine q_set h7 (ev_callSW (kb := 3) (RA := IsVs [.ref sa]) (R := IsTbF G6) (ea_consV (ev_var rfl) ea_nilV) fun vs G' s' e => ?_) fun v8 G8 H8 s8 r8 => ?_
      · obtain rfl := (show _ = _ from e)
        refine ⟨_, ⟨rfl, rfl, rfl⟩, fun v G2 r => ?_⟩
        obtain ⟨t, pn, pj, pp, x, names, nv, sl, th, jn, e, g, a, b, c⟩ := r
        exact ⟨t, pn, pj, pp, x, names, nv, sl, th, jn, e, g, a.back s', b.back s', c⟩
      obtain ⟨t, pn, pj, pp, x, names, nv, sl, th, jn, rfl, gt, tj, tp, T⟩ := r8
      refine q_set s8.s (ev_lstN st (vs := [.ref pj, .ref pp, .int (nv : Nat), .int (sl : Nat)]) (ea_consV (ev_at (k := 1) st gt (ev_var rfl) rfl) (ea_consV (ev_at (k := 2) st gt (ev_var rfl) rfl) (ea_consV (ev_at (k := 3) st gt (ev_var rfl) rfl) (ea_consV (ev_at (k := 4) st gt (ev_var rfl) rfl) ea_nilV)))) (by simp)) fun v9 G9 H9 s9 r9 => ?_
      obtain ⟨p, rfl, fp, gp⟩ := r9
      have k17 := k16.trans k7
      have s69 : Stp (Src sa cl) _ G6 H7 G9 H9 := s8.trans s9
      have fr : ∀ b o, G9 b = some o → G6 b = none → H1 b = none := fun b o e z => k17.v _ ((s69.n _ _ e).resolve_left (by rw [z]; exact fun z => nomatch z))
      have sb := st.anti h7 s9.s s69.g
      have hL : LTo H1 G6 H9 names.length nv sl th jn p := ⟨fr _ _ gp (s8.g.free fp), s8.g.free fp, pj, pp, st.sub s9.s _ _ gp, (tj.mono s9.g).to (st.sub s9.s) fr, (tp.mono s9.g).to (st.sub s9.s) fr⟩
      have hok : LTok names.length nv sl th jn := ⟨T.nv, T.sl, T.th, T.jn⟩
      obtain ⟨N, hN⟩ : ∃ N : Nat, (Src sa cl).s N G6 H9 := ⟨_, sb⟩
      refine q_forI1 (m := (way : Nat) - 1) hN (ea_consV (ev_opV (ev_var rfl) ev_c (v_sub st)) ea_nilV) (by omega) (by omega) (fun j σ' J => (∃ y11, σ' = [some (.ref ps), some (.ref sa), some (.int (way : Nat)), some (.bl turned), some (.ref p), none, none, none, none, none, some (.ref t), y11, none, none]) ∧ ∃ nv sl th jn, (Src sa cl).s (N + 4 * j) G6 J ∧ LTo H1 G6 J names.length nv sl th jn p ∧ LTok names.length nv sl th jn) (fun GA HA sA => ⟨⟨_, rfl⟩, nv, sl, th, jn, st.anti hN sA.s sA.g, ?_, hok⟩) (fun j σ' J hj hp => ?_) (fun σ' J hp => ?_)
      · obtain ⟨p0, pg, pj', pp', hp, tj', tp'⟩ := hL
        have mv : ∀ b o, H1 b = none → H9 b = some o → HA b = some o := fun b o z e => sA.k.k b o (st.fre h1 z) e
        have mt : ∀ {pt : Addr} {f : Nat → Nat → Int}, TabO H1 G6 H9 pt names.length f → TabO H1 G6 HA pt names.length f := fun {pt f} h => by
          obtain ⟨a, b, qs, c, l, r⟩ := h
          exact ⟨a, b, qs, mv _ _ a c, l, fun i q e => ⟨(r i q e).1, (r i q e).2.1, mv _ _ (r i q e).1 (r i q e).2.2⟩⟩
        exact ⟨p0, pg, pj', pp', mv _ _ p0 hp, mt tj', mt tp'⟩
      · obtain ⟨⟨y11, rfl⟩, nv, sl, th, jn, sJ, hL, hok⟩ := hp
        show tSeq _ _ (Ends.mk _ _ _ _) [some (.ref ps), some (.ref sa), some (.int (way : Nat)), some (.bl turned), some (.ref p), none, none, none, none, none, some (.ref t), some (.int (j : Nat)), none, none] _
        refine ⟨_, rfl, _, rfl, sa, cl, p, 0, _, names.length, nv, sl, H, H1, G6, th, jn, rfl, h1, sJ, T.l1, T.l2, hL, hok, fun H' nv' sl' th' jn' s' hL' hok' => ?_⟩
        refine q_end ?_
        exact ⟨⟨_, rfl⟩, nv', sl', th', jn', s', hL', hok'⟩
      · obtain ⟨⟨y11, rfl⟩, nv, sl, th, jn, sJ, hL, hok⟩ := hp
        obtain ⟨G', s', _, hT⟩ := hL.pub st h1 sJ
        exact q_end (hu _ _ ⟨_, names.length, nv, sl, G', p, th, jn, _, _, rfl, s', hL.1, hT, hok, T.l1, T.l2⟩)
    · exact q_end (hu _ _ ⟨_, mf, nvf, slf, G6, pf, thf, jnf, none, none, rfl, h7, hpf, Tf, okf, mf1, by omega⟩)
end
end L2.DS
namespace L2.DS
open PySem PySem.Spec PyProof.Rows
theorem bind_Scale {K : PySem.W.Frag} {f : Addr} {fd : FuncData} (F : FunD K "__init__" "Scale.__init__" (defArgs s_Scale___init__) (defBody s_Scale___init__) (defScope s_Scale___init__) [.int 1] [] f fd) : ∃ ds, Vals [.int 1] ds ∧ Binds K fd ["self", "label", "names", "never_at", "still_at", "depth"] ds :=
  F.binds1 5 0 (by decide) rfl fun T kV doc pm an cdv ct us its h1 h2 => match us, its, h1, h2 with
    | [_, _, _, _, _], [_], _, _ => ⟨_, rfl, rfl⟩
theorem bind_Scale6 {K : PySem.W.Frag} {f : Addr} {fd : FuncData} (F : FunD K "__init__" "Scale.__init__" (defArgs s_Scale___init__) (defBody s_Scale___init__) (defScope s_Scale___init__) [.int 1] [] f fd) : ∃ ds, Vals [] ds ∧ Binds K fd ["self", "label", "names", "never_at", "still_at", "depth"] ds :=
  F.binds1 6 1 (by decide) rfl fun T kV doc pm an cdv ct us its h1 h2 => match us, its, h1, h2 with
    | [_, _, _, _, _, _], [_], _, _ => ⟨_, rfl, rfl⟩
theorem FunSD.kbindsN {prog : Program} {K : PySem.W.Frag} {x qual : Str} {st : Stmt} {kws : List (Str × V)} {f D : Addr} {fd : FuncData} {ps : List Str} (F : FunSD prog K x qual st [] kws f fd D) (n : Nat) (ks : List Str)
    (h : ∀ (cc : Addr) (kV doc pm : Value) (an : Option Addr) (cdv ct : Value) (us ws : List Value), us.length = n → ws.length = ks.length → bindArgs (PySem.W.fnX x qual (defArgs st) (defBody st) (defScope st) [("__class__", cc)] .none kV doc pm an cdv ct) ⟨us, ks.zip ws⟩ = pure (ps.zip (us ++ ws))) :
    KBn K fd ps n ks (fun us ws => us ++ ws) (fun vs zs => vs ++ zs) := by
  obtain ⟨oc, od, dV, kV, doc, pm, an, cda, ct, osl, cc, ol, vs, file, tf, ccl, ccd, csl, rfl, h2, h3, h4, h5, h6, h7, h8, hD, hK⟩ := F.ex
  rcases hD with ⟨_, rfl⟩ | ⟨e, _⟩
  · exact ⟨fun s us ws X l1 l2 => .of_eq (h cc kV doc pm an (.ref cda) ct us ws l1 l2), fun r1 r2 => r1.append r2⟩
  · exact absurd rfl e
theorem bindK_Tb {P : Program} {K : PySem.W.Frag} {f D : Addr} {fd : FuncData} (F : FunSD P K "__init__" "TableScale.__init__" s_TableScale___init__ [] [] f fd D) : KBn K fd ["self", "names", "joins", "products", "never", "still"] 4 ["never", "still"] (fun us ws => us ++ ws) (fun vs zs => vs ++ zs) :=
  F.kbindsN 4 ["never", "still"] fun cc kV doc pm an cdv ct us ws h1 h2 => match us, ws, h1, h2 with
    | [_, _, _, _], [_, _], _, _ => rfl
theorem bind_Pr {P : Program} {K : PySem.W.Frag} {f D : Addr} {fd : FuncData} (F : FunSD P K "__init__" "PairScale.__init__" s_PairScale___init__ [] [] f fd D) : Binds K fd ["self", "left", "right"] [] :=
  F.bindsN fun cc kV doc pm an cdv ct us h => match us, h with
    | [_, _, _], _ => rfl
theorem bind_Tu {P : Program} {K : PySem.W.Frag} {f D : Addr} {fd : FuncData} (F : FunSD P K "__init__" "TurnedScale.__init__" s_TurnedScale___init__ [] [] f fd D) : Binds K fd ["self", "inner"] [] :=
  F.bindsN fun cc kV doc pm an cdv ct us h => match us, h with
    | [_, _], _ => rfl
theorem bind_Hp {P : Program} {K : PySem.W.Frag} {f D : Addr} {fd : FuncData} (F : FunSD P K "__init__" "HeapScale.__init__" s_HeapScale___init__ [] [] f fd D) : Binds K fd ["self", "inner"] [] :=
  F.bindsN fun cc kV doc pm an cdv ct us h => match us, h with
    | [_, _], _ => rfl
end L2.DS
/-! What the looks say: defs with a closure over their class, own errors. -/
namespace L2.DS
open PySem PySem.Spec PyProof.Rows
section
variable {P : Program} {K : Fg} {f D C : Addr} {x qual file z nm : Str} {st : Stmt}
theorem ckFile_ok {vs : Array Value} (h : ckFile file vs = true) : ∃ fi tf, vs[2]? = some (.str fi tf) ∧ (file == fi) = true := by
  unfold ckFile at h
  split at h
  · rename_i fi tf e
    exact ⟨fi, tf, e, h⟩
  · cases h
theorem ckFlds_ok {o : Option Obj} (h : ckFlds file o = true) : ∃ c1 oc1 vs sl1, o = some ⟨c1, oc1, .fields vs, sl1⟩ ∧ ∃ fi tf, vs[2]? = some (.str fi tf) ∧ (file == fi) = true := by
  unfold ckFlds at h
  split at h
  · rename_i c1 oc1 vs sl1
    exact ⟨c1, oc1, vs, sl1, rfl, ckFile_ok h⟩
  · cases h
theorem ckCode_ok {v : Value} (h : ckCode file K qual v = true) : ∃ cda, v = .ref cda ∧ PySem.W.codeIn K (.ref cda) qual = true ∧ ckFlds file (K.lookup cda) = true := by
  unfold ckCode at h
  split at h
  · rename_i cda
    exact ⟨cda, rfl, and2 h⟩
  · cases h
theorem ckCell_ok {o : Option Obj} (h : ckCell D o = true) : ∃ c2 oc2 sl2, o = some ⟨c2, oc2, .cell (some (.ref D)), sl2⟩ := by
  unfold ckCell at h
  split at h
  · rename_i c2 oc2 D' sl2
    rw [of_decide_eq_true h]
    exact ⟨c2, oc2, sl2, rfl⟩
  · cases h
theorem ckClo_ok {l : List (Str × Addr)} (h : ckClo K D l = true) : ∃ cc, l = [(("__class__" : Str), cc)] ∧ ckCell D (K.lookup cc) = true := by
  unfold ckClo at h
  split at h
  · rename_i y cc
    obtain ⟨a, b⟩ := and2 h
    rw [of_decide_eq_true a]
    exact ⟨cc, rfl, b⟩
  · cases h
/-- all that stands behind a def that says super() -/
theorem sup_of (e : fnU K f = some (x, qual, defArgs st, .stmts (defBody st), defScope st, mainGlobals, builtinsNs)) (c : ckSup file K f D qual = true) :
    ∃ (oc : Value) (od : Option Addr) (kV doc pm : Value) (an : Option Addr) (cda : Addr) (ct : Value) (osl : Array (Option Value)) (cc : Addr) (c1 : Value) (oc1 : Option Addr) (vs : Array Value) (sl1 : Array (Option Value)) (fi : Str) (tf : Tok) (c2 : Value) (oc2 : Option Addr) (sl2 : Array (Option Value)),
    K.lookup f = some ⟨oc, od, .func (PySem.W.fnX x qual (defArgs st) (defBody st) (defScope st) [("__class__", cc)] .none kV doc pm an (.ref cda) ct), osl⟩ ∧ PySem.W.codeIn K (.ref cda) qual = true ∧ K.lookup cda = some ⟨c1, oc1, .fields vs, sl1⟩ ∧ vs[2]? = some (.str fi tf) ∧ (file == fi) = true ∧
    K.lookup cc = some ⟨c2, oc2, .cell (some (.ref D)), sl2⟩ ∧ PySem.W.keepIn K (.ref f) = true ∧ PySem.W.fnIn K f = true ∧ PySem.W.typeIn K (.ref f) = some (.type "function") ∧ (fdA K f).kwdefaults = kV := by
  obtain ⟨oc, od, osl, cl, dV, kV, doc, pm, an, cdv, ct, l⟩ := fnU_ok e
  obtain ⟨k, c⟩ := and2 c
  obtain ⟨k1, c⟩ := and2 c
  obtain ⟨k2, c⟩ := and2 c
  have kw : (fdA K f).kwdefaults = kV := by
    unfold fdA
    rw [l]
  rw [l] at c
  obtain ⟨a1, c⟩ := and2 c
  obtain ⟨a2, a3⟩ := and2 c
  obtain rfl := isNon_ok a1
  obtain ⟨cc, rfl, b1⟩ := ckClo_ok a2
  obtain ⟨cda, rfl, b2, b3⟩ := ckCode_ok a3
  obtain ⟨c1, oc1, vs, sl1, d1, fi, tf, d2, d3⟩ := ckFlds_ok b3
  obtain ⟨c2, oc2, sl2, e1⟩ := ckCell_ok b1
  exact ⟨oc, od, kV, doc, pm, an, cda, ct, osl, cc, c1, oc1, vs, sl1, fi, tf, c2, oc2, sl2, l, b2, d1, d2, d3, e1, k, k1, of_decide_eq_true k2, kw⟩
/-- a plain def, piece by piece -/
theorem fnl_of (e : fnU K f = some (x, qual, defArgs st, .stmts (defBody st), defScope st, mainGlobals, builtinsNs)) (c : ckFn K f qual = true) : ∃ oc od kV doc pm an cdv ct osl, K.lookup f = some ⟨oc, od, .func (PySem.W.fnOf x qual (defArgs st) (defBody st) (defScope st) .none kV doc pm an cdv ct), osl⟩ ∧ PySem.W.codeIn K cdv qual = true ∧ PySem.W.keepIn K (.ref f) = true := by
  obtain ⟨fd, F⟩ := fun_of e c
  obtain ⟨oc, od, kV, doc, pm, an, cdv, ct, osl, rfl, l, c2⟩ := F.ex
  exact ⟨oc, od, kV, doc, pm, an, cdv, ct, osl, l, c2, F.kp⟩
theorem fnlI_of {i : Int} (e : fnU K f = some (x, qual, defArgs st, .stmts (defBody st), defScope st, mainGlobals, builtinsNs)) (c : ckFnI K f qual i = true) : ∃ T oc od kV doc pm an cdv ct osl cT dT tT n slT, K.lookup f = some ⟨oc, od, .func (PySem.W.fnOf x qual (defArgs st) (defBody st) (defScope st) (.ref T) kV doc pm an cdv ct), osl⟩ ∧ PySem.W.codeIn K cdv qual = true ∧ PySem.W.keepIn K (.ref f) = true ∧
    K.lookup T = some ⟨cT, dT, .seq [Value.int i tT].toArray n, slT⟩ := by
  obtain ⟨fd, F⟩ := funI_of e c
  obtain ⟨oc, od, dV, kV, doc, pm, an, cdv, ct, osl, rfl, l, c2, hD, _⟩ := F.ex
  rcases hD with ⟨a1, a2⟩ | ⟨_, T, o, its, n, rfl, lT, hd, r⟩
  · first | exact absurd a2 (by simp) | exact absurd a1 (by simp)
  · obtain ⟨cT, dT, dt, slT⟩ := o
    dsimp only at hd
    subst hd
    match its, r with
    | [u], r =>
      obtain ⟨t, rfl⟩ : ∃ t, u = Value.int i t := by
        cases r with
        | cons a _ => exact a
      exact ⟨T, oc, od, kV, doc, pm, an, cdv, ct, osl, cT, dT, t, n, slT, l, c2, F.kp, lT⟩
theorem ckCls_ok2 (h : ckCls K D = true) : ∃ a b cd d, K.lookup D = some ⟨a, b, .cls cd, d⟩ := by
  unfold ckCls at h
  split at h
  · rename_i a b cd d e
    exact ⟨a, b, cd, d, e⟩
  · cases h
theorem nsInt_of {i : Int} (h : ckInt K x i = true) : ∃ t, PySem.W.nsIn K mainGlobals x = some (some (.int i t)) := by
  unfold ckInt at h
  split at h
  · rename_i j t e
    obtain rfl := of_decide_eq_true h
    exact ⟨t, e⟩
  · cases h
theorem nsStr_of (h : ckStr K x z = true) : ∃ t, PySem.W.nsIn K mainGlobals x = some (some (.str z t)) := by
  unfold ckStr at h
  split at h
  · rename_i j t e
    obtain rfl := of_decide_eq_true h
    exact ⟨t, e⟩
  · cases h
end
end L2.DS
namespace L2.DS
open PySem PySem.Spec PyProof.Rows
theorem all_mk {l : PySem.W.OpenLaw} {w : World} {K : PySem.W.Frag} {h : Heap} {mg : Str → Option Value} {fa : Addr} {CS : Addr} {CT : Addr} {CP : Addr} {CR : Addr} {CH : Addr} {f_Scale___init__ T_Scale___init__ : Addr} {od_Scale___init__ an_Scale___init__ : Option Addr} {sl_Scale___init__ : Array (Option Value)} {oc_Scale___init__ kV_Scale___init__ dc_Scale___init__ pm_Scale___init__ cd_Scale___init__ ct_Scale___init__ : Value} {cT : Value} {dT : Option Addr} {slT : Array (Option Value)} {tT : Tok} {nT : Nat} {tM : Tok} {tS : Tok} {f_is_table_name : Addr} {od_is_table_name an_is_table_name : Option Addr} {sl_is_table_name : Array (Option Value)} {oc_is_table_name kV_is_table_name dc_is_table_name pm_is_table_name cd_is_table_name ct_is_table_name : Value} {f_table_places : Addr} {od_table_places an_table_places : Option Addr} {sl_table_places : Array (Option Value)} {oc_table_places kV_table_places dc_table_places pm_table_places cd_table_places ct_table_places : Value} {tD : Tok} {f_depth_above : Addr} {od_depth_above an_depth_above : Option Addr} {sl_depth_above : Array (Option Value)} {oc_depth_above kV_depth_above dc_depth_above pm_depth_above cd_depth_above ct_depth_above : Value} {f_half_places : Addr} {od_half_places an_half_places : Option Addr} {sl_half_places : Array (Option Value)} {oc_half_places kV_half_places dc_half_places pm_half_places cd_half_places ct_half_places : Value} {f_Scale_then_at : Addr} {od_Scale_then_at an_Scale_then_at : Option Addr} {sl_Scale_then_at : Array (Option Value)} {oc_Scale_then_at kV_Scale_then_at dc_Scale_then_at pm_Scale_then_at cd_Scale_then_at ct_Scale_then_at : Value} {f_Scale_join_at : Addr} {od_Scale_join_at an_Scale_join_at : Option Addr} {sl_Scale_join_at : Array (Option Value)} {oc_Scale_join_at kV_Scale_join_at dc_Scale_join_at pm_Scale_join_at cd_Scale_join_at ct_Scale_join_at : Value} {f_Scale_name_at : Addr} {od_Scale_name_at an_Scale_name_at : Option Addr} {sl_Scale_name_at : Array (Option Value)} {oc_Scale_name_at kV_Scale_name_at dc_Scale_name_at pm_Scale_name_at cd_Scale_name_at ct_Scale_name_at : Value} {f_TableScale_make_then : Addr} {od_TableScale_make_then an_TableScale_make_then : Option Addr} {sl_TableScale_make_then : Array (Option Value)} {oc_TableScale_make_then kV_TableScale_make_then dc_TableScale_make_then pm_TableScale_make_then cd_TableScale_make_then ct_TableScale_make_then : Value} {f_TableScale_make_join : Addr} {od_TableScale_make_join an_TableScale_make_join : Option Addr} {sl_TableScale_make_join : Array (Option Value)} {oc_TableScale_make_join kV_TableScale_make_join dc_TableScale_make_join pm_TableScale_make_join cd_TableScale_make_join ct_TableScale_make_join : Value} {f_PairScale_make_then : Addr} {od_PairScale_make_then an_PairScale_make_then : Option Addr} {sl_PairScale_make_then : Array (Option Value)} {oc_PairScale_make_then kV_PairScale_make_then dc_PairScale_make_then pm_PairScale_make_then cd_PairScale_make_then ct_PairScale_make_then : Value} {f_PairScale_make_join : Addr} {od_PairScale_make_join an_PairScale_make_join : Option Addr} {sl_PairScale_make_join : Array (Option Value)} {oc_PairScale_make_join kV_PairScale_make_join dc_PairScale_make_join pm_PairScale_make_join cd_PairScale_make_join ct_PairScale_make_join : Value} {f_TurnedScale_make_then : Addr} {od_TurnedScale_make_then an_TurnedScale_make_then : Option Addr} {sl_TurnedScale_make_then : Array (Option Value)} {oc_TurnedScale_make_then kV_TurnedScale_make_then dc_TurnedScale_make_then pm_TurnedScale_make_then cd_TurnedScale_make_then ct_TurnedScale_make_then : Value} {f_TurnedScale_make_join : Addr} {od_TurnedScale_make_join an_TurnedScale_make_join : Option Addr} {sl_TurnedScale_make_join : Array (Option Value)} {oc_TurnedScale_make_join kV_TurnedScale_make_join dc_TurnedScale_make_join pm_TurnedScale_make_join cd_TurnedScale_make_join ct_TurnedScale_make_join : Value} {f_HeapScale_make_then : Addr} {od_HeapScale_make_then an_HeapScale_make_then : Option Addr} {sl_HeapScale_make_then : Array (Option Value)} {oc_HeapScale_make_then kV_HeapScale_make_then dc_HeapScale_make_then pm_HeapScale_make_then cd_HeapScale_make_then ct_HeapScale_make_then : Value} {f_HeapScale_make_join : Addr} {od_HeapScale_make_join an_HeapScale_make_join : Option Addr} {sl_HeapScale_make_join : Array (Option Value)} {oc_HeapScale_make_join kV_HeapScale_make_join dc_HeapScale_make_join pm_HeapScale_make_join cd_HeapScale_make_join ct_HeapScale_make_join : Value} {f_TableScale___init__ cda_TableScale___init__ cc_TableScale___init__ : Addr} {od_TableScale___init__ an_TableScale___init__ : Option Addr} {sl_TableScale___init__ : Array (Option Value)} {oc_TableScale___init__ kV_TableScale___init__ dc_TableScale___init__ pm_TableScale___init__ ct_TableScale___init__ : Value} {q1_TableScale___init__ q2_TableScale___init__ q3_TableScale___init__ : Value} {e1_TableScale___init__ e2_TableScale___init__ e3_TableScale___init__ : Option Addr} {g1_TableScale___init__ g2_TableScale___init__ g3_TableScale___init__ : Array (Option Value)} {vs_TableScale___init__ : Array Value} {fi_TableScale___init__ : Str} {tf_TableScale___init__ : Tok} {cl_TableScale___init__ : ClassData} {f_PairScale___init__ cda_PairScale___init__ cc_PairScale___init__ : Addr} {od_PairScale___init__ an_PairScale___init__ : Option Addr} {sl_PairScale___init__ : Array (Option Value)} {oc_PairScale___init__ kV_PairScale___init__ dc_PairScale___init__ pm_PairScale___init__ ct_PairScale___init__ : Value} {q1_PairScale___init__ q2_PairScale___init__ q3_PairScale___init__ : Value} {e1_PairScale___init__ e2_PairScale___init__ e3_PairScale___init__ : Option Addr} {g1_PairScale___init__ g2_PairScale___init__ g3_PairScale___init__ : Array (Option Value)} {vs_PairScale___init__ : Array Value} {fi_PairScale___init__ : Str} {tf_PairScale___init__ : Tok} {cl_PairScale___init__ : ClassData} {f_TurnedScale___init__ cda_TurnedScale___init__ cc_TurnedScale___init__ : Addr} {od_TurnedScale___init__ an_TurnedScale___init__ : Option Addr} {sl_TurnedScale___init__ : Array (Option Value)} {oc_TurnedScale___init__ kV_TurnedScale___init__ dc_TurnedScale___init__ pm_TurnedScale___init__ ct_TurnedScale___init__ : Value} {q1_TurnedScale___init__ q2_TurnedScale___init__ q3_TurnedScale___init__ : Value} {e1_TurnedScale___init__ e2_TurnedScale___init__ e3_TurnedScale___init__ : Option Addr} {g1_TurnedScale___init__ g2_TurnedScale___init__ g3_TurnedScale___init__ : Array (Option Value)} {vs_TurnedScale___init__ : Array Value} {fi_TurnedScale___init__ : Str} {tf_TurnedScale___init__ : Tok} {cl_TurnedScale___init__ : ClassData} {f_HeapScale___init__ cda_HeapScale___init__ cc_HeapScale___init__ : Addr} {od_HeapScale___init__ an_HeapScale___init__ : Option Addr} {sl_HeapScale___init__ : Array (Option Value)} {oc_HeapScale___init__ kV_HeapScale___init__ dc_HeapScale___init__ pm_HeapScale___init__ ct_HeapScale___init__ : Value} {q1_HeapScale___init__ q2_HeapScale___init__ q3_HeapScale___init__ : Value} {e1_HeapScale___init__ e2_HeapScale___init__ e3_HeapScale___init__ : Option Addr} {g1_HeapScale___init__ g2_HeapScale___init__ g3_HeapScale___init__ : Array (Option Value)} {vs_HeapScale___init__ : Array Value} {fi_HeapScale___init__ : Str} {tf_HeapScale___init__ : Tok} {cl_HeapScale___init__ : ClassData} {f__law_source : Addr} {od__law_source an__law_source : Option Addr} {sl__law_source : Array (Option Value)} {oc__law_source kV__law_source dc__law_source pm__law_source cd__law_source ct__law_source : Value} {f__law_pick : Addr} {od__law_pick an__law_pick : Option Addr} {sl__law_pick : Array (Option Value)} {oc__law_pick kV__law_pick dc__law_pick pm__law_pick cd__law_pick ct__law_pick : Value} {f__law_like : Addr} {od__law_like an__law_like : Option Addr} {sl__law_like : Array (Option Value)} {oc__law_like kV__law_like dc__law_like pm__law_like cd__law_like ct__law_like : Value} {f__law_join : Addr} {od__law_join an__law_join : Option Addr} {sl__law_join : Array (Option Value)} {oc__law_join kV__law_join dc__law_join pm__law_join cd__law_join ct__law_join : Value} {f__law_then : Addr} {od__law_then an__law_then : Option Addr} {sl__law_then : Array (Option Value)} {oc__law_then kV__law_then dc__law_then pm__law_then cd__law_then ct__law_then : Value} {f__law_tables : Addr} {od__law_tables an__law_tables : Option Addr} {sl__law_tables : Array (Option Value)} {oc__law_tables kV__law_tables dc__law_tables pm__law_tables cd__law_tables ct__law_tables : Value} {f__law_table_scale : Addr} {od__law_table_scale an__law_table_scale : Option Addr} {sl__law_table_scale : Array (Option Value)} {oc__law_table_scale kV__law_table_scale dc__law_table_scale pm__law_table_scale cd__law_table_scale ct__law_table_scale : Value} {f__law_fails : Addr} {od__law_fails an__law_fails : Option Addr} {sl__law_fails : Array (Option Value)} {oc__law_fails kV__law_fails dc__law_fails pm__law_fails cd__law_fails ct__law_fails : Value} {f__law_fault : Addr} {od__law_fault an__law_fault : Option Addr} {sl__law_fault : Array (Option Value)} {oc__law_fault kV__law_fault dc__law_fault pm__law_fault cd__law_fault ct__law_fault : Value} {f__law_scale_of : Addr} {od__law_scale_of an__law_scale_of : Option Addr} {sl__law_scale_of : Array (Option Value)} {oc__law_scale_of kV__law_scale_of dc__law_scale_of pm__law_scale_of cd__law_scale_of ct__law_scale_of : Value} {f__law_free : Addr} {od__law_free an__law_free : Option Addr} {sl__law_free : Array (Option Value)} {oc__law_free kV__law_free dc__law_free pm__law_free cd__law_free ct__law_free : Value} {f__law_change : Addr} {od__law_change an__law_change : Option Addr} {sl__law_change : Array (Option Value)} {oc__law_change kV__law_change dc__law_change pm__law_change cd__law_change ct__law_change : Value} {f__law_pair_right : Addr} {od__law_pair_right an__law_pair_right : Option Addr} {sl__law_pair_right : Array (Option Value)} {oc__law_pair_right kV__law_pair_right dc__law_pair_right pm__law_pair_right cd__law_pair_right ct__law_pair_right : Value} {f__law_heap_right : Addr} {od__law_heap_right an__law_heap_right : Option Addr} {sl__law_heap_right : Array (Option Value)} {oc__law_heap_right kV__law_heap_right dc__law_heap_right pm__law_heap_right cd__law_heap_right ct__law_heap_right : Value} {f_law : Addr} {od_law an_law : Option Addr} {sl_law : Array (Option Value)} {oc_law kV_law dc_law pm_law cd_law ct_law : Value} {f_join_same : Addr} {od_join_same an_join_same : Option Addr} {sl_join_same : Array (Option Value)} {oc_join_same kV_join_same dc_join_same pm_join_same cd_join_same ct_join_same : Value} {f_join_swap : Addr} {od_join_swap an_join_swap : Option Addr} {sl_join_swap : Array (Option Value)} {oc_join_swap kV_join_swap dc_join_swap pm_join_swap cd_join_swap ct_join_swap : Value} {f_join_group : Addr} {od_join_group an_join_group : Option Addr} {sl_join_group : Array (Option Value)} {oc_join_group kV_join_group dc_join_group pm_join_group cd_join_group ct_join_group : Value} {f_join_never : Addr} {od_join_never an_join_never : Option Addr} {sl_join_never : Array (Option Value)} {oc_join_never kV_join_never dc_join_never pm_join_never cd_join_never ct_join_never : Value} {f_then_group : Addr} {od_then_group an_then_group : Option Addr} {sl_then_group : Array (Option Value)} {oc_then_group kV_then_group dc_then_group pm_then_group cd_then_group ct_then_group : Value} {f_then_still : Addr} {od_then_still an_then_still : Option Addr} {sl_then_still : Array (Option Value)} {oc_then_still kV_then_still dc_then_still pm_then_still cd_then_still ct_then_still : Value} {f_then_never : Addr} {od_then_never an_then_never : Option Addr} {sl_then_never : Array (Option Value)} {oc_then_never kV_then_never dc_then_never pm_then_never cd_then_never ct_then_never : Value} {f_spread_left : Addr} {od_spread_left an_spread_left : Option Addr} {sl_spread_left : Array (Option Value)} {oc_spread_left kV_spread_left dc_spread_left pm_spread_left cd_spread_left ct_spread_left : Value} {f_spread_right : Addr} {od_spread_right an_spread_right : Option Addr} {sl_spread_right : Array (Option Value)} {oc_spread_right kV_spread_right dc_spread_right pm_spread_right cd_spread_right ct_spread_right : Value} {f_broken_at : Addr} {od_broken_at an_broken_at : Option Addr} {sl_broken_at : Array (Option Value)} {oc_broken_at kV_broken_at dc_broken_at pm_broken_at cd_broken_at ct_broken_at : Value} {f_first_fault : Addr} {od_first_fault an_first_fault : Option Addr} {sl_first_fault : Array (Option Value)} {oc_first_fault kV_first_fault dc_first_fault pm_first_fault cd_first_fault ct_first_fault : Value} {aR : Addr} {r0 r1 r2 r3 r4 r5 r6 r7 r8 : Addr} {dR dR0 dR1 dR2 dR3 dR4 dR5 dR6 dR7 dR8 : Option Addr} {nR nR0 nR1 nR2 nR3 nR4 nR5 nR6 nR7 nR8 : Nat} {slR slR0 slR1 slR2 slR3 slR4 slR5 slR6 slR7 slR8 : Array (Option Value)} {tw0 tw1 tw2 tw3 tw4 tw5 tw6 tw7 tw8 tl0 tl1 tl2 tl3 tl4 tl5 tl6 tl7 tl8 : Tok} (X : K.In h) (G : h.Ns mainGlobals mg) (hfa : mg "law" = some (.ref fa))
    (z_int : PySem.W.nsIn K mainGlobals "int" = some none)
    (z_abs : PySem.W.nsIn K mainGlobals "abs" = some none)
    (z_range : PySem.W.nsIn K mainGlobals "range" = some none)
    (z_len : PySem.W.nsIn K mainGlobals "len" = some none)
    (z_isinstance : PySem.W.nsIn K mainGlobals "isinstance" = some none)
    (z_bool : PySem.W.nsIn K mainGlobals "bool" = some none)
    (z_str : PySem.W.nsIn K mainGlobals "str" = some none)
    (z_list : PySem.W.nsIn K mainGlobals "list" = some none)
    (z_tuple : PySem.W.nsIn K mainGlobals "tuple" = some none)
    (z_dict : PySem.W.nsIn K mainGlobals "dict" = some none)
    (z_enumerate : PySem.W.nsIn K mainGlobals "enumerate" = some none)
    (z_zip : PySem.W.nsIn K mainGlobals "zip" = some none)
    (z_reversed : PySem.W.nsIn K mainGlobals "reversed" = some none)
    (z_ValueError : PySem.W.nsIn K mainGlobals "ValueError" = some none)
    (z_LookupError : PySem.W.nsIn K mainGlobals "LookupError" = some none)
    (z_KeyError : PySem.W.nsIn K mainGlobals "KeyError" = some none)
    (z_Exception : PySem.W.nsIn K mainGlobals "Exception" = some none)
    (z_super : PySem.W.nsIn K mainGlobals "super" = some none)
    (z_sum : PySem.W.nsIn K mainGlobals "sum" = some none)
    (z_any : PySem.W.nsIn K mainGlobals "any" = some none)
    (z_all : PySem.W.nsIn K mainGlobals "all" = some none)
    (z_sorted : PySem.W.nsIn K mainGlobals "sorted" = some none)
    (z_max : PySem.W.nsIn K mainGlobals "max" = some none)
    (z_min : PySem.W.nsIn K mainGlobals "min" = some none)
    (z_NotImplementedError : PySem.W.nsIn K mainGlobals "NotImplementedError" = some none)
    (z_set : PySem.W.nsIn K mainGlobals "set" = some none)
    (z_repr : PySem.W.nsIn K mainGlobals "repr" = some none)
    (opq : PySem.W.nsIn K cStatics "thirdparty.any" = some none)
    (top0 : (l.prog.main.scope.names.lookup ("super" : Str)).isSome = false)
    (a_CS : PySem.W.nsIn K mainGlobals "Scale" = some (some (.ref CS)))
    (a_CT : PySem.W.nsIn K mainGlobals "TableScale" = some (some (.ref CT)))
    (a_CP : PySem.W.nsIn K mainGlobals "PairScale" = some (some (.ref CP)))
    (a_CR : PySem.W.nsIn K mainGlobals "TurnedScale" = some (some (.ref CR)))
    (a_CH : PySem.W.nsIn K mainGlobals "HeapScale" = some (some (.ref CH)))
    (pg_CT : PySem.W.plainGet K CT Str.empty = true)
    (hd_CT : PySem.W.hasDictIn K CT = true)
    (po_CT : PySem.W.plainOver K CT = true)
    (sa_CT : PySem.W.findIn K (.ref CT) "__setattr__" = some (some (.builtin "object.__setattr__")))
    (na_CT_written_joins : PySem.W.findIn K (.ref CT) "written_joins" = some none)
    (na_CT_written_products : PySem.W.findIn K (.ref CT) "written_products" = some none)
    (na_CT_label : PySem.W.findIn K (.ref CT) "label" = some none)
    (na_CT_size : PySem.W.findIn K (.ref CT) "size" = some none)
    (na_CT_never_at : PySem.W.findIn K (.ref CT) "never_at" = some none)
    (na_CT_still_at : PySem.W.findIn K (.ref CT) "still_at" = some none)
    (na_CT_depth : PySem.W.findIn K (.ref CT) "depth" = some none)
    (na_CT_worth_names : PySem.W.findIn K (.ref CT) "worth_names" = some none)
    (na_CT_worth_places : PySem.W.findIn K (.ref CT) "worth_places" = some none)
    (na_CT_product_table : PySem.W.findIn K (.ref CT) "product_table" = some none)
    (na_CT_join_table : PySem.W.findIn K (.ref CT) "join_table" = some none)
    (pg_CP : PySem.W.plainGet K CP Str.empty = true)
    (hd_CP : PySem.W.hasDictIn K CP = true)
    (po_CP : PySem.W.plainOver K CP = true)
    (sa_CP : PySem.W.findIn K (.ref CP) "__setattr__" = some (some (.builtin "object.__setattr__")))
    (na_CP_left : PySem.W.findIn K (.ref CP) "left" = some none)
    (na_CP_right : PySem.W.findIn K (.ref CP) "right" = some none)
    (na_CP_label : PySem.W.findIn K (.ref CP) "label" = some none)
    (na_CP_size : PySem.W.findIn K (.ref CP) "size" = some none)
    (na_CP_never_at : PySem.W.findIn K (.ref CP) "never_at" = some none)
    (na_CP_still_at : PySem.W.findIn K (.ref CP) "still_at" = some none)
    (na_CP_depth : PySem.W.findIn K (.ref CP) "depth" = some none)
    (na_CP_worth_names : PySem.W.findIn K (.ref CP) "worth_names" = some none)
    (na_CP_worth_places : PySem.W.findIn K (.ref CP) "worth_places" = some none)
    (na_CP_product_table : PySem.W.findIn K (.ref CP) "product_table" = some none)
    (na_CP_join_table : PySem.W.findIn K (.ref CP) "join_table" = some none)
    (pg_CR : PySem.W.plainGet K CR Str.empty = true)
    (hd_CR : PySem.W.hasDictIn K CR = true)
    (po_CR : PySem.W.plainOver K CR = true)
    (sa_CR : PySem.W.findIn K (.ref CR) "__setattr__" = some (some (.builtin "object.__setattr__")))
    (na_CR_inner : PySem.W.findIn K (.ref CR) "inner" = some none)
    (na_CR_label : PySem.W.findIn K (.ref CR) "label" = some none)
    (na_CR_size : PySem.W.findIn K (.ref CR) "size" = some none)
    (na_CR_never_at : PySem.W.findIn K (.ref CR) "never_at" = some none)
    (na_CR_still_at : PySem.W.findIn K (.ref CR) "still_at" = some none)
    (na_CR_depth : PySem.W.findIn K (.ref CR) "depth" = some none)
    (na_CR_worth_names : PySem.W.findIn K (.ref CR) "worth_names" = some none)
    (na_CR_worth_places : PySem.W.findIn K (.ref CR) "worth_places" = some none)
    (na_CR_product_table : PySem.W.findIn K (.ref CR) "product_table" = some none)
    (na_CR_join_table : PySem.W.findIn K (.ref CR) "join_table" = some none)
    (pg_CH : PySem.W.plainGet K CH Str.empty = true)
    (hd_CH : PySem.W.hasDictIn K CH = true)
    (po_CH : PySem.W.plainOver K CH = true)
    (sa_CH : PySem.W.findIn K (.ref CH) "__setattr__" = some (some (.builtin "object.__setattr__")))
    (na_CH_inner : PySem.W.findIn K (.ref CH) "inner" = some none)
    (na_CH_heaps : PySem.W.findIn K (.ref CH) "heaps" = some none)
    (na_CH_label : PySem.W.findIn K (.ref CH) "label" = some none)
    (na_CH_size : PySem.W.findIn K (.ref CH) "size" = some none)
    (na_CH_never_at : PySem.W.findIn K (.ref CH) "never_at" = some none)
    (na_CH_still_at : PySem.W.findIn K (.ref CH) "still_at" = some none)
    (na_CH_depth : PySem.W.findIn K (.ref CH) "depth" = some none)
    (na_CH_worth_names : PySem.W.findIn K (.ref CH) "worth_names" = some none)
    (na_CH_worth_places : PySem.W.findIn K (.ref CH) "worth_places" = some none)
    (na_CH_product_table : PySem.W.findIn K (.ref CH) "product_table" = some none)
    (na_CH_join_table : PySem.W.findIn K (.ref CH) "join_table" = some none)
    (a_f_Scale___init__ : PySem.W.findIn K (.ref CS) "__init__" = some (some (.ref f_Scale___init__)))
    (l_Scale___init__ : K.lookup f_Scale___init__ = some ⟨oc_Scale___init__, od_Scale___init__, .func (PySem.W.fnOf "__init__" "Scale.__init__" (defArgs s_Scale___init__) (defBody s_Scale___init__) (defScope s_Scale___init__) (.ref T_Scale___init__) kV_Scale___init__ dc_Scale___init__ pm_Scale___init__ an_Scale___init__ cd_Scale___init__ ct_Scale___init__), sl_Scale___init__⟩)
    (c_Scale___init__ : PySem.W.codeIn K cd_Scale___init__ "Scale.__init__" = true)
    (k_Scale___init__ : PySem.W.keepIn K (.ref f_Scale___init__) = true)
    (lT : K.lookup T_Scale___init__ = some ⟨cT, dT, .seq [Value.int 1 tT].toArray nT, slT⟩)
    (fiS : PySem.W.fnIn K f_Scale___init__ = true)
    (tyS : PySem.W.typeIn K (.ref f_Scale___init__) = some (.type "function"))
    (gM : PySem.W.nsIn K mainGlobals "MOST_WORTHS" = some (some (.int 64 tM)))
    (gS : PySem.W.nsIn K mainGlobals "SIGNS" = some (some (.str signsL tS)))
    (a_f_is_table_name : PySem.W.nsIn K mainGlobals "is_table_name" = some (some (.ref f_is_table_name)))
    (l_is_table_name : K.lookup f_is_table_name = some ⟨oc_is_table_name, od_is_table_name, .func (PySem.W.fnOf "is_table_name" "is_table_name" (defArgs s_is_table_name) (defBody s_is_table_name) (defScope s_is_table_name) .none kV_is_table_name dc_is_table_name pm_is_table_name an_is_table_name cd_is_table_name ct_is_table_name), sl_is_table_name⟩)
    (c_is_table_name : PySem.W.codeIn K cd_is_table_name "is_table_name" = true)
    (k_is_table_name : PySem.W.keepIn K (.ref f_is_table_name) = true)
    (a_f_table_places : PySem.W.nsIn K mainGlobals "table_places" = some (some (.ref f_table_places)))
    (l_table_places : K.lookup f_table_places = some ⟨oc_table_places, od_table_places, .func (PySem.W.fnOf "table_places" "table_places" (defArgs s_table_places) (defBody s_table_places) (defScope s_table_places) .none kV_table_places dc_table_places pm_table_places an_table_places cd_table_places ct_table_places), sl_table_places⟩)
    (c_table_places : PySem.W.codeIn K cd_table_places "table_places" = true)
    (k_table_places : PySem.W.keepIn K (.ref f_table_places) = true)
    (gD : PySem.W.nsIn K mainGlobals "DEEPEST" = some (some (.int 10 tD)))
    (a_f_depth_above : PySem.W.nsIn K mainGlobals "depth_above" = some (some (.ref f_depth_above)))
    (l_depth_above : K.lookup f_depth_above = some ⟨oc_depth_above, od_depth_above, .func (PySem.W.fnOf "depth_above" "depth_above" (defArgs s_depth_above) (defBody s_depth_above) (defScope s_depth_above) .none kV_depth_above dc_depth_above pm_depth_above an_depth_above cd_depth_above ct_depth_above), sl_depth_above⟩)
    (c_depth_above : PySem.W.codeIn K cd_depth_above "depth_above" = true)
    (k_depth_above : PySem.W.keepIn K (.ref f_depth_above) = true)
    (a_f_half_places : PySem.W.nsIn K mainGlobals "half_places" = some (some (.ref f_half_places)))
    (l_half_places : K.lookup f_half_places = some ⟨oc_half_places, od_half_places, .func (PySem.W.fnOf "half_places" "half_places" (defArgs s_half_places) (defBody s_half_places) (defScope s_half_places) .none kV_half_places dc_half_places pm_half_places an_half_places cd_half_places ct_half_places), sl_half_places⟩)
    (c_half_places : PySem.W.codeIn K cd_half_places "half_places" = true)
    (k_half_places : PySem.W.keepIn K (.ref f_half_places) = true)
    (a_CT_f_Scale_then_at : PySem.W.findIn K (.ref CT) "then_at" = some (some (.ref f_Scale_then_at)))
    (i_Scale_then_at : PySem.W.isFn K (.ref f_Scale_then_at) = true)
    (l_Scale_then_at : K.lookup f_Scale_then_at = some ⟨oc_Scale_then_at, od_Scale_then_at, .func (PySem.W.fnOf "then_at" "Scale.then_at" (defArgs s_Scale_then_at) (defBody s_Scale_then_at) (defScope s_Scale_then_at) .none kV_Scale_then_at dc_Scale_then_at pm_Scale_then_at an_Scale_then_at cd_Scale_then_at ct_Scale_then_at), sl_Scale_then_at⟩)
    (c_Scale_then_at : PySem.W.codeIn K cd_Scale_then_at "Scale.then_at" = true)
    (k_Scale_then_at : PySem.W.keepIn K (.ref f_Scale_then_at) = true)
    (a_CP_f_Scale_then_at : PySem.W.findIn K (.ref CP) "then_at" = some (some (.ref f_Scale_then_at)))
    (a_CR_f_Scale_then_at : PySem.W.findIn K (.ref CR) "then_at" = some (some (.ref f_Scale_then_at)))
    (a_CH_f_Scale_then_at : PySem.W.findIn K (.ref CH) "then_at" = some (some (.ref f_Scale_then_at)))
    (a_CT_f_Scale_join_at : PySem.W.findIn K (.ref CT) "join_at" = some (some (.ref f_Scale_join_at)))
    (i_Scale_join_at : PySem.W.isFn K (.ref f_Scale_join_at) = true)
    (l_Scale_join_at : K.lookup f_Scale_join_at = some ⟨oc_Scale_join_at, od_Scale_join_at, .func (PySem.W.fnOf "join_at" "Scale.join_at" (defArgs s_Scale_join_at) (defBody s_Scale_join_at) (defScope s_Scale_join_at) .none kV_Scale_join_at dc_Scale_join_at pm_Scale_join_at an_Scale_join_at cd_Scale_join_at ct_Scale_join_at), sl_Scale_join_at⟩)
    (c_Scale_join_at : PySem.W.codeIn K cd_Scale_join_at "Scale.join_at" = true)
    (k_Scale_join_at : PySem.W.keepIn K (.ref f_Scale_join_at) = true)
    (a_CP_f_Scale_join_at : PySem.W.findIn K (.ref CP) "join_at" = some (some (.ref f_Scale_join_at)))
    (a_CR_f_Scale_join_at : PySem.W.findIn K (.ref CR) "join_at" = some (some (.ref f_Scale_join_at)))
    (a_CH_f_Scale_join_at : PySem.W.findIn K (.ref CH) "join_at" = some (some (.ref f_Scale_join_at)))
    (a_CT_f_Scale_name_at : PySem.W.findIn K (.ref CT) "name_at" = some (some (.ref f_Scale_name_at)))
    (i_Scale_name_at : PySem.W.isFn K (.ref f_Scale_name_at) = true)
    (l_Scale_name_at : K.lookup f_Scale_name_at = some ⟨oc_Scale_name_at, od_Scale_name_at, .func (PySem.W.fnOf "name_at" "Scale.name_at" (defArgs s_Scale_name_at) (defBody s_Scale_name_at) (defScope s_Scale_name_at) .none kV_Scale_name_at dc_Scale_name_at pm_Scale_name_at an_Scale_name_at cd_Scale_name_at ct_Scale_name_at), sl_Scale_name_at⟩)
    (c_Scale_name_at : PySem.W.codeIn K cd_Scale_name_at "Scale.name_at" = true)
    (k_Scale_name_at : PySem.W.keepIn K (.ref f_Scale_name_at) = true)
    (a_CP_f_Scale_name_at : PySem.W.findIn K (.ref CP) "name_at" = some (some (.ref f_Scale_name_at)))
    (a_CR_f_Scale_name_at : PySem.W.findIn K (.ref CR) "name_at" = some (some (.ref f_Scale_name_at)))
    (a_CH_f_Scale_name_at : PySem.W.findIn K (.ref CH) "name_at" = some (some (.ref f_Scale_name_at)))
    (a_CT_f_TableScale_make_then : PySem.W.findIn K (.ref CT) "make_then" = some (some (.ref f_TableScale_make_then)))
    (i_TableScale_make_then : PySem.W.isFn K (.ref f_TableScale_make_then) = true)
    (l_TableScale_make_then : K.lookup f_TableScale_make_then = some ⟨oc_TableScale_make_then, od_TableScale_make_then, .func (PySem.W.fnOf "make_then" "TableScale.make_then" (defArgs s_TableScale_make_then) (defBody s_TableScale_make_then) (defScope s_TableScale_make_then) .none kV_TableScale_make_then dc_TableScale_make_then pm_TableScale_make_then an_TableScale_make_then cd_TableScale_make_then ct_TableScale_make_then), sl_TableScale_make_then⟩)
    (c_TableScale_make_then : PySem.W.codeIn K cd_TableScale_make_then "TableScale.make_then" = true)
    (k_TableScale_make_then : PySem.W.keepIn K (.ref f_TableScale_make_then) = true)
    (a_CT_f_TableScale_make_join : PySem.W.findIn K (.ref CT) "make_join" = some (some (.ref f_TableScale_make_join)))
    (i_TableScale_make_join : PySem.W.isFn K (.ref f_TableScale_make_join) = true)
    (l_TableScale_make_join : K.lookup f_TableScale_make_join = some ⟨oc_TableScale_make_join, od_TableScale_make_join, .func (PySem.W.fnOf "make_join" "TableScale.make_join" (defArgs s_TableScale_make_join) (defBody s_TableScale_make_join) (defScope s_TableScale_make_join) .none kV_TableScale_make_join dc_TableScale_make_join pm_TableScale_make_join an_TableScale_make_join cd_TableScale_make_join ct_TableScale_make_join), sl_TableScale_make_join⟩)
    (c_TableScale_make_join : PySem.W.codeIn K cd_TableScale_make_join "TableScale.make_join" = true)
    (k_TableScale_make_join : PySem.W.keepIn K (.ref f_TableScale_make_join) = true)
    (a_CP_f_PairScale_make_then : PySem.W.findIn K (.ref CP) "make_then" = some (some (.ref f_PairScale_make_then)))
    (i_PairScale_make_then : PySem.W.isFn K (.ref f_PairScale_make_then) = true)
    (l_PairScale_make_then : K.lookup f_PairScale_make_then = some ⟨oc_PairScale_make_then, od_PairScale_make_then, .func (PySem.W.fnOf "make_then" "PairScale.make_then" (defArgs s_PairScale_make_then) (defBody s_PairScale_make_then) (defScope s_PairScale_make_then) .none kV_PairScale_make_then dc_PairScale_make_then pm_PairScale_make_then an_PairScale_make_then cd_PairScale_make_then ct_PairScale_make_then), sl_PairScale_make_then⟩)
    (c_PairScale_make_then : PySem.W.codeIn K cd_PairScale_make_then "PairScale.make_then" = true)
    (k_PairScale_make_then : PySem.W.keepIn K (.ref f_PairScale_make_then) = true)
    (a_CP_f_PairScale_make_join : PySem.W.findIn K (.ref CP) "make_join" = some (some (.ref f_PairScale_make_join)))
    (i_PairScale_make_join : PySem.W.isFn K (.ref f_PairScale_make_join) = true)
    (l_PairScale_make_join : K.lookup f_PairScale_make_join = some ⟨oc_PairScale_make_join, od_PairScale_make_join, .func (PySem.W.fnOf "make_join" "PairScale.make_join" (defArgs s_PairScale_make_join) (defBody s_PairScale_make_join) (defScope s_PairScale_make_join) .none kV_PairScale_make_join dc_PairScale_make_join pm_PairScale_make_join an_PairScale_make_join cd_PairScale_make_join ct_PairScale_make_join), sl_PairScale_make_join⟩)
    (c_PairScale_make_join : PySem.W.codeIn K cd_PairScale_make_join "PairScale.make_join" = true)
    (k_PairScale_make_join : PySem.W.keepIn K (.ref f_PairScale_make_join) = true)
    (a_CR_f_TurnedScale_make_then : PySem.W.findIn K (.ref CR) "make_then" = some (some (.ref f_TurnedScale_make_then)))
    (i_TurnedScale_make_then : PySem.W.isFn K (.ref f_TurnedScale_make_then) = true)
    (l_TurnedScale_make_then : K.lookup f_TurnedScale_make_then = some ⟨oc_TurnedScale_make_then, od_TurnedScale_make_then, .func (PySem.W.fnOf "make_then" "TurnedScale.make_then" (defArgs s_TurnedScale_make_then) (defBody s_TurnedScale_make_then) (defScope s_TurnedScale_make_then) .none kV_TurnedScale_make_then dc_TurnedScale_make_then pm_TurnedScale_make_then an_TurnedScale_make_then cd_TurnedScale_make_then ct_TurnedScale_make_then), sl_TurnedScale_make_then⟩)
    (c_TurnedScale_make_then : PySem.W.codeIn K cd_TurnedScale_make_then "TurnedScale.make_then" = true)
    (k_TurnedScale_make_then : PySem.W.keepIn K (.ref f_TurnedScale_make_then) = true)
    (a_CR_f_TurnedScale_make_join : PySem.W.findIn K (.ref CR) "make_join" = some (some (.ref f_TurnedScale_make_join)))
    (i_TurnedScale_make_join : PySem.W.isFn K (.ref f_TurnedScale_make_join) = true)
    (l_TurnedScale_make_join : K.lookup f_TurnedScale_make_join = some ⟨oc_TurnedScale_make_join, od_TurnedScale_make_join, .func (PySem.W.fnOf "make_join" "TurnedScale.make_join" (defArgs s_TurnedScale_make_join) (defBody s_TurnedScale_make_join) (defScope s_TurnedScale_make_join) .none kV_TurnedScale_make_join dc_TurnedScale_make_join pm_TurnedScale_make_join an_TurnedScale_make_join cd_TurnedScale_make_join ct_TurnedScale_make_join), sl_TurnedScale_make_join⟩)
    (c_TurnedScale_make_join : PySem.W.codeIn K cd_TurnedScale_make_join "TurnedScale.make_join" = true)
    (k_TurnedScale_make_join : PySem.W.keepIn K (.ref f_TurnedScale_make_join) = true)
    (a_CH_f_HeapScale_make_then : PySem.W.findIn K (.ref CH) "make_then" = some (some (.ref f_HeapScale_make_then)))
    (i_HeapScale_make_then : PySem.W.isFn K (.ref f_HeapScale_make_then) = true)
    (l_HeapScale_make_then : K.lookup f_HeapScale_make_then = some ⟨oc_HeapScale_make_then, od_HeapScale_make_then, .func (PySem.W.fnOf "make_then" "HeapScale.make_then" (defArgs s_HeapScale_make_then) (defBody s_HeapScale_make_then) (defScope s_HeapScale_make_then) .none kV_HeapScale_make_then dc_HeapScale_make_then pm_HeapScale_make_then an_HeapScale_make_then cd_HeapScale_make_then ct_HeapScale_make_then), sl_HeapScale_make_then⟩)
    (c_HeapScale_make_then : PySem.W.codeIn K cd_HeapScale_make_then "HeapScale.make_then" = true)
    (k_HeapScale_make_then : PySem.W.keepIn K (.ref f_HeapScale_make_then) = true)
    (a_CH_f_HeapScale_make_join : PySem.W.findIn K (.ref CH) "make_join" = some (some (.ref f_HeapScale_make_join)))
    (i_HeapScale_make_join : PySem.W.isFn K (.ref f_HeapScale_make_join) = true)
    (l_HeapScale_make_join : K.lookup f_HeapScale_make_join = some ⟨oc_HeapScale_make_join, od_HeapScale_make_join, .func (PySem.W.fnOf "make_join" "HeapScale.make_join" (defArgs s_HeapScale_make_join) (defBody s_HeapScale_make_join) (defScope s_HeapScale_make_join) .none kV_HeapScale_make_join dc_HeapScale_make_join pm_HeapScale_make_join an_HeapScale_make_join cd_HeapScale_make_join ct_HeapScale_make_join), sl_HeapScale_make_join⟩)
    (c_HeapScale_make_join : PySem.W.codeIn K cd_HeapScale_make_join "HeapScale.make_join" = true)
    (k_HeapScale_make_join : PySem.W.keepIn K (.ref f_HeapScale_make_join) = true)
    (a_f_TableScale___init__ : PySem.W.findIn K (.ref CT) "__init__" = some (some (.ref f_TableScale___init__)))
    (ty_TableScale___init__ : PySem.W.typeIn K (.ref f_TableScale___init__) = some (.type "function"))
    (l_TableScale___init__ : K.lookup f_TableScale___init__ = some ⟨oc_TableScale___init__, od_TableScale___init__, .func (PySem.W.fnX "__init__" "TableScale.__init__" (defArgs s_TableScale___init__) (defBody s_TableScale___init__) (defScope s_TableScale___init__) [("__class__", cc_TableScale___init__)] .none kV_TableScale___init__ dc_TableScale___init__ pm_TableScale___init__ an_TableScale___init__ (.ref cda_TableScale___init__) ct_TableScale___init__), sl_TableScale___init__⟩)
    (c_TableScale___init__ : PySem.W.codeIn K (.ref cda_TableScale___init__) "TableScale.__init__" = true)
    (lc_TableScale___init__ : K.lookup cda_TableScale___init__ = some ⟨q1_TableScale___init__, e1_TableScale___init__, .fields vs_TableScale___init__, g1_TableScale___init__⟩)
    (hv_TableScale___init__ : vs_TableScale___init__[2]? = some (.str fi_TableScale___init__ tf_TableScale___init__))
    (hf_TableScale___init__ : ((l.prog.main.file : Str) == fi_TableScale___init__) = true)
    (lx_TableScale___init__ : K.lookup cc_TableScale___init__ = some ⟨q2_TableScale___init__, e2_TableScale___init__, .cell (some (.ref CT)), g2_TableScale___init__⟩)
    (lD_TableScale___init__ : K.lookup CT = some ⟨q3_TableScale___init__, e3_TableScale___init__, .cls cl_TableScale___init__, g3_TableScale___init__⟩)
    (k_TableScale___init__ : PySem.W.keepIn K (.ref f_TableScale___init__) = true)
    (fi2_TableScale___init__ : PySem.W.fnIn K f_TableScale___init__ = true)
    (mCT : PySem.W.mroIn K CT (.ref CT) = some true)
    (sCT : PySem.W.ks_superIn K CT CT "__init__" = some (some (.ref f_Scale___init__)))
    (mk_CT : PySem.W.makesIn K CT = true)
    (fnCT : PySem.W.isFn K (.ref f_TableScale___init__) = true)
    (kp_CT : PySem.W.keepIn K (.ref CT) = true)
    (a_f_PairScale___init__ : PySem.W.findIn K (.ref CP) "__init__" = some (some (.ref f_PairScale___init__)))
    (ty_PairScale___init__ : PySem.W.typeIn K (.ref f_PairScale___init__) = some (.type "function"))
    (l_PairScale___init__ : K.lookup f_PairScale___init__ = some ⟨oc_PairScale___init__, od_PairScale___init__, .func (PySem.W.fnX "__init__" "PairScale.__init__" (defArgs s_PairScale___init__) (defBody s_PairScale___init__) (defScope s_PairScale___init__) [("__class__", cc_PairScale___init__)] .none kV_PairScale___init__ dc_PairScale___init__ pm_PairScale___init__ an_PairScale___init__ (.ref cda_PairScale___init__) ct_PairScale___init__), sl_PairScale___init__⟩)
    (c_PairScale___init__ : PySem.W.codeIn K (.ref cda_PairScale___init__) "PairScale.__init__" = true)
    (lc_PairScale___init__ : K.lookup cda_PairScale___init__ = some ⟨q1_PairScale___init__, e1_PairScale___init__, .fields vs_PairScale___init__, g1_PairScale___init__⟩)
    (hv_PairScale___init__ : vs_PairScale___init__[2]? = some (.str fi_PairScale___init__ tf_PairScale___init__))
    (hf_PairScale___init__ : ((l.prog.main.file : Str) == fi_PairScale___init__) = true)
    (lx_PairScale___init__ : K.lookup cc_PairScale___init__ = some ⟨q2_PairScale___init__, e2_PairScale___init__, .cell (some (.ref CP)), g2_PairScale___init__⟩)
    (lD_PairScale___init__ : K.lookup CP = some ⟨q3_PairScale___init__, e3_PairScale___init__, .cls cl_PairScale___init__, g3_PairScale___init__⟩)
    (k_PairScale___init__ : PySem.W.keepIn K (.ref f_PairScale___init__) = true)
    (fi2_PairScale___init__ : PySem.W.fnIn K f_PairScale___init__ = true)
    (mCP : PySem.W.mroIn K CP (.ref CP) = some true)
    (sCP : PySem.W.ks_superIn K CP CP "__init__" = some (some (.ref f_Scale___init__)))
    (mk_CP : PySem.W.makesIn K CP = true)
    (fnCP : PySem.W.isFn K (.ref f_PairScale___init__) = true)
    (kp_CP : PySem.W.keepIn K (.ref CP) = true)
    (a_f_TurnedScale___init__ : PySem.W.findIn K (.ref CR) "__init__" = some (some (.ref f_TurnedScale___init__)))
    (ty_TurnedScale___init__ : PySem.W.typeIn K (.ref f_TurnedScale___init__) = some (.type "function"))
    (l_TurnedScale___init__ : K.lookup f_TurnedScale___init__ = some ⟨oc_TurnedScale___init__, od_TurnedScale___init__, .func (PySem.W.fnX "__init__" "TurnedScale.__init__" (defArgs s_TurnedScale___init__) (defBody s_TurnedScale___init__) (defScope s_TurnedScale___init__) [("__class__", cc_TurnedScale___init__)] .none kV_TurnedScale___init__ dc_TurnedScale___init__ pm_TurnedScale___init__ an_TurnedScale___init__ (.ref cda_TurnedScale___init__) ct_TurnedScale___init__), sl_TurnedScale___init__⟩)
    (c_TurnedScale___init__ : PySem.W.codeIn K (.ref cda_TurnedScale___init__) "TurnedScale.__init__" = true)
    (lc_TurnedScale___init__ : K.lookup cda_TurnedScale___init__ = some ⟨q1_TurnedScale___init__, e1_TurnedScale___init__, .fields vs_TurnedScale___init__, g1_TurnedScale___init__⟩)
    (hv_TurnedScale___init__ : vs_TurnedScale___init__[2]? = some (.str fi_TurnedScale___init__ tf_TurnedScale___init__))
    (hf_TurnedScale___init__ : ((l.prog.main.file : Str) == fi_TurnedScale___init__) = true)
    (lx_TurnedScale___init__ : K.lookup cc_TurnedScale___init__ = some ⟨q2_TurnedScale___init__, e2_TurnedScale___init__, .cell (some (.ref CR)), g2_TurnedScale___init__⟩)
    (lD_TurnedScale___init__ : K.lookup CR = some ⟨q3_TurnedScale___init__, e3_TurnedScale___init__, .cls cl_TurnedScale___init__, g3_TurnedScale___init__⟩)
    (k_TurnedScale___init__ : PySem.W.keepIn K (.ref f_TurnedScale___init__) = true)
    (fi2_TurnedScale___init__ : PySem.W.fnIn K f_TurnedScale___init__ = true)
    (mCR : PySem.W.mroIn K CR (.ref CR) = some true)
    (sCR : PySem.W.ks_superIn K CR CR "__init__" = some (some (.ref f_Scale___init__)))
    (mk_CR : PySem.W.makesIn K CR = true)
    (fnCR : PySem.W.isFn K (.ref f_TurnedScale___init__) = true)
    (kp_CR : PySem.W.keepIn K (.ref CR) = true)
    (a_f_HeapScale___init__ : PySem.W.findIn K (.ref CH) "__init__" = some (some (.ref f_HeapScale___init__)))
    (ty_HeapScale___init__ : PySem.W.typeIn K (.ref f_HeapScale___init__) = some (.type "function"))
    (l_HeapScale___init__ : K.lookup f_HeapScale___init__ = some ⟨oc_HeapScale___init__, od_HeapScale___init__, .func (PySem.W.fnX "__init__" "HeapScale.__init__" (defArgs s_HeapScale___init__) (defBody s_HeapScale___init__) (defScope s_HeapScale___init__) [("__class__", cc_HeapScale___init__)] .none kV_HeapScale___init__ dc_HeapScale___init__ pm_HeapScale___init__ an_HeapScale___init__ (.ref cda_HeapScale___init__) ct_HeapScale___init__), sl_HeapScale___init__⟩)
    (c_HeapScale___init__ : PySem.W.codeIn K (.ref cda_HeapScale___init__) "HeapScale.__init__" = true)
    (lc_HeapScale___init__ : K.lookup cda_HeapScale___init__ = some ⟨q1_HeapScale___init__, e1_HeapScale___init__, .fields vs_HeapScale___init__, g1_HeapScale___init__⟩)
    (hv_HeapScale___init__ : vs_HeapScale___init__[2]? = some (.str fi_HeapScale___init__ tf_HeapScale___init__))
    (hf_HeapScale___init__ : ((l.prog.main.file : Str) == fi_HeapScale___init__) = true)
    (lx_HeapScale___init__ : K.lookup cc_HeapScale___init__ = some ⟨q2_HeapScale___init__, e2_HeapScale___init__, .cell (some (.ref CH)), g2_HeapScale___init__⟩)
    (lD_HeapScale___init__ : K.lookup CH = some ⟨q3_HeapScale___init__, e3_HeapScale___init__, .cls cl_HeapScale___init__, g3_HeapScale___init__⟩)
    (k_HeapScale___init__ : PySem.W.keepIn K (.ref f_HeapScale___init__) = true)
    (fi2_HeapScale___init__ : PySem.W.fnIn K f_HeapScale___init__ = true)
    (mCH : PySem.W.mroIn K CH (.ref CH) = some true)
    (sCH : PySem.W.ks_superIn K CH CH "__init__" = some (some (.ref f_Scale___init__)))
    (mk_CH : PySem.W.makesIn K CH = true)
    (fnCH : PySem.W.isFn K (.ref f_HeapScale___init__) = true)
    (kp_CH : PySem.W.keepIn K (.ref CH) = true)
    (a_f__law_source : PySem.W.nsIn K mainGlobals "_law_source" = some (some (.ref f__law_source)))
    (l__law_source : K.lookup f__law_source = some ⟨oc__law_source, od__law_source, .func (PySem.W.fnOf "_law_source" "_law_source" (defArgs s__law_source) (defBody s__law_source) (defScope s__law_source) .none kV__law_source dc__law_source pm__law_source an__law_source cd__law_source ct__law_source), sl__law_source⟩)
    (c__law_source : PySem.W.codeIn K cd__law_source "_law_source" = true)
    (k__law_source : PySem.W.keepIn K (.ref f__law_source) = true)
    (a_f__law_pick : PySem.W.nsIn K mainGlobals "_law_pick" = some (some (.ref f__law_pick)))
    (l__law_pick : K.lookup f__law_pick = some ⟨oc__law_pick, od__law_pick, .func (PySem.W.fnOf "_law_pick" "_law_pick" (defArgs s__law_pick) (defBody s__law_pick) (defScope s__law_pick) .none kV__law_pick dc__law_pick pm__law_pick an__law_pick cd__law_pick ct__law_pick), sl__law_pick⟩)
    (c__law_pick : PySem.W.codeIn K cd__law_pick "_law_pick" = true)
    (k__law_pick : PySem.W.keepIn K (.ref f__law_pick) = true)
    (a_f__law_like : PySem.W.nsIn K mainGlobals "_law_like" = some (some (.ref f__law_like)))
    (l__law_like : K.lookup f__law_like = some ⟨oc__law_like, od__law_like, .func (PySem.W.fnOf "_law_like" "_law_like" (defArgs s__law_like) (defBody s__law_like) (defScope s__law_like) .none kV__law_like dc__law_like pm__law_like an__law_like cd__law_like ct__law_like), sl__law_like⟩)
    (c__law_like : PySem.W.codeIn K cd__law_like "_law_like" = true)
    (k__law_like : PySem.W.keepIn K (.ref f__law_like) = true)
    (a_f__law_join : PySem.W.nsIn K mainGlobals "_law_join" = some (some (.ref f__law_join)))
    (l__law_join : K.lookup f__law_join = some ⟨oc__law_join, od__law_join, .func (PySem.W.fnOf "_law_join" "_law_join" (defArgs s__law_join) (defBody s__law_join) (defScope s__law_join) .none kV__law_join dc__law_join pm__law_join an__law_join cd__law_join ct__law_join), sl__law_join⟩)
    (c__law_join : PySem.W.codeIn K cd__law_join "_law_join" = true)
    (k__law_join : PySem.W.keepIn K (.ref f__law_join) = true)
    (a_f__law_then : PySem.W.nsIn K mainGlobals "_law_then" = some (some (.ref f__law_then)))
    (l__law_then : K.lookup f__law_then = some ⟨oc__law_then, od__law_then, .func (PySem.W.fnOf "_law_then" "_law_then" (defArgs s__law_then) (defBody s__law_then) (defScope s__law_then) .none kV__law_then dc__law_then pm__law_then an__law_then cd__law_then ct__law_then), sl__law_then⟩)
    (c__law_then : PySem.W.codeIn K cd__law_then "_law_then" = true)
    (k__law_then : PySem.W.keepIn K (.ref f__law_then) = true)
    (a_f__law_tables : PySem.W.nsIn K mainGlobals "_law_tables" = some (some (.ref f__law_tables)))
    (l__law_tables : K.lookup f__law_tables = some ⟨oc__law_tables, od__law_tables, .func (PySem.W.fnOf "_law_tables" "_law_tables" (defArgs s__law_tables) (defBody s__law_tables) (defScope s__law_tables) .none kV__law_tables dc__law_tables pm__law_tables an__law_tables cd__law_tables ct__law_tables), sl__law_tables⟩)
    (c__law_tables : PySem.W.codeIn K cd__law_tables "_law_tables" = true)
    (k__law_tables : PySem.W.keepIn K (.ref f__law_tables) = true)
    (a_f__law_table_scale : PySem.W.nsIn K mainGlobals "_law_table_scale" = some (some (.ref f__law_table_scale)))
    (l__law_table_scale : K.lookup f__law_table_scale = some ⟨oc__law_table_scale, od__law_table_scale, .func (PySem.W.fnOf "_law_table_scale" "_law_table_scale" (defArgs s__law_table_scale) (defBody s__law_table_scale) (defScope s__law_table_scale) .none kV__law_table_scale dc__law_table_scale pm__law_table_scale an__law_table_scale cd__law_table_scale ct__law_table_scale), sl__law_table_scale⟩)
    (c__law_table_scale : PySem.W.codeIn K cd__law_table_scale "_law_table_scale" = true)
    (k__law_table_scale : PySem.W.keepIn K (.ref f__law_table_scale) = true)
    (a_f__law_fails : PySem.W.nsIn K mainGlobals "_law_fails" = some (some (.ref f__law_fails)))
    (l__law_fails : K.lookup f__law_fails = some ⟨oc__law_fails, od__law_fails, .func (PySem.W.fnOf "_law_fails" "_law_fails" (defArgs s__law_fails) (defBody s__law_fails) (defScope s__law_fails) .none kV__law_fails dc__law_fails pm__law_fails an__law_fails cd__law_fails ct__law_fails), sl__law_fails⟩)
    (c__law_fails : PySem.W.codeIn K cd__law_fails "_law_fails" = true)
    (k__law_fails : PySem.W.keepIn K (.ref f__law_fails) = true)
    (a_f__law_fault : PySem.W.nsIn K mainGlobals "_law_fault" = some (some (.ref f__law_fault)))
    (l__law_fault : K.lookup f__law_fault = some ⟨oc__law_fault, od__law_fault, .func (PySem.W.fnOf "_law_fault" "_law_fault" (defArgs s__law_fault) (defBody s__law_fault) (defScope s__law_fault) .none kV__law_fault dc__law_fault pm__law_fault an__law_fault cd__law_fault ct__law_fault), sl__law_fault⟩)
    (c__law_fault : PySem.W.codeIn K cd__law_fault "_law_fault" = true)
    (k__law_fault : PySem.W.keepIn K (.ref f__law_fault) = true)
    (a_f__law_scale_of : PySem.W.nsIn K mainGlobals "_law_scale_of" = some (some (.ref f__law_scale_of)))
    (l__law_scale_of : K.lookup f__law_scale_of = some ⟨oc__law_scale_of, od__law_scale_of, .func (PySem.W.fnOf "_law_scale_of" "_law_scale_of" (defArgs s__law_scale_of) (defBody s__law_scale_of) (defScope s__law_scale_of) .none kV__law_scale_of dc__law_scale_of pm__law_scale_of an__law_scale_of cd__law_scale_of ct__law_scale_of), sl__law_scale_of⟩)
    (c__law_scale_of : PySem.W.codeIn K cd__law_scale_of "_law_scale_of" = true)
    (k__law_scale_of : PySem.W.keepIn K (.ref f__law_scale_of) = true)
    (a_f__law_free : PySem.W.nsIn K mainGlobals "_law_free" = some (some (.ref f__law_free)))
    (l__law_free : K.lookup f__law_free = some ⟨oc__law_free, od__law_free, .func (PySem.W.fnOf "_law_free" "_law_free" (defArgs s__law_free) (defBody s__law_free) (defScope s__law_free) .none kV__law_free dc__law_free pm__law_free an__law_free cd__law_free ct__law_free), sl__law_free⟩)
    (c__law_free : PySem.W.codeIn K cd__law_free "_law_free" = true)
    (k__law_free : PySem.W.keepIn K (.ref f__law_free) = true)
    (a_f__law_change : PySem.W.nsIn K mainGlobals "_law_change" = some (some (.ref f__law_change)))
    (l__law_change : K.lookup f__law_change = some ⟨oc__law_change, od__law_change, .func (PySem.W.fnOf "_law_change" "_law_change" (defArgs s__law_change) (defBody s__law_change) (defScope s__law_change) .none kV__law_change dc__law_change pm__law_change an__law_change cd__law_change ct__law_change), sl__law_change⟩)
    (c__law_change : PySem.W.codeIn K cd__law_change "_law_change" = true)
    (k__law_change : PySem.W.keepIn K (.ref f__law_change) = true)
    (a_f__law_pair_right : PySem.W.nsIn K mainGlobals "_law_pair_right" = some (some (.ref f__law_pair_right)))
    (l__law_pair_right : K.lookup f__law_pair_right = some ⟨oc__law_pair_right, od__law_pair_right, .func (PySem.W.fnOf "_law_pair_right" "_law_pair_right" (defArgs s__law_pair_right) (defBody s__law_pair_right) (defScope s__law_pair_right) .none kV__law_pair_right dc__law_pair_right pm__law_pair_right an__law_pair_right cd__law_pair_right ct__law_pair_right), sl__law_pair_right⟩)
    (c__law_pair_right : PySem.W.codeIn K cd__law_pair_right "_law_pair_right" = true)
    (k__law_pair_right : PySem.W.keepIn K (.ref f__law_pair_right) = true)
    (a_f__law_heap_right : PySem.W.nsIn K mainGlobals "_law_heap_right" = some (some (.ref f__law_heap_right)))
    (l__law_heap_right : K.lookup f__law_heap_right = some ⟨oc__law_heap_right, od__law_heap_right, .func (PySem.W.fnOf "_law_heap_right" "_law_heap_right" (defArgs s__law_heap_right) (defBody s__law_heap_right) (defScope s__law_heap_right) .none kV__law_heap_right dc__law_heap_right pm__law_heap_right an__law_heap_right cd__law_heap_right ct__law_heap_right), sl__law_heap_right⟩)
    (c__law_heap_right : PySem.W.codeIn K cd__law_heap_right "_law_heap_right" = true)
    (k__law_heap_right : PySem.W.keepIn K (.ref f__law_heap_right) = true)
    (a_f_law : PySem.W.nsIn K mainGlobals "law" = some (some (.ref f_law)))
    (l_law : K.lookup f_law = some ⟨oc_law, od_law, .func (PySem.W.fnOf "law" "law" (defArgs s_law) (defBody s_law) (defScope s_law) .none kV_law dc_law pm_law an_law cd_law ct_law), sl_law⟩)
    (c_law : PySem.W.codeIn K cd_law "law" = true)
    (k_law : PySem.W.keepIn K (.ref f_law) = true)
    (a_f_join_same : PySem.W.nsIn K mainGlobals "join_same" = some (some (.ref f_join_same)))
    (l_join_same : K.lookup f_join_same = some ⟨oc_join_same, od_join_same, .func (PySem.W.fnOf "join_same" "join_same" (defArgs s_join_same) (defBody s_join_same) (defScope s_join_same) .none kV_join_same dc_join_same pm_join_same an_join_same cd_join_same ct_join_same), sl_join_same⟩)
    (c_join_same : PySem.W.codeIn K cd_join_same "join_same" = true)
    (k_join_same : PySem.W.keepIn K (.ref f_join_same) = true)
    (a_f_join_swap : PySem.W.nsIn K mainGlobals "join_swap" = some (some (.ref f_join_swap)))
    (l_join_swap : K.lookup f_join_swap = some ⟨oc_join_swap, od_join_swap, .func (PySem.W.fnOf "join_swap" "join_swap" (defArgs s_join_swap) (defBody s_join_swap) (defScope s_join_swap) .none kV_join_swap dc_join_swap pm_join_swap an_join_swap cd_join_swap ct_join_swap), sl_join_swap⟩)
    (c_join_swap : PySem.W.codeIn K cd_join_swap "join_swap" = true)
    (k_join_swap : PySem.W.keepIn K (.ref f_join_swap) = true)
    (a_f_join_group : PySem.W.nsIn K mainGlobals "join_group" = some (some (.ref f_join_group)))
    (l_join_group : K.lookup f_join_group = some ⟨oc_join_group, od_join_group, .func (PySem.W.fnOf "join_group" "join_group" (defArgs s_join_group) (defBody s_join_group) (defScope s_join_group) .none kV_join_group dc_join_group pm_join_group an_join_group cd_join_group ct_join_group), sl_join_group⟩)
    (c_join_group : PySem.W.codeIn K cd_join_group "join_group" = true)
    (k_join_group : PySem.W.keepIn K (.ref f_join_group) = true)
    (a_f_join_never : PySem.W.nsIn K mainGlobals "join_never" = some (some (.ref f_join_never)))
    (l_join_never : K.lookup f_join_never = some ⟨oc_join_never, od_join_never, .func (PySem.W.fnOf "join_never" "join_never" (defArgs s_join_never) (defBody s_join_never) (defScope s_join_never) .none kV_join_never dc_join_never pm_join_never an_join_never cd_join_never ct_join_never), sl_join_never⟩)
    (c_join_never : PySem.W.codeIn K cd_join_never "join_never" = true)
    (k_join_never : PySem.W.keepIn K (.ref f_join_never) = true)
    (a_f_then_group : PySem.W.nsIn K mainGlobals "then_group" = some (some (.ref f_then_group)))
    (l_then_group : K.lookup f_then_group = some ⟨oc_then_group, od_then_group, .func (PySem.W.fnOf "then_group" "then_group" (defArgs s_then_group) (defBody s_then_group) (defScope s_then_group) .none kV_then_group dc_then_group pm_then_group an_then_group cd_then_group ct_then_group), sl_then_group⟩)
    (c_then_group : PySem.W.codeIn K cd_then_group "then_group" = true)
    (k_then_group : PySem.W.keepIn K (.ref f_then_group) = true)
    (a_f_then_still : PySem.W.nsIn K mainGlobals "then_still" = some (some (.ref f_then_still)))
    (l_then_still : K.lookup f_then_still = some ⟨oc_then_still, od_then_still, .func (PySem.W.fnOf "then_still" "then_still" (defArgs s_then_still) (defBody s_then_still) (defScope s_then_still) .none kV_then_still dc_then_still pm_then_still an_then_still cd_then_still ct_then_still), sl_then_still⟩)
    (c_then_still : PySem.W.codeIn K cd_then_still "then_still" = true)
    (k_then_still : PySem.W.keepIn K (.ref f_then_still) = true)
    (a_f_then_never : PySem.W.nsIn K mainGlobals "then_never" = some (some (.ref f_then_never)))
    (l_then_never : K.lookup f_then_never = some ⟨oc_then_never, od_then_never, .func (PySem.W.fnOf "then_never" "then_never" (defArgs s_then_never) (defBody s_then_never) (defScope s_then_never) .none kV_then_never dc_then_never pm_then_never an_then_never cd_then_never ct_then_never), sl_then_never⟩)
    (c_then_never : PySem.W.codeIn K cd_then_never "then_never" = true)
    (k_then_never : PySem.W.keepIn K (.ref f_then_never) = true)
    (a_f_spread_left : PySem.W.nsIn K mainGlobals "spread_left" = some (some (.ref f_spread_left)))
    (l_spread_left : K.lookup f_spread_left = some ⟨oc_spread_left, od_spread_left, .func (PySem.W.fnOf "spread_left" "spread_left" (defArgs s_spread_left) (defBody s_spread_left) (defScope s_spread_left) .none kV_spread_left dc_spread_left pm_spread_left an_spread_left cd_spread_left ct_spread_left), sl_spread_left⟩)
    (c_spread_left : PySem.W.codeIn K cd_spread_left "spread_left" = true)
    (k_spread_left : PySem.W.keepIn K (.ref f_spread_left) = true)
    (a_f_spread_right : PySem.W.nsIn K mainGlobals "spread_right" = some (some (.ref f_spread_right)))
    (l_spread_right : K.lookup f_spread_right = some ⟨oc_spread_right, od_spread_right, .func (PySem.W.fnOf "spread_right" "spread_right" (defArgs s_spread_right) (defBody s_spread_right) (defScope s_spread_right) .none kV_spread_right dc_spread_right pm_spread_right an_spread_right cd_spread_right ct_spread_right), sl_spread_right⟩)
    (c_spread_right : PySem.W.codeIn K cd_spread_right "spread_right" = true)
    (k_spread_right : PySem.W.keepIn K (.ref f_spread_right) = true)
    (a_f_broken_at : PySem.W.nsIn K mainGlobals "broken_at" = some (some (.ref f_broken_at)))
    (l_broken_at : K.lookup f_broken_at = some ⟨oc_broken_at, od_broken_at, .func (PySem.W.fnOf "broken_at" "broken_at" (defArgs s_broken_at) (defBody s_broken_at) (defScope s_broken_at) .none kV_broken_at dc_broken_at pm_broken_at an_broken_at cd_broken_at ct_broken_at), sl_broken_at⟩)
    (c_broken_at : PySem.W.codeIn K cd_broken_at "broken_at" = true)
    (k_broken_at : PySem.W.keepIn K (.ref f_broken_at) = true)
    (a_f_first_fault : PySem.W.nsIn K mainGlobals "first_fault" = some (some (.ref f_first_fault)))
    (l_first_fault : K.lookup f_first_fault = some ⟨oc_first_fault, od_first_fault, .func (PySem.W.fnOf "first_fault" "first_fault" (defArgs s_first_fault) (defBody s_first_fault) (defScope s_first_fault) .none kV_first_fault dc_first_fault pm_first_fault an_first_fault cd_first_fault ct_first_fault), sl_first_fault⟩)
    (c_first_fault : PySem.W.codeIn K cd_first_fault "first_fault" = true)
    (k_first_fault : PySem.W.keepIn K (.ref f_first_fault) = true)
    (a_aR : PySem.W.nsIn K mainGlobals "RULES" = some (some (.ref aR)))
    (lR : K.lookup aR = some ⟨.type "tuple", dR, .seq [Value.ref r0, Value.ref r1, Value.ref r2, Value.ref r3, Value.ref r4, Value.ref r5, Value.ref r6, Value.ref r7, Value.ref r8].toArray nR, slR⟩)
    (lR0 : K.lookup r0 = some ⟨.type "tuple", dR0, .seq [Value.str "join-same" tw0, Value.int 1 tl0, Value.ref f_join_same].toArray nR0, slR0⟩)
    (lR1 : K.lookup r1 = some ⟨.type "tuple", dR1, .seq [Value.str "join-swap" tw1, Value.int 2 tl1, Value.ref f_join_swap].toArray nR1, slR1⟩)
    (lR2 : K.lookup r2 = some ⟨.type "tuple", dR2, .seq [Value.str "join-group" tw2, Value.int 3 tl2, Value.ref f_join_group].toArray nR2, slR2⟩)
    (lR3 : K.lookup r3 = some ⟨.type "tuple", dR3, .seq [Value.str "join-never" tw3, Value.int 1 tl3, Value.ref f_join_never].toArray nR3, slR3⟩)
    (lR4 : K.lookup r4 = some ⟨.type "tuple", dR4, .seq [Value.str "then-group" tw4, Value.int 3 tl4, Value.ref f_then_group].toArray nR4, slR4⟩)
    (lR5 : K.lookup r5 = some ⟨.type "tuple", dR5, .seq [Value.str "then-still" tw5, Value.int 1 tl5, Value.ref f_then_still].toArray nR5, slR5⟩)
    (lR6 : K.lookup r6 = some ⟨.type "tuple", dR6, .seq [Value.str "then-never" tw6, Value.int 1 tl6, Value.ref f_then_never].toArray nR6, slR6⟩)
    (lR7 : K.lookup r7 = some ⟨.type "tuple", dR7, .seq [Value.str "spread-left" tw7, Value.int 3 tl7, Value.ref f_spread_left].toArray nR7, slR7⟩)
    (lR8 : K.lookup r8 = some ⟨.type "tuple", dR8, .seq [Value.str "spread-right" tw8, Value.int 3 tl8, Value.ref f_spread_right].toArray nR8, slR8⟩)
    (nd9 : ([f_join_same, f_join_swap, f_join_group, f_join_never, f_then_group, f_then_still, f_then_never, f_spread_left, f_spread_right] : List Addr).Nodup)
    : ∃ fd : FuncData, (∀ (s : Shared) (v : Value), BindsTo s fd ⟨[v], []⟩ [("_law_script", v)]) ∧ ∀ base : Heap, K.In base → base.Ns mainGlobals mg → FnOk l.prog w K mg base CX0 15 fa fd ["_law_script"] (sp_law K) := by
  have e := hfa.symm.trans (PySem.W.mg_of X G a_f_law)
  cases e
  refine ⟨PySem.W.fnOf "law" "law" (defArgs s_law) (defBody s_law) (defScope s_law) .none kV_law dc_law pm_law an_law cd_law ct_law, fun s v => .of_eq rfl, fun base _ _ => ?_⟩
  have Z : Bi mg := ⟨PySem.W.mg_none_of X G z_int, PySem.W.mg_none_of X G z_abs, PySem.W.mg_none_of X G z_range, PySem.W.mg_none_of X G z_len, PySem.W.mg_none_of X G z_isinstance, PySem.W.mg_none_of X G z_bool, PySem.W.mg_none_of X G z_str, PySem.W.mg_none_of X G z_list, PySem.W.mg_none_of X G z_tuple, PySem.W.mg_none_of X G z_dict, PySem.W.mg_none_of X G z_enumerate, PySem.W.mg_none_of X G z_zip, PySem.W.mg_none_of X G z_reversed, PySem.W.mg_none_of X G z_ValueError, PySem.W.mg_none_of X G z_LookupError, PySem.W.mg_none_of X G z_KeyError, PySem.W.mg_none_of X G z_Exception, PySem.W.mg_none_of X G z_super, PySem.W.mg_none_of X G z_sum, PySem.W.mg_none_of X G z_any, PySem.W.mg_none_of X G z_all, PySem.W.mg_none_of X G z_sorted, PySem.W.mg_none_of X G z_max, PySem.W.mg_none_of X G z_min, PySem.W.mg_none_of X G z_NotImplementedError, PySem.W.mg_none_of X G z_set, PySem.W.mg_none_of X G z_repr⟩
  have hC_CT : Cls K CT := ⟨pg_CT, hd_CT, po_CT, sa_CT⟩
  have hN_CT : ∀ f ∈ (["written_joins", "written_products", "label", "size", "never_at", "still_at", "depth", "worth_names", "worth_places", "product_table", "join_table"] : List Str), NoAttr K CT f := by
    intro f hf
    simp only [List.mem_cons, List.not_mem_nil, or_false] at hf
    rcases hf with rfl | rfl | rfl | rfl | rfl | rfl | rfl | rfl | rfl | rfl | rfl
    · exact na_CT_written_joins
    · exact na_CT_written_products
    · exact na_CT_label
    · exact na_CT_size
    · exact na_CT_never_at
    · exact na_CT_still_at
    · exact na_CT_depth
    · exact na_CT_worth_names
    · exact na_CT_worth_places
    · exact na_CT_product_table
    · exact na_CT_join_table
  have n_CT : ∀ f ∈ scF, NoAttr K CT f := fun f hf => hN_CT f (List.mem_cons_of_mem _ (List.mem_cons_of_mem _ hf))
  have o_CT : ClsOk K CT := ⟨hC_CT, n_CT⟩
  have hC_CP : Cls K CP := ⟨pg_CP, hd_CP, po_CP, sa_CP⟩
  have hN_CP : ∀ f ∈ (["left", "right", "label", "size", "never_at", "still_at", "depth", "worth_names", "worth_places", "product_table", "join_table"] : List Str), NoAttr K CP f := by
    intro f hf
    simp only [List.mem_cons, List.not_mem_nil, or_false] at hf
    rcases hf with rfl | rfl | rfl | rfl | rfl | rfl | rfl | rfl | rfl | rfl | rfl
    · exact na_CP_left
    · exact na_CP_right
    · exact na_CP_label
    · exact na_CP_size
    · exact na_CP_never_at
    · exact na_CP_still_at
    · exact na_CP_depth
    · exact na_CP_worth_names
    · exact na_CP_worth_places
    · exact na_CP_product_table
    · exact na_CP_join_table
  have n_CP : ∀ f ∈ scF, NoAttr K CP f := fun f hf => hN_CP f (List.mem_cons_of_mem _ (List.mem_cons_of_mem _ hf))
  have o_CP : ClsOk K CP := ⟨hC_CP, n_CP⟩
  have hC_CR : Cls K CR := ⟨pg_CR, hd_CR, po_CR, sa_CR⟩
  have hN_CR : ∀ f ∈ (["inner", "label", "size", "never_at", "still_at", "depth", "worth_names", "worth_places", "product_table", "join_table"] : List Str), NoAttr K CR f := by
    intro f hf
    simp only [List.mem_cons, List.not_mem_nil, or_false] at hf
    rcases hf with rfl | rfl | rfl | rfl | rfl | rfl | rfl | rfl | rfl | rfl
    · exact na_CR_inner
    · exact na_CR_label
    · exact na_CR_size
    · exact na_CR_never_at
    · exact na_CR_still_at
    · exact na_CR_depth
    · exact na_CR_worth_names
    · exact na_CR_worth_places
    · exact na_CR_product_table
    · exact na_CR_join_table
  have n_CR : ∀ f ∈ scF, NoAttr K CR f := fun f hf => hN_CR f (List.mem_cons_of_mem _ hf)
  have o_CR : ClsOk K CR := ⟨hC_CR, n_CR⟩
  have hC_CH : Cls K CH := ⟨pg_CH, hd_CH, po_CH, sa_CH⟩
  have hN_CH : ∀ f ∈ (["inner", "heaps", "label", "size", "never_at", "still_at", "depth", "worth_names", "worth_places", "product_table", "join_table"] : List Str), NoAttr K CH f := by
    intro f hf
    simp only [List.mem_cons, List.not_mem_nil, or_false] at hf
    rcases hf with rfl | rfl | rfl | rfl | rfl | rfl | rfl | rfl | rfl | rfl | rfl
    · exact na_CH_inner
    · exact na_CH_heaps
    · exact na_CH_label
    · exact na_CH_size
    · exact na_CH_never_at
    · exact na_CH_still_at
    · exact na_CH_depth
    · exact na_CH_worth_names
    · exact na_CH_worth_places
    · exact na_CH_product_table
    · exact na_CH_join_table
  have n_CH : ∀ f ∈ scF, NoAttr K CH f := fun f hf => hN_CH f (List.mem_cons_of_mem _ (List.mem_cons_of_mem _ hf))
  have o_CH : ClsOk K CH := ⟨hC_CH, n_CH⟩
  have F_Scale___init__ := mk_funD (v := .int 1) l_Scale___init__ c_Scale___init__ k_Scale___init__ lT ⟨_, rfl⟩
  have F_is_table_name := fun_mk (st := s_is_table_name) l_is_table_name c_is_table_name k_is_table_name
  have F_table_places := fun_mk (st := s_table_places) l_table_places c_table_places k_table_places
  have b_is_table_name := F_is_table_name.binds (ps := ["name"]) fun _ _ _ _ _ _ us hl => match us, hl with | [_], _ => rfl
  have c__is_table_name : Callee l.prog w K mg base "is_table_name" CX0 1 ["name"] [] (spP PIsN) := ⟨f_is_table_name, _, [], PySem.W.mg_of X G a_f_is_table_name, k_is_table_name, ok_is_table_name Z (PySem.W.mg_of X G gS) F_is_table_name, b_is_table_name, .nil⟩
  have b_table_places := F_table_places.binds (ps := ["places", "table"]) fun _ _ _ _ _ _ us hl => match us, hl with | [_, _], _ => rfl
  have c__table_places : Callee l.prog w K mg base "table_places" CX0 1 ["places", "table"] [] (spP PTp) := ⟨f_table_places, _, [], PySem.W.mg_of X G a_f_table_places, k_table_places, ok_table_places Z F_table_places, b_table_places, .nil⟩
  have F_depth_above := fun_mk (st := s_depth_above) l_depth_above c_depth_above k_depth_above
  have c__depth_above : CalleeR l.prog w K mg base "depth_above" CX0 2 (spP (PDepC K [CT, CP, CR, CH])) := ok_depth_above Z (PySem.W.mg_of X G gM) (PySem.W.mg_of X G gD) F_depth_above (PySem.W.mg_of X G a_f_depth_above) k_depth_above
  have F_half_places := fun_mk (st := s_half_places) l_half_places c_half_places k_half_places
  have b_half_places := F_half_places.binds (ps := ["place", "many"]) fun _ _ _ _ _ _ us hl => match us, hl with | [_, _], _ => rfl
  have c__half_places : Callee l.prog w K mg base "half_places" CX0 1 ["place", "many"] [] (spP PHalf) := ⟨f_half_places, _, [], PySem.W.mg_of X G a_f_half_places, k_half_places, ok_half F_half_places, b_half_places, .nil⟩
  have F_Scale_then_at := fun_mk (st := s_Scale_then_at) l_Scale_then_at c_Scale_then_at k_Scale_then_at
  have b_Scale_then_at := F_Scale_then_at.binds (ps := ["self", "first", "second"]) fun _ _ _ _ _ _ us hl => match us, hl with | [_, _, _], _ => rfl
  have c_CT_then_at : Method l.prog w K mg base CT "then_at" CX0 1 ["self", "first", "second"] [] (spP (PAt K fun th _ a b => .int (th a b))) := ⟨f_Scale_then_at, _, [], hC_CT, ⟨a_CT_f_Scale_then_at, i_Scale_then_at, k_Scale_then_at⟩, ok_then_at F_Scale_then_at, b_Scale_then_at, .nil⟩
  have c_CP_then_at : Method l.prog w K mg base CP "then_at" CX0 1 ["self", "first", "second"] [] (spP (PAt K fun th _ a b => .int (th a b))) := ⟨f_Scale_then_at, _, [], hC_CP, ⟨a_CP_f_Scale_then_at, i_Scale_then_at, k_Scale_then_at⟩, ok_then_at F_Scale_then_at, b_Scale_then_at, .nil⟩
  have c_CR_then_at : Method l.prog w K mg base CR "then_at" CX0 1 ["self", "first", "second"] [] (spP (PAt K fun th _ a b => .int (th a b))) := ⟨f_Scale_then_at, _, [], hC_CR, ⟨a_CR_f_Scale_then_at, i_Scale_then_at, k_Scale_then_at⟩, ok_then_at F_Scale_then_at, b_Scale_then_at, .nil⟩
  have c_CH_then_at : Method l.prog w K mg base CH "then_at" CX0 1 ["self", "first", "second"] [] (spP (PAt K fun th _ a b => .int (th a b))) := ⟨f_Scale_then_at, _, [], hC_CH, ⟨a_CH_f_Scale_then_at, i_Scale_then_at, k_Scale_then_at⟩, ok_then_at F_Scale_then_at, b_Scale_then_at, .nil⟩
  have c_then_at : ∀ C ∈ [CT, CP, CR, CH], Method l.prog w K mg base C "then_at" CX0 1 ["self", "first", "second"] [] (spP (PAt K fun th _ a b => .int (th a b))) := by
    intro C h
    simp only [List.mem_cons, List.not_mem_nil, or_false] at h
    rcases h with rfl | rfl | rfl | rfl
    · exact c_CT_then_at
    · exact c_CP_then_at
    · exact c_CR_then_at
    · exact c_CH_then_at
  have F_Scale_join_at := fun_mk (st := s_Scale_join_at) l_Scale_join_at c_Scale_join_at k_Scale_join_at
  have b_Scale_join_at := F_Scale_join_at.binds (ps := ["self", "first", "second"]) fun _ _ _ _ _ _ us hl => match us, hl with | [_, _, _], _ => rfl
  have c_CT_join_at : Method l.prog w K mg base CT "join_at" CX0 1 ["self", "first", "second"] [] (spP (PAt K fun _ jn a b => .int (jn a b))) := ⟨f_Scale_join_at, _, [], hC_CT, ⟨a_CT_f_Scale_join_at, i_Scale_join_at, k_Scale_join_at⟩, ok_join_at F_Scale_join_at, b_Scale_join_at, .nil⟩
  have c_CP_join_at : Method l.prog w K mg base CP "join_at" CX0 1 ["self", "first", "second"] [] (spP (PAt K fun _ jn a b => .int (jn a b))) := ⟨f_Scale_join_at, _, [], hC_CP, ⟨a_CP_f_Scale_join_at, i_Scale_join_at, k_Scale_join_at⟩, ok_join_at F_Scale_join_at, b_Scale_join_at, .nil⟩
  have c_CR_join_at : Method l.prog w K mg base CR "join_at" CX0 1 ["self", "first", "second"] [] (spP (PAt K fun _ jn a b => .int (jn a b))) := ⟨f_Scale_join_at, _, [], hC_CR, ⟨a_CR_f_Scale_join_at, i_Scale_join_at, k_Scale_join_at⟩, ok_join_at F_Scale_join_at, b_Scale_join_at, .nil⟩
  have c_CH_join_at : Method l.prog w K mg base CH "join_at" CX0 1 ["self", "first", "second"] [] (spP (PAt K fun _ jn a b => .int (jn a b))) := ⟨f_Scale_join_at, _, [], hC_CH, ⟨a_CH_f_Scale_join_at, i_Scale_join_at, k_Scale_join_at⟩, ok_join_at F_Scale_join_at, b_Scale_join_at, .nil⟩
  have c_join_at : ∀ C ∈ [CT, CP, CR, CH], Method l.prog w K mg base C "join_at" CX0 1 ["self", "first", "second"] [] (spP (PAt K fun _ jn a b => .int (jn a b))) := by
    intro C h
    simp only [List.mem_cons, List.not_mem_nil, or_false] at h
    rcases h with rfl | rfl | rfl | rfl
    · exact c_CT_join_at
    · exact c_CP_join_at
    · exact c_CR_join_at
    · exact c_CH_join_at
  have F_Scale_name_at := fun_mk (st := s_Scale_name_at) l_Scale_name_at c_Scale_name_at k_Scale_name_at
  have b_Scale_name_at := F_Scale_name_at.binds (ps := ["self", "place"]) fun _ _ _ _ _ _ us hl => match us, hl with | [_, _], _ => rfl
  have c_CT_name_at : Method l.prog w K mg base CT "name_at" CX0 1 ["self", "place"] [] (spP (PName K)) := ⟨f_Scale_name_at, _, [], hC_CT, ⟨a_CT_f_Scale_name_at, i_Scale_name_at, k_Scale_name_at⟩, ok_name_at F_Scale_name_at, b_Scale_name_at, .nil⟩
  have c_CP_name_at : Method l.prog w K mg base CP "name_at" CX0 1 ["self", "place"] [] (spP (PName K)) := ⟨f_Scale_name_at, _, [], hC_CP, ⟨a_CP_f_Scale_name_at, i_Scale_name_at, k_Scale_name_at⟩, ok_name_at F_Scale_name_at, b_Scale_name_at, .nil⟩
  have c_CR_name_at : Method l.prog w K mg base CR "name_at" CX0 1 ["self", "place"] [] (spP (PName K)) := ⟨f_Scale_name_at, _, [], hC_CR, ⟨a_CR_f_Scale_name_at, i_Scale_name_at, k_Scale_name_at⟩, ok_name_at F_Scale_name_at, b_Scale_name_at, .nil⟩
  have c_CH_name_at : Method l.prog w K mg base CH "name_at" CX0 1 ["self", "place"] [] (spP (PName K)) := ⟨f_Scale_name_at, _, [], hC_CH, ⟨a_CH_f_Scale_name_at, i_Scale_name_at, k_Scale_name_at⟩, ok_name_at F_Scale_name_at, b_Scale_name_at, .nil⟩
  have c_name_at : ∀ C ∈ [CT, CP, CR, CH], Method l.prog w K mg base C "name_at" CX0 1 ["self", "place"] [] (spP (PName K)) := by
    intro C h
    simp only [List.mem_cons, List.not_mem_nil, or_false] at h
    rcases h with rfl | rfl | rfl | rfl
    · exact c_CT_name_at
    · exact c_CP_name_at
    · exact c_CR_name_at
    · exact c_CH_name_at
  have F_TableScale_make_then := fun_mk (st := s_TableScale_make_then) l_TableScale_make_then c_TableScale_make_then k_TableScale_make_then
  have b_TableScale_make_then := F_TableScale_make_then.binds (ps := ["self", "first", "second"]) fun _ _ _ _ _ _ us hl => match us, hl with | [_, _, _], _ => rfl
  have c_CT_make_then : Method l.prog w K mg base CT "make_then" CX0 5 ["self", "first", "second"] [] (spP (PTbM CT "written_products")) := ⟨f_TableScale_make_then, _, [], hC_CT, ⟨a_CT_f_TableScale_make_then, i_TableScale_make_then, k_TableScale_make_then⟩, ok_tb_then hC_CT (hN_CT _ (by simp)) F_TableScale_make_then, b_TableScale_make_then, .nil⟩
  have F_TableScale_make_join := fun_mk (st := s_TableScale_make_join) l_TableScale_make_join c_TableScale_make_join k_TableScale_make_join
  have b_TableScale_make_join := F_TableScale_make_join.binds (ps := ["self", "first", "second"]) fun _ _ _ _ _ _ us hl => match us, hl with | [_, _, _], _ => rfl
  have c_CT_make_join : Method l.prog w K mg base CT "make_join" CX0 5 ["self", "first", "second"] [] (spP (PTbM CT "written_joins")) := ⟨f_TableScale_make_join, _, [], hC_CT, ⟨a_CT_f_TableScale_make_join, i_TableScale_make_join, k_TableScale_make_join⟩, ok_tb_join hC_CT (hN_CT _ (by simp)) F_TableScale_make_join, b_TableScale_make_join, .nil⟩
  have s_CT : SupC l.prog w K mg base f_Scale___init__ CX0 6 ["self", "label", "names", "never_at", "still_at", "depth"] [.int 1] (spI (PScI K CT (PTbM CT "written_products") (PTbM CT "written_joins"))) := by
    obtain ⟨ds, r, b⟩ := bind_Scale F_Scale___init__
    exact ⟨_, ds, ok_Scale_init Z hC_CT n_CT c_CT_make_then c_CT_make_join F_Scale___init__, b, r, fiS, tyS⟩
  have F_PairScale_make_then := fun_mk (st := s_PairScale_make_then) l_PairScale_make_then c_PairScale_make_then k_PairScale_make_then
  have b_PairScale_make_then := F_PairScale_make_then.binds (ps := ["self", "first", "second"]) fun _ _ _ _ _ _ us hl => match us, hl with | [_, _, _], _ => rfl
  have c_CP_make_then : Method l.prog w K mg base CP "make_then" CX0 5 ["self", "first", "second"] [] (spP (PPrM K [CT, CP, CR, CH] CP SD.th)) := ⟨f_PairScale_make_then, _, [], hC_CP, ⟨a_CP_f_PairScale_make_then, i_PairScale_make_then, k_PairScale_make_then⟩, ok_pair_then hC_CP (hN_CP _ (by simp)) (hN_CP _ (by simp)) c__half_places c_then_at F_PairScale_make_then, b_PairScale_make_then, .nil⟩
  have F_PairScale_make_join := fun_mk (st := s_PairScale_make_join) l_PairScale_make_join c_PairScale_make_join k_PairScale_make_join
  have b_PairScale_make_join := F_PairScale_make_join.binds (ps := ["self", "first", "second"]) fun _ _ _ _ _ _ us hl => match us, hl with | [_, _, _], _ => rfl
  have c_CP_make_join : Method l.prog w K mg base CP "make_join" CX0 5 ["self", "first", "second"] [] (spP (PPrM K [CT, CP, CR, CH] CP SD.jn)) := ⟨f_PairScale_make_join, _, [], hC_CP, ⟨a_CP_f_PairScale_make_join, i_PairScale_make_join, k_PairScale_make_join⟩, ok_pair_join hC_CP (hN_CP _ (by simp)) (hN_CP _ (by simp)) c__half_places c_join_at F_PairScale_make_join, b_PairScale_make_join, .nil⟩
  have s_CP : SupC l.prog w K mg base f_Scale___init__ CX0 6 ["self", "label", "names", "never_at", "still_at", "depth"] [] (spI (PScI K CP (PPrM K [CT, CP, CR, CH] CP SD.th) (PPrM K [CT, CP, CR, CH] CP SD.jn))) := by
    obtain ⟨ds, r, b⟩ := bind_Scale6 F_Scale___init__
    exact ⟨_, ds, ok_Scale_init Z hC_CP n_CP c_CP_make_then c_CP_make_join F_Scale___init__, b, r, fiS, tyS⟩
  have F_TurnedScale_make_then := fun_mk (st := s_TurnedScale_make_then) l_TurnedScale_make_then c_TurnedScale_make_then k_TurnedScale_make_then
  have b_TurnedScale_make_then := F_TurnedScale_make_then.binds (ps := ["self", "first", "second"]) fun _ _ _ _ _ _ us hl => match us, hl with | [_, _, _], _ => rfl
  have c_CR_make_then : Method l.prog w K mg base CR "make_then" CX0 5 ["self", "first", "second"] [] (spP (PTuM K [CT, CP, CR, CH] CR SD.th)) := ⟨f_TurnedScale_make_then, _, [], hC_CR, ⟨a_CR_f_TurnedScale_make_then, i_TurnedScale_make_then, k_TurnedScale_make_then⟩, ok_turn_then hC_CR (hN_CR _ (by simp)) c_then_at F_TurnedScale_make_then, b_TurnedScale_make_then, .nil⟩
  have F_TurnedScale_make_join := fun_mk (st := s_TurnedScale_make_join) l_TurnedScale_make_join c_TurnedScale_make_join k_TurnedScale_make_join
  have b_TurnedScale_make_join := F_TurnedScale_make_join.binds (ps := ["self", "first", "second"]) fun _ _ _ _ _ _ us hl => match us, hl with | [_, _, _], _ => rfl
  have c_CR_make_join : Method l.prog w K mg base CR "make_join" CX0 5 ["self", "first", "second"] [] (spP (PTuM K [CT, CP, CR, CH] CR SD.jn)) := ⟨f_TurnedScale_make_join, _, [], hC_CR, ⟨a_CR_f_TurnedScale_make_join, i_TurnedScale_make_join, k_TurnedScale_make_join⟩, ok_turn_join hC_CR (hN_CR _ (by simp)) c_join_at F_TurnedScale_make_join, b_TurnedScale_make_join, .nil⟩
  have s_CR : SupC l.prog w K mg base f_Scale___init__ CX0 6 ["self", "label", "names", "never_at", "still_at", "depth"] [] (spI (PScI K CR (PTuM K [CT, CP, CR, CH] CR SD.th) (PTuM K [CT, CP, CR, CH] CR SD.jn))) := by
    obtain ⟨ds, r, b⟩ := bind_Scale6 F_Scale___init__
    exact ⟨_, ds, ok_Scale_init Z hC_CR n_CR c_CR_make_then c_CR_make_join F_Scale___init__, b, r, fiS, tyS⟩
  have F_HeapScale_make_then := fun_mk (st := s_HeapScale_make_then) l_HeapScale_make_then c_HeapScale_make_then k_HeapScale_make_then
  have b_HeapScale_make_then := F_HeapScale_make_then.binds (ps := ["self", "first", "second"]) fun _ _ _ _ _ _ us hl => match us, hl with | [_, _, _], _ => rfl
  have c_CH_make_then : Method l.prog w K mg base CH "make_then" CX0 5 ["self", "first", "second"] [] (spP (PHpM K [CT, CP, CR, CH] CH)) := ⟨f_HeapScale_make_then, _, [], hC_CH, ⟨a_CH_f_HeapScale_make_then, i_HeapScale_make_then, k_HeapScale_make_then⟩, ok_heap_then hC_CH (hN_CH _ (by simp)) (hN_CH _ (by simp)) c_then_at F_HeapScale_make_then, b_HeapScale_make_then, .nil⟩
  have F_HeapScale_make_join := fun_mk (st := s_HeapScale_make_join) l_HeapScale_make_join c_HeapScale_make_join k_HeapScale_make_join
  have b_HeapScale_make_join := F_HeapScale_make_join.binds (ps := ["self", "first", "second"]) fun _ _ _ _ _ _ us hl => match us, hl with | [_, _, _], _ => rfl
  have c_CH_make_join : Method l.prog w K mg base CH "make_join" CX0 5 ["self", "first", "second"] [] (spP PHpJ) := ⟨f_HeapScale_make_join, _, [], hC_CH, ⟨a_CH_f_HeapScale_make_join, i_HeapScale_make_join, k_HeapScale_make_join⟩, ok_heap_join F_HeapScale_make_join, b_HeapScale_make_join, .nil⟩
  have s_CH : SupC l.prog w K mg base f_Scale___init__ CX0 6 ["self", "label", "names", "never_at", "still_at", "depth"] [] (spI (PScI K CH (PHpM K [CT, CP, CR, CH] CH) PHpJ)) := by
    obtain ⟨ds, r, b⟩ := bind_Scale6 F_Scale___init__
    exact ⟨_, ds, ok_Scale_init Z hC_CH n_CH c_CH_make_then c_CH_make_join F_Scale___init__, b, r, fiS, tyS⟩
  have F_TableScale___init__ := mk_funS (P := l.prog) (kws := []) l_TableScale___init__ c_TableScale___init__ lc_TableScale___init__ hv_TableScale___init__ hf_TableScale___init__ lx_TableScale___init__ lD_TableScale___init__ k_TableScale___init__ fi2_TableScale___init__ ty_TableScale___init__ kwd_none
  have ok_CT := ok_TableScale_init Z hC_CT hN_CT opq top0 mCT sCT s_CT c__is_table_name c__table_places F_TableScale___init__ (w := w) (base := base)
  have M_CT : Mk K CT f_TableScale___init__ := ⟨mk_CT, a_f_TableScale___init__, fnCT, kp_CT⟩
  have mkK_CT : MakerK l.prog w K mg base "TableScale" CT (L2.CX l.prog w) 10 ["self", "names", "joins", "products", "never", "still"] 3 ["never", "still"] (fun vs zs => vs ++ zs) (spI (PTbI CT)) := ⟨_, _, _, PySem.W.mg_of X G a_CT, M_CT, ok_CT, bindK_Tb F_TableScale___init__⟩
  have F_PairScale___init__ := mk_funS (P := l.prog) (kws := []) l_PairScale___init__ c_PairScale___init__ lc_PairScale___init__ hv_PairScale___init__ hf_PairScale___init__ lx_PairScale___init__ lD_PairScale___init__ k_PairScale___init__ fi2_PairScale___init__ ty_PairScale___init__ kwd_none
  have ok_CP := ok_PairScale_init Z hC_CP hN_CP opq top0 mCP sCP s_CP c__depth_above c_name_at F_PairScale___init__ (w := w) (base := base)
  have M_CP : Mk K CP f_PairScale___init__ := ⟨mk_CP, a_f_PairScale___init__, fnCP, kp_CP⟩
  have mk_CP : Maker l.prog w K mg base "PairScale" CP (L2.CX l.prog w) 10 ["self", "left", "right"] [] (spI (PPrI K [CT, CP, CR, CH] CP)) := ⟨_, _, [], PySem.W.mg_of X G a_CP, M_CP, ok_CP, bind_Pr F_PairScale___init__, .nil⟩
  have F_TurnedScale___init__ := mk_funS (P := l.prog) (kws := []) l_TurnedScale___init__ c_TurnedScale___init__ lc_TurnedScale___init__ hv_TurnedScale___init__ hf_TurnedScale___init__ lx_TurnedScale___init__ lD_TurnedScale___init__ k_TurnedScale___init__ fi2_TurnedScale___init__ ty_TurnedScale___init__ kwd_none
  have ok_CR := ok_TurnedScale_init Z hC_CR hN_CR opq top0 mCR sCR s_CR c__depth_above c_name_at F_TurnedScale___init__ (w := w) (base := base)
  have M_CR : Mk K CR f_TurnedScale___init__ := ⟨mk_CR, a_f_TurnedScale___init__, fnCR, kp_CR⟩
  have mk_CR : Maker l.prog w K mg base "TurnedScale" CR (L2.CX l.prog w) 10 ["self", "inner"] [] (spI (PTuI K [CT, CP, CR, CH] CR)) := ⟨_, _, [], PySem.W.mg_of X G a_CR, M_CR, ok_CR, bind_Tu F_TurnedScale___init__, .nil⟩
  have F_HeapScale___init__ := mk_funS (P := l.prog) (kws := []) l_HeapScale___init__ c_HeapScale___init__ lc_HeapScale___init__ hv_HeapScale___init__ hf_HeapScale___init__ lx_HeapScale___init__ lD_HeapScale___init__ k_HeapScale___init__ fi2_HeapScale___init__ ty_HeapScale___init__ kwd_none
  have ok_CH := ok_HeapScale_init Z hC_CH hN_CH opq top0 mCH sCH s_CH c__depth_above c_name_at F_HeapScale___init__ (w := w) (base := base)
  have M_CH : Mk K CH f_HeapScale___init__ := ⟨mk_CH, a_f_HeapScale___init__, fnCH, kp_CH⟩
  have mk_CH : Maker l.prog w K mg base "HeapScale" CH (L2.CX l.prog w) 10 ["self", "inner"] [] (spI (PHpI K [CT, CP, CR, CH] CH)) := ⟨_, _, [], PySem.W.mg_of X G a_CH, M_CH, ok_CH, bind_Hp F_HeapScale___init__, .nil⟩
  have F__law_source := fun_mk (st := s__law_source) l__law_source c__law_source k__law_source
  have F__law_pick := fun_mk (st := s__law_pick) l__law_pick c__law_pick k__law_pick
  have F__law_like := fun_mk (st := s__law_like) l__law_like c__law_like k__law_like
  have F__law_join := fun_mk (st := s__law_join) l__law_join c__law_join k__law_join
  have F__law_then := fun_mk (st := s__law_then) l__law_then c__law_then k__law_then
  have F__law_tables := fun_mk (st := s__law_tables) l__law_tables c__law_tables k__law_tables
  have F__law_table_scale := fun_mk (st := s__law_table_scale) l__law_table_scale c__law_table_scale k__law_table_scale
  have F__law_fails := fun_mk (st := s__law_fails) l__law_fails c__law_fails k__law_fails
  have F__law_fault := fun_mk (st := s__law_fault) l__law_fault c__law_fault k__law_fault
  have F__law_scale_of := fun_mk (st := s__law_scale_of) l__law_scale_of c__law_scale_of k__law_scale_of
  have F__law_free := fun_mk (st := s__law_free) l__law_free c__law_free k__law_free
  have F__law_change := fun_mk (st := s__law_change) l__law_change c__law_change k__law_change
  have F__law_pair_right := fun_mk (st := s__law_pair_right) l__law_pair_right c__law_pair_right k__law_pair_right
  have F__law_heap_right := fun_mk (st := s__law_heap_right) l__law_heap_right c__law_heap_right k__law_heap_right
  have F_law := fun_mk (st := s_law) l_law c_law k_law
  have b__law_source := F__law_source.binds (ps := ["_law_script"]) fun _ _ _ _ _ _ us hl => match us, hl with | [_], _ => rfl
  have c___law_source : Callee l.prog w K mg base "_law_source" CX0 1 ["_law_script"] [] (sp_source K) := ⟨f__law_source, _, [], PySem.W.mg_of X G a_f__law_source, k__law_source, ok_source Z F__law_source, b__law_source, .nil⟩
  have b__law_pick := F__law_pick.binds (ps := ["_law_source_here", "_law_many"]) fun _ _ _ _ _ _ us hl => match us, hl with | [_, _], _ => rfl
  have c___law_pick : Callee l.prog w K mg base "_law_pick" CX0 1 ["_law_source_here", "_law_many"] [] sp_pick := ⟨f__law_pick, _, [], PySem.W.mg_of X G a_f__law_pick, k__law_pick, ok_pick Z F__law_pick, b__law_pick, .nil⟩
  have b__law_like := F__law_like.binds (ps := ["_law_found", "_law_due"]) fun _ _ _ _ _ _ us hl => match us, hl with | [_, _], _ => rfl
  have c___law_like : Callee l.prog w K mg base "_law_like" CX0 4 ["_law_found", "_law_due"] [] (spP (PLike K 4)) := ⟨f__law_like, _, [], PySem.W.mg_of X G a_f__law_like, k__law_like, (ok_like Z F__law_like (PySem.W.mg_of X G a_f__law_like) k__law_like b__law_like 4), b__law_like, .nil⟩
  have F_join_same := fun_mk (st := s_join_same) l_join_same c_join_same k_join_same
  have b_join_same := F_join_same.binds (ps := ["s", "a", "b", "c"]) fun _ _ _ _ _ _ us hl => match us, hl with | [_, _, _, _], _ => rfl
  have F_join_swap := fun_mk (st := s_join_swap) l_join_swap c_join_swap k_join_swap
  have b_join_swap := F_join_swap.binds (ps := ["s", "a", "b", "c"]) fun _ _ _ _ _ _ us hl => match us, hl with | [_, _, _, _], _ => rfl
  have F_join_group := fun_mk (st := s_join_group) l_join_group c_join_group k_join_group
  have b_join_group := F_join_group.binds (ps := ["s", "a", "b", "c"]) fun _ _ _ _ _ _ us hl => match us, hl with | [_, _, _, _], _ => rfl
  have F_join_never := fun_mk (st := s_join_never) l_join_never c_join_never k_join_never
  have b_join_never := F_join_never.binds (ps := ["s", "a", "b", "c"]) fun _ _ _ _ _ _ us hl => match us, hl with | [_, _, _, _], _ => rfl
  have F_then_group := fun_mk (st := s_then_group) l_then_group c_then_group k_then_group
  have b_then_group := F_then_group.binds (ps := ["s", "a", "b", "c"]) fun _ _ _ _ _ _ us hl => match us, hl with | [_, _, _, _], _ => rfl
  have F_then_still := fun_mk (st := s_then_still) l_then_still c_then_still k_then_still
  have b_then_still := F_then_still.binds (ps := ["s", "a", "b", "c"]) fun _ _ _ _ _ _ us hl => match us, hl with | [_, _, _, _], _ => rfl
  have F_then_never := fun_mk (st := s_then_never) l_then_never c_then_never k_then_never
  have b_then_never := F_then_never.binds (ps := ["s", "a", "b", "c"]) fun _ _ _ _ _ _ us hl => match us, hl with | [_, _, _, _], _ => rfl
  have F_spread_left := fun_mk (st := s_spread_left) l_spread_left c_spread_left k_spread_left
  have b_spread_left := F_spread_left.binds (ps := ["s", "a", "b", "c"]) fun _ _ _ _ _ _ us hl => match us, hl with | [_, _, _, _], _ => rfl
  have F_spread_right := fun_mk (st := s_spread_right) l_spread_right c_spread_right k_spread_right
  have b_spread_right := F_spread_right.binds (ps := ["s", "a", "b", "c"]) fun _ _ _ _ _ _ us hl => match us, hl with | [_, _, _, _], _ => rfl
  have F_broken_at := fun_mk (st := s_broken_at) l_broken_at c_broken_at k_broken_at
  have F_first_fault := fun_mk (st := s_first_fault) l_first_fault c_first_fault k_first_fault
  have S_join_same := ok_join_same (w := w) (base := base) (Cs := [CT, CP, CR, CH]) c_then_at c_join_at F_join_same
  have S_join_swap := ok_join_swap (w := w) (base := base) (Cs := [CT, CP, CR, CH]) c_then_at c_join_at F_join_swap
  have S_join_group := ok_join_group (w := w) (base := base) (Cs := [CT, CP, CR, CH]) c_then_at c_join_at F_join_group
  have S_join_never := ok_join_never (w := w) (base := base) (Cs := [CT, CP, CR, CH]) c_then_at c_join_at F_join_never
  have S_then_group := ok_then_group (w := w) (base := base) (Cs := [CT, CP, CR, CH]) c_then_at c_join_at F_then_group
  have S_then_still := ok_then_still (w := w) (base := base) (Cs := [CT, CP, CR, CH]) c_then_at c_join_at F_then_still
  have S_then_never := ok_then_never (w := w) (base := base) (Cs := [CT, CP, CR, CH]) c_then_at c_join_at F_then_never
  have S_spread_left := ok_spread_left (w := w) (base := base) (Cs := [CT, CP, CR, CH]) c_then_at c_join_at F_spread_left
  have S_spread_right := ok_spread_right (w := w) (base := base) (Cs := [CT, CP, CR, CH]) c_then_at c_join_at F_spread_right
  have hA : ∀ g sp, SfF K [CT, CP, CR, CH] [f_join_same, f_join_swap, f_join_group, f_join_never, f_then_group, f_then_still, f_then_never, f_spread_left, f_spread_right] g = some sp → Held l.prog w K mg base 2 g sp := by
    intro g sp h
    unfold SfF at h
    split at h
    · rename_i hm
      obtain rfl := Option.some.inj h
      simp only [List.mem_cons, List.not_mem_nil, or_false] at hm
      rcases hm with hm | hm | hm | hm | hm | hm | hm | hm | hm
      · rw [hm, show ([f_join_same, f_join_swap, f_join_group, f_join_never, f_then_group, f_then_still, f_then_never, f_spread_left, f_spread_right] : List Addr).idxOf f_join_same = 0 from nd9.idxOf_getElem 0 (by show 0 < 9; decide)]
        exact ⟨⟨_, _, S_join_same, k_join_same, b_join_same⟩⟩
      · rw [hm, show ([f_join_same, f_join_swap, f_join_group, f_join_never, f_then_group, f_then_still, f_then_never, f_spread_left, f_spread_right] : List Addr).idxOf f_join_swap = 1 from nd9.idxOf_getElem 1 (by show 1 < 9; decide)]
        exact ⟨⟨_, _, S_join_swap, k_join_swap, b_join_swap⟩⟩
      · rw [hm, show ([f_join_same, f_join_swap, f_join_group, f_join_never, f_then_group, f_then_still, f_then_never, f_spread_left, f_spread_right] : List Addr).idxOf f_join_group = 2 from nd9.idxOf_getElem 2 (by show 2 < 9; decide)]
        exact ⟨⟨_, _, S_join_group, k_join_group, b_join_group⟩⟩
      · rw [hm, show ([f_join_same, f_join_swap, f_join_group, f_join_never, f_then_group, f_then_still, f_then_never, f_spread_left, f_spread_right] : List Addr).idxOf f_join_never = 3 from nd9.idxOf_getElem 3 (by show 3 < 9; decide)]
        exact ⟨⟨_, _, S_join_never, k_join_never, b_join_never⟩⟩
      · rw [hm, show ([f_join_same, f_join_swap, f_join_group, f_join_never, f_then_group, f_then_still, f_then_never, f_spread_left, f_spread_right] : List Addr).idxOf f_then_group = 4 from nd9.idxOf_getElem 4 (by show 4 < 9; decide)]
        exact ⟨⟨_, _, S_then_group, k_then_group, b_then_group⟩⟩
      · rw [hm, show ([f_join_same, f_join_swap, f_join_group, f_join_never, f_then_group, f_then_still, f_then_never, f_spread_left, f_spread_right] : List Addr).idxOf f_then_still = 5 from nd9.idxOf_getElem 5 (by show 5 < 9; decide)]
        exact ⟨⟨_, _, S_then_still, k_then_still, b_then_still⟩⟩
      · rw [hm, show ([f_join_same, f_join_swap, f_join_group, f_join_never, f_then_group, f_then_still, f_then_never, f_spread_left, f_spread_right] : List Addr).idxOf f_then_never = 6 from nd9.idxOf_getElem 6 (by show 6 < 9; decide)]
        exact ⟨⟨_, _, S_then_never, k_then_never, b_then_never⟩⟩
      · rw [hm, show ([f_join_same, f_join_swap, f_join_group, f_join_never, f_then_group, f_then_still, f_then_never, f_spread_left, f_spread_right] : List Addr).idxOf f_spread_left = 7 from nd9.idxOf_getElem 7 (by show 7 < 9; decide)]
        exact ⟨⟨_, _, S_spread_left, k_spread_left, b_spread_left⟩⟩
      · rw [hm, show ([f_join_same, f_join_swap, f_join_group, f_join_never, f_then_group, f_then_still, f_then_never, f_spread_left, f_spread_right] : List Addr).idxOf f_spread_right = 8 from nd9.idxOf_getElem 8 (by show 8 < 9; decide)]
        exact ⟨⟨_, _, S_spread_right, k_spread_right, b_spread_right⟩⟩
    · cases h
  have b_broken_at := F_broken_at.binds (ps := ["scale", "sides", "many"]) fun _ _ _ _ _ _ us hl => match us, hl with | [_, _, _], _ => rfl
  have c__broken_at : Callee l.prog w K mg base "broken_at" CX0 3 ["scale", "sides", "many"] [] (spP (PBrk K [CT, CP, CR, CH] [f_join_same, f_join_swap, f_join_group, f_join_never, f_then_group, f_then_still, f_then_never, f_spread_left, f_spread_right])) := ⟨f_broken_at, _, [], PySem.W.mg_of X G a_f_broken_at, k_broken_at, ok_broken_at Z hA F_broken_at, b_broken_at, .nil⟩
  have hr9 : ∀ (i : Nat) r, ([r0, r1, r2, r3, r4, r5, r6, r7, r8] : List Addr)[i]? = some r → ∃ f, ([f_join_same, f_join_swap, f_join_group, f_join_never, f_then_group, f_then_still, f_then_never, f_spread_left, f_spread_right] : List Addr)[i]? = some f ∧ ∀ H, SqT K H r [.str (wordsF i), .int (lensF i : Nat), .ref f] := by
    intro i r h
    match i, h with
    | 0, h =>
      obtain rfl := Option.some.inj h
      exact ⟨_, rfl, mk_sqT lR0 (by show 3 ≤ 1000; decide) (.cons ⟨_, rfl⟩ (.cons ⟨_, rfl⟩ (.cons rfl .nil)))⟩
    | 1, h =>
      obtain rfl := Option.some.inj h
      exact ⟨_, rfl, mk_sqT lR1 (by show 3 ≤ 1000; decide) (.cons ⟨_, rfl⟩ (.cons ⟨_, rfl⟩ (.cons rfl .nil)))⟩
    | 2, h =>
      obtain rfl := Option.some.inj h
      exact ⟨_, rfl, mk_sqT lR2 (by show 3 ≤ 1000; decide) (.cons ⟨_, rfl⟩ (.cons ⟨_, rfl⟩ (.cons rfl .nil)))⟩
    | 3, h =>
      obtain rfl := Option.some.inj h
      exact ⟨_, rfl, mk_sqT lR3 (by show 3 ≤ 1000; decide) (.cons ⟨_, rfl⟩ (.cons ⟨_, rfl⟩ (.cons rfl .nil)))⟩
    | 4, h =>
      obtain rfl := Option.some.inj h
      exact ⟨_, rfl, mk_sqT lR4 (by show 3 ≤ 1000; decide) (.cons ⟨_, rfl⟩ (.cons ⟨_, rfl⟩ (.cons rfl .nil)))⟩
    | 5, h =>
      obtain rfl := Option.some.inj h
      exact ⟨_, rfl, mk_sqT lR5 (by show 3 ≤ 1000; decide) (.cons ⟨_, rfl⟩ (.cons ⟨_, rfl⟩ (.cons rfl .nil)))⟩
    | 6, h =>
      obtain rfl := Option.some.inj h
      exact ⟨_, rfl, mk_sqT lR6 (by show 3 ≤ 1000; decide) (.cons ⟨_, rfl⟩ (.cons ⟨_, rfl⟩ (.cons rfl .nil)))⟩
    | 7, h =>
      obtain rfl := Option.some.inj h
      exact ⟨_, rfl, mk_sqT lR7 (by show 3 ≤ 1000; decide) (.cons ⟨_, rfl⟩ (.cons ⟨_, rfl⟩ (.cons rfl .nil)))⟩
    | 8, h =>
      obtain rfl := Option.some.inj h
      exact ⟨_, rfl, mk_sqT lR8 (by show 3 ≤ 1000; decide) (.cons ⟨_, rfl⟩ (.cons ⟨_, rfl⟩ (.cons rfl .nil)))⟩
    | n + 9, h => cases h
  have b_first_fault := F_first_fault.binds (ps := ["scale"]) fun _ _ _ _ _ _ us hl => match us, hl with | [_], _ => rfl
  have c__first_fault : Callee l.prog w K mg base "first_fault" CX0 4 ["scale"] [] (spP (PFft K [CT, CP, CR, CH])) := ⟨f_first_fault, _, [], PySem.W.mg_of X G a_f_first_fault, k_first_fault, ok_first_fault (rs := [r0, r1, r2, r3, r4, r5, r6, r7, r8]) Z (PySem.W.mg_of X G a_aR) (mk_sqT lR (by show 9 ≤ 1000; decide) (.cons rfl (.cons rfl (.cons rfl (.cons rfl (.cons rfl (.cons rfl (.cons rfl (.cons rfl (.cons rfl .nil)))))))))) rfl hr9 nd9 c__broken_at c_name_at F_first_fault, b_first_fault, .nil⟩
  have b__law_join := F__law_join.binds (ps := ["_law_sort", "_law_a", "_law_b"]) fun _ _ _ _ _ _ us hl => match us, hl with | [_, _, _], _ => rfl
  have c___law_join : Callee l.prog w K mg base "_law_join" CX0 1 ["_law_sort", "_law_a", "_law_b"] [] (spP PLjn) := ⟨f__law_join, _, [], PySem.W.mg_of X G a_f__law_join, k__law_join, ok_ljn Z F__law_join, b__law_join, .nil⟩
  have b__law_then := F__law_then.binds (ps := ["_law_sort", "_law_most", "_law_a", "_law_b"]) fun _ _ _ _ _ _ us hl => match us, hl with | [_, _, _, _], _ => rfl
  have c___law_then : Callee l.prog w K mg base "_law_then" CX0 1 ["_law_sort", "_law_most", "_law_a", "_law_b"] [] (spP PLth) := ⟨f__law_then, _, [], PySem.W.mg_of X G a_f__law_then, k__law_then, ok_lth Z F__law_then, b__law_then, .nil⟩
  have b__law_table_scale := F__law_table_scale.binds (ps := ["_law_names", "_law_joins", "_law_products", "_law_low", "_law_mid"]) fun _ _ _ _ _ _ us hl => match us, hl with | [_, _, _, _, _], _ => rfl
  have c___law_table_scale : Callee l.prog w K mg base "_law_table_scale" CX0 12 ["_law_names", "_law_joins", "_law_products", "_law_low", "_law_mid"] [] (spP (PTscX K [CT, CP, CR, CH])) := ⟨f__law_table_scale, _, [], PySem.W.mg_of X G a_f__law_table_scale, k__law_table_scale, ok_tscX Z (by simp) o_CT mkK_CT F__law_table_scale, b__law_table_scale, .nil⟩
  have b__law_tables := F__law_tables.binds (ps := ["_law_state"]) fun _ _ _ _ _ _ us hl => match us, hl with | [_], _ => rfl
  have c___law_tables : Callee l.prog w K mg base "_law_tables" CX0 13 ["_law_state"] [] (spS PTbsF) := ⟨f__law_tables, _, [], PySem.W.mg_of X G a_f__law_tables, k__law_tables, ok_tablesF (Cs := [CT, CP, CR, CH]) Z c___law_pick c___law_join c___law_then c___law_table_scale F__law_tables, b__law_tables, .nil⟩
  have b__law_fails := F__law_fails.binds (ps := ["_law_tables_here", "_law_rule", "_law_a", "_law_b", "_law_c"]) fun _ _ _ _ _ _ us hl => match us, hl with | [_, _, _, _, _], _ => rfl
  have c___law_fails : Callee l.prog w K mg base "_law_fails" CX0 1 ["_law_tables_here", "_law_rule", "_law_a", "_law_b", "_law_c"] [] (spP PFls) := ⟨f__law_fails, _, [], PySem.W.mg_of X G a_f__law_fails, k__law_fails, ok_fails Z F__law_fails, b__law_fails, .nil⟩
  have b__law_fault := F__law_fault.binds (ps := ["_law_tables_here", "_law_names"]) fun _ _ _ _ _ _ us hl => match us, hl with | [_, _], _ => rfl
  have c___law_fault : Callee l.prog w K mg base "_law_fault" CX0 2 ["_law_tables_here", "_law_names"] [] (spP (PLft K)) := ⟨f__law_fault, _, [], PySem.W.mg_of X G a_f__law_fault, k__law_fault, ok_lfault Z c___law_fails F__law_fault, b__law_fault, .nil⟩
  have b__law_scale_of := F__law_scale_of.binds (ps := ["_law_tables_here", "_law_names"]) fun _ _ _ _ _ _ us hl => match us, hl with | [_, _], _ => rfl
  have c___law_scale_of : Callee l.prog w K mg base "_law_scale_of" CX0 12 ["_law_tables_here", "_law_names"] [] (spP (PLso K [CT, CP, CR, CH])) := ⟨f__law_scale_of, _, [], PySem.W.mg_of X G a_f__law_scale_of, k__law_scale_of, ok_scale_of Z (by simp) o_CT mkK_CT F__law_scale_of, b__law_scale_of, .nil⟩
  have b__law_free := F__law_free.binds (ps := ["_law_state", "_law_many"]) fun _ _ _ _ _ _ us hl => match us, hl with | [_, _], _ => rfl
  have c___law_free : Callee l.prog w K mg base "_law_free" CX0 2 ["_law_state", "_law_many"] [] (spS PFr9) := ⟨f__law_free, _, [], PySem.W.mg_of X G a_f__law_free, k__law_free, ok_free9 Z c___law_pick F__law_free, b__law_free, .nil⟩
  have b__law_change := F__law_change.binds (ps := ["_law_state", "_law_tables_here"]) fun _ _ _ _ _ _ us hl => match us, hl with | [_, _], _ => rfl
  have c___law_change : Callee l.prog w K mg base "_law_change" CX0 2 ["_law_state", "_law_tables_here"] [] sp_chg9 := ⟨f__law_change, _, [], PySem.W.mg_of X G a_f__law_change, k__law_change, ok_chg Z c___law_pick F__law_change, b__law_change, .nil⟩
  have b__law_pair_right := F__law_pair_right.binds (ps := ["_law_state"]) fun _ _ _ _ _ _ us hl => match us, hl with | [_], _ => rfl
  have c___law_pair_right : Callee l.prog w K mg base "_law_pair_right" CX0 13 ["_law_state"] [] (spS PPr9) := ⟨f__law_pair_right, _, [], PySem.W.mg_of X G a_f__law_pair_right, k__law_pair_right, ok_pair9 (Cs := [CT, CP, CR, CH]) Z (by simp) o_CP c___law_pick c___law_free c___law_scale_of mk_CP c__first_fault c___law_fault c___law_like F__law_pair_right, b__law_pair_right, .nil⟩
  have b__law_heap_right := F__law_heap_right.binds (ps := ["_law_state"]) fun _ _ _ _ _ _ us hl => match us, hl with | [_], _ => rfl
  have c___law_heap_right : Callee l.prog w K mg base "_law_heap_right" CX0 13 ["_law_state"] [] (spS PPr9) := ⟨f__law_heap_right, _, [], PySem.W.mg_of X G a_f__law_heap_right, k__law_heap_right, ok_heap9 (Cs := [CT, CP, CR, CH]) Z (by simp) o_CH c___law_pick c___law_free c___law_scale_of mk_CH c__first_fault c___law_fault c___law_like F__law_heap_right, b__law_heap_right, .nil⟩
  exact ok_law9 (Cs := [CT, CP, CR, CH]) Z (by simp) o_CR c___law_source c___law_pick c___law_free c___law_scale_of c___law_tables c___law_change c___law_pair_right c___law_heap_right mk_CR c__first_fault c___law_fault c___law_like F_law
theorem facts_mk {w : World} {K : Fg} {h : Heap} {mg : Str → Option Value} {fa : Addr} (X : K.In h) (G : h.Ns mainGlobals mg) (hfa : mg "law" = some (.ref fa)) (c : SaysB fsH dfsH [] w K) :
    ∃ fd : FuncData, (∀ (s : Shared) (v : Value), BindsTo s fd ⟨[v], []⟩ [("_law_script", v)]) ∧ ∀ base : Heap, K.In base → base.Ns mainGlobals mg → FnOk (PySem.Challenge.rw_deedscale_k09_first_fault).prog w K mg base CX0 15 fa fd ["_law_script"] (sp_law K) := by
  have h0 : ckH0 K = true := c.fact 0
  obtain ⟨q0, h0⟩ := and2 h0
  obtain ⟨q1, h0⟩ := and2 h0
  obtain ⟨q2, h0⟩ := and2 h0
  obtain ⟨q3, h0⟩ := and2 h0
  obtain ⟨q4, h0⟩ := and2 h0
  obtain ⟨q5, h0⟩ := and2 h0
  obtain ⟨q6, h0⟩ := and2 h0
  obtain ⟨q7, h0⟩ := and2 h0
  obtain ⟨q8, h0⟩ := and2 h0
  obtain ⟨q9, h0⟩ := and2 h0
  obtain ⟨q10, h0⟩ := and2 h0
  have q11 := h0
  have h1 : ckH1 K = true := c.fact 1
  obtain ⟨q12, h1⟩ := and2 h1
  obtain ⟨q13, h1⟩ := and2 h1
  obtain ⟨q14, h1⟩ := and2 h1
  obtain ⟨q15, h1⟩ := and2 h1
  obtain ⟨q16, h1⟩ := and2 h1
  obtain ⟨q17, h1⟩ := and2 h1
  obtain ⟨q18, h1⟩ := and2 h1
  obtain ⟨q19, h1⟩ := and2 h1
  obtain ⟨q20, h1⟩ := and2 h1
  obtain ⟨q21, h1⟩ := and2 h1
  obtain ⟨q22, h1⟩ := and2 h1
  have q23 := h1
  have h2 : ckH2 K = true := c.fact 2
  obtain ⟨q24, h2⟩ := and2 h2
  obtain ⟨q25, h2⟩ := and2 h2
  obtain ⟨q26, h2⟩ := and2 h2
  obtain ⟨q27, h2⟩ := and2 h2
  obtain ⟨q28, h2⟩ := and2 h2
  obtain ⟨q29, h2⟩ := and2 h2
  obtain ⟨q30, h2⟩ := and2 h2
  obtain ⟨q31, h2⟩ := and2 h2
  obtain ⟨q32, h2⟩ := and2 h2
  obtain ⟨q33, h2⟩ := and2 h2
  obtain ⟨q34, h2⟩ := and2 h2
  have q35 := h2
  have h3 : ckH3 K = true := c.fact 3
  obtain ⟨q36, h3⟩ := and2 h3
  obtain ⟨q37, h3⟩ := and2 h3
  obtain ⟨q38, h3⟩ := and2 h3
  obtain ⟨q39, h3⟩ := and2 h3
  obtain ⟨q40, h3⟩ := and2 h3
  obtain ⟨q41, h3⟩ := and2 h3
  obtain ⟨q42, h3⟩ := and2 h3
  obtain ⟨q43, h3⟩ := and2 h3
  obtain ⟨q44, h3⟩ := and2 h3
  obtain ⟨q45, h3⟩ := and2 h3
  obtain ⟨q46, h3⟩ := and2 h3
  have q47 := h3
  have h4 : ckH4 K = true := c.fact 4
  obtain ⟨q48, h4⟩ := and2 h4
  obtain ⟨q49, h4⟩ := and2 h4
  obtain ⟨q50, h4⟩ := and2 h4
  obtain ⟨q51, h4⟩ := and2 h4
  obtain ⟨q52, h4⟩ := and2 h4
  obtain ⟨q53, h4⟩ := and2 h4
  obtain ⟨q54, h4⟩ := and2 h4
  obtain ⟨q55, h4⟩ := and2 h4
  obtain ⟨q56, h4⟩ := and2 h4
  obtain ⟨q57, h4⟩ := and2 h4
  obtain ⟨q58, h4⟩ := and2 h4
  have q59 := h4
  have h5 : ckH5 K = true := c.fact 5
  obtain ⟨q60, h5⟩ := and2 h5
  obtain ⟨q61, h5⟩ := and2 h5
  obtain ⟨q62, h5⟩ := and2 h5
  obtain ⟨q63, h5⟩ := and2 h5
  obtain ⟨q64, h5⟩ := and2 h5
  obtain ⟨q65, h5⟩ := and2 h5
  obtain ⟨q66, h5⟩ := and2 h5
  obtain ⟨q67, h5⟩ := and2 h5
  obtain ⟨q68, h5⟩ := and2 h5
  obtain ⟨q69, h5⟩ := and2 h5
  obtain ⟨q70, h5⟩ := and2 h5
  have q71 := h5
  have h6 : ckH6 K = true := c.fact 6
  obtain ⟨q72, h6⟩ := and2 h6
  obtain ⟨q73, h6⟩ := and2 h6
  obtain ⟨q74, h6⟩ := and2 h6
  obtain ⟨q75, h6⟩ := and2 h6
  obtain ⟨q76, h6⟩ := and2 h6
  obtain ⟨q77, h6⟩ := and2 h6
  obtain ⟨q78, h6⟩ := and2 h6
  obtain ⟨q79, h6⟩ := and2 h6
  obtain ⟨q80, h6⟩ := and2 h6
  obtain ⟨q81, h6⟩ := and2 h6
  obtain ⟨q82, h6⟩ := and2 h6
  have q83 := h6
  have h7 : ckH7 K = true := c.fact 7
  obtain ⟨q84, h7⟩ := and2 h7
  obtain ⟨q85, h7⟩ := and2 h7
  obtain ⟨q86, h7⟩ := and2 h7
  obtain ⟨q87, h7⟩ := and2 h7
  obtain ⟨q88, h7⟩ := and2 h7
  obtain ⟨q89, h7⟩ := and2 h7
  obtain ⟨q90, h7⟩ := and2 h7
  obtain ⟨q91, h7⟩ := and2 h7
  obtain ⟨q92, h7⟩ := and2 h7
  obtain ⟨q93, h7⟩ := and2 h7
  obtain ⟨q94, h7⟩ := and2 h7
  have q95 := h7
  have h8 : ckH8 K = true := c.fact 8
  obtain ⟨q96, h8⟩ := and2 h8
  obtain ⟨q97, h8⟩ := and2 h8
  obtain ⟨q98, h8⟩ := and2 h8
  obtain ⟨q99, h8⟩ := and2 h8
  obtain ⟨q100, h8⟩ := and2 h8
  obtain ⟨q101, h8⟩ := and2 h8
  obtain ⟨q102, h8⟩ := and2 h8
  obtain ⟨q103, h8⟩ := and2 h8
  obtain ⟨q104, h8⟩ := and2 h8
  obtain ⟨q105, h8⟩ := and2 h8
  obtain ⟨q106, h8⟩ := and2 h8
  have q107 := h8
  have h9 : ckH9 K = true := c.fact 9
  obtain ⟨q108, h9⟩ := and2 h9
  obtain ⟨q109, h9⟩ := and2 h9
  obtain ⟨q110, h9⟩ := and2 h9
  obtain ⟨q111, h9⟩ := and2 h9
  obtain ⟨q112, h9⟩ := and2 h9
  obtain ⟨q113, h9⟩ := and2 h9
  obtain ⟨q114, h9⟩ := and2 h9
  obtain ⟨q115, h9⟩ := and2 h9
  obtain ⟨q116, h9⟩ := and2 h9
  obtain ⟨q117, h9⟩ := and2 h9
  obtain ⟨q118, h9⟩ := and2 h9
  have q119 := h9
  have h10 : ckH10 K = true := c.fact 10
  obtain ⟨q120, h10⟩ := and2 h10
  obtain ⟨q121, h10⟩ := and2 h10
  obtain ⟨q122, h10⟩ := and2 h10
  obtain ⟨q123, h10⟩ := and2 h10
  obtain ⟨q124, h10⟩ := and2 h10
  obtain ⟨q125, h10⟩ := and2 h10
  obtain ⟨q126, h10⟩ := and2 h10
  obtain ⟨q127, h10⟩ := and2 h10
  obtain ⟨q128, h10⟩ := and2 h10
  obtain ⟨q129, h10⟩ := and2 h10
  obtain ⟨q130, h10⟩ := and2 h10
  have q131 := h10
  have h11 : ckH11 K = true := c.fact 11
  obtain ⟨q132, h11⟩ := and2 h11
  obtain ⟨q133, h11⟩ := and2 h11
  obtain ⟨q134, h11⟩ := and2 h11
  obtain ⟨q135, h11⟩ := and2 h11
  obtain ⟨q136, h11⟩ := and2 h11
  obtain ⟨q137, h11⟩ := and2 h11
  obtain ⟨q138, h11⟩ := and2 h11
  obtain ⟨q139, h11⟩ := and2 h11
  obtain ⟨q140, h11⟩ := and2 h11
  obtain ⟨q141, h11⟩ := and2 h11
  obtain ⟨q142, h11⟩ := and2 h11
  have q143 := h11
  have h12 : ckH12 K = true := c.fact 12
  obtain ⟨q144, h12⟩ := and2 h12
  obtain ⟨q145, h12⟩ := and2 h12
  obtain ⟨q146, h12⟩ := and2 h12
  obtain ⟨q147, h12⟩ := and2 h12
  obtain ⟨q148, h12⟩ := and2 h12
  obtain ⟨q149, h12⟩ := and2 h12
  obtain ⟨q150, h12⟩ := and2 h12
  obtain ⟨q151, h12⟩ := and2 h12
  obtain ⟨q152, h12⟩ := and2 h12
  obtain ⟨q153, h12⟩ := and2 h12
  obtain ⟨q154, h12⟩ := and2 h12
  have q155 := h12
  have h13 : ckH13 K = true := c.fact 13
  obtain ⟨q156, h13⟩ := and2 h13
  obtain ⟨q157, h13⟩ := and2 h13
  obtain ⟨q158, h13⟩ := and2 h13
  obtain ⟨q159, h13⟩ := and2 h13
  obtain ⟨q160, h13⟩ := and2 h13
  obtain ⟨q161, h13⟩ := and2 h13
  obtain ⟨q162, h13⟩ := and2 h13
  obtain ⟨q163, h13⟩ := and2 h13
  obtain ⟨q164, h13⟩ := and2 h13
  obtain ⟨q165, h13⟩ := and2 h13
  obtain ⟨q166, h13⟩ := and2 h13
  have q167 := h13
  have h14 : ckH14 K = true := c.fact 14
  obtain ⟨q168, h14⟩ := and2 h14
  obtain ⟨q169, h14⟩ := and2 h14
  obtain ⟨q170, h14⟩ := and2 h14
  obtain ⟨q171, h14⟩ := and2 h14
  obtain ⟨q172, h14⟩ := and2 h14
  obtain ⟨q173, h14⟩ := and2 h14
  obtain ⟨q174, h14⟩ := and2 h14
  obtain ⟨q175, h14⟩ := and2 h14
  obtain ⟨q176, h14⟩ := and2 h14
  obtain ⟨q177, h14⟩ := and2 h14
  obtain ⟨q178, h14⟩ := and2 h14
  have q179 := h14
  have h15 : ckH15 K = true := c.fact 15
  obtain ⟨q180, h15⟩ := and2 h15
  obtain ⟨q181, h15⟩ := and2 h15
  obtain ⟨q182, h15⟩ := and2 h15
  obtain ⟨q183, h15⟩ := and2 h15
  obtain ⟨q184, h15⟩ := and2 h15
  obtain ⟨q185, h15⟩ := and2 h15
  obtain ⟨q186, h15⟩ := and2 h15
  obtain ⟨q187, h15⟩ := and2 h15
  obtain ⟨q188, h15⟩ := and2 h15
  obtain ⟨q189, h15⟩ := and2 h15
  obtain ⟨q190, h15⟩ := and2 h15
  have q191 := h15
  have h16 : ckH16 K = true := c.fact 16
  obtain ⟨q192, h16⟩ := and2 h16
  obtain ⟨q193, h16⟩ := and2 h16
  obtain ⟨q194, h16⟩ := and2 h16
  obtain ⟨q195, h16⟩ := and2 h16
  obtain ⟨q196, h16⟩ := and2 h16
  obtain ⟨q197, h16⟩ := and2 h16
  obtain ⟨q198, h16⟩ := and2 h16
  obtain ⟨q199, h16⟩ := and2 h16
  obtain ⟨q200, h16⟩ := and2 h16
  obtain ⟨q201, h16⟩ := and2 h16
  obtain ⟨q202, h16⟩ := and2 h16
  have q203 := h16
  have h17 : ckH17 K = true := c.fact 17
  obtain ⟨q204, h17⟩ := and2 h17
  obtain ⟨q205, h17⟩ := and2 h17
  obtain ⟨q206, h17⟩ := and2 h17
  obtain ⟨q207, h17⟩ := and2 h17
  obtain ⟨q208, h17⟩ := and2 h17
  obtain ⟨q209, h17⟩ := and2 h17
  obtain ⟨q210, h17⟩ := and2 h17
  obtain ⟨q211, h17⟩ := and2 h17
  obtain ⟨q212, h17⟩ := and2 h17
  obtain ⟨q213, h17⟩ := and2 h17
  obtain ⟨q214, h17⟩ := and2 h17
  have q215 := h17
  have h18 : ckH18 K = true := c.fact 18
  obtain ⟨q216, h18⟩ := and2 h18
  obtain ⟨q217, h18⟩ := and2 h18
  obtain ⟨q218, h18⟩ := and2 h18
  obtain ⟨q219, h18⟩ := and2 h18
  obtain ⟨q220, h18⟩ := and2 h18
  obtain ⟨q221, h18⟩ := and2 h18
  obtain ⟨q222, h18⟩ := and2 h18
  obtain ⟨q223, h18⟩ := and2 h18
  obtain ⟨q224, h18⟩ := and2 h18
  obtain ⟨q225, h18⟩ := and2 h18
  obtain ⟨q226, h18⟩ := and2 h18
  have q227 := h18
  have h19 : ckH19 K = true := c.fact 19
  obtain ⟨q228, h19⟩ := and2 h19
  obtain ⟨q229, h19⟩ := and2 h19
  obtain ⟨q230, h19⟩ := and2 h19
  obtain ⟨q231, h19⟩ := and2 h19
  obtain ⟨q232, h19⟩ := and2 h19
  obtain ⟨q233, h19⟩ := and2 h19
  obtain ⟨q234, h19⟩ := and2 h19
  obtain ⟨q235, h19⟩ := and2 h19
  obtain ⟨q236, h19⟩ := and2 h19
  obtain ⟨q237, h19⟩ := and2 h19
  obtain ⟨q238, h19⟩ := and2 h19
  have q239 := h19
  have h20 : ckH20 K = true := c.fact 20
  obtain ⟨q240, h20⟩ := and2 h20
  obtain ⟨q241, h20⟩ := and2 h20
  obtain ⟨q242, h20⟩ := and2 h20
  obtain ⟨q243, h20⟩ := and2 h20
  have q244 := h20
  obtain ⟨T_Scale___init__, oc_Scale___init__, od_Scale___init__, kV_Scale___init__, dc_Scale___init__, pm_Scale___init__, an_Scale___init__, cd_Scale___init__, ct_Scale___init__, sl_Scale___init__, cT, dT, tT, nT, slT, l_Scale___init__, c_Scale___init__, k_Scale___init__, lT⟩ := fnlI_of (st := s_Scale___init__) (c.fn 0) q0
  obtain ⟨oc_is_table_name, od_is_table_name, kV_is_table_name, dc_is_table_name, pm_is_table_name, an_is_table_name, cd_is_table_name, ct_is_table_name, sl_is_table_name, l_is_table_name, c_is_table_name, k_is_table_name⟩ := fnl_of (st := s_is_table_name) (c.fn 1) q1
  obtain ⟨oc_table_places, od_table_places, kV_table_places, dc_table_places, pm_table_places, an_table_places, cd_table_places, ct_table_places, sl_table_places, l_table_places, c_table_places, k_table_places⟩ := fnl_of (st := s_table_places) (c.fn 2) q2
  obtain ⟨oc_depth_above, od_depth_above, kV_depth_above, dc_depth_above, pm_depth_above, an_depth_above, cd_depth_above, ct_depth_above, sl_depth_above, l_depth_above, c_depth_above, k_depth_above⟩ := fnl_of (st := s_depth_above) (c.fn 3) q3
  obtain ⟨oc_half_places, od_half_places, kV_half_places, dc_half_places, pm_half_places, an_half_places, cd_half_places, ct_half_places, sl_half_places, l_half_places, c_half_places, k_half_places⟩ := fnl_of (st := s_half_places) (c.fn 4) q4
  obtain ⟨oc_Scale_then_at, od_Scale_then_at, kV_Scale_then_at, dc_Scale_then_at, pm_Scale_then_at, an_Scale_then_at, cd_Scale_then_at, ct_Scale_then_at, sl_Scale_then_at, l_Scale_then_at, c_Scale_then_at, k_Scale_then_at⟩ := fnl_of (st := s_Scale_then_at) (c.fn 5) q5
  obtain ⟨oc_Scale_join_at, od_Scale_join_at, kV_Scale_join_at, dc_Scale_join_at, pm_Scale_join_at, an_Scale_join_at, cd_Scale_join_at, ct_Scale_join_at, sl_Scale_join_at, l_Scale_join_at, c_Scale_join_at, k_Scale_join_at⟩ := fnl_of (st := s_Scale_join_at) (c.fn 6) q6
  obtain ⟨oc_Scale_name_at, od_Scale_name_at, kV_Scale_name_at, dc_Scale_name_at, pm_Scale_name_at, an_Scale_name_at, cd_Scale_name_at, ct_Scale_name_at, sl_Scale_name_at, l_Scale_name_at, c_Scale_name_at, k_Scale_name_at⟩ := fnl_of (st := s_Scale_name_at) (c.fn 7) q7
  obtain ⟨oc_TableScale_make_then, od_TableScale_make_then, kV_TableScale_make_then, dc_TableScale_make_then, pm_TableScale_make_then, an_TableScale_make_then, cd_TableScale_make_then, ct_TableScale_make_then, sl_TableScale_make_then, l_TableScale_make_then, c_TableScale_make_then, k_TableScale_make_then⟩ := fnl_of (st := s_TableScale_make_then) (c.fn 8) q8
  obtain ⟨oc_TableScale_make_join, od_TableScale_make_join, kV_TableScale_make_join, dc_TableScale_make_join, pm_TableScale_make_join, an_TableScale_make_join, cd_TableScale_make_join, ct_TableScale_make_join, sl_TableScale_make_join, l_TableScale_make_join, c_TableScale_make_join, k_TableScale_make_join⟩ := fnl_of (st := s_TableScale_make_join) (c.fn 9) q9
  obtain ⟨oc_PairScale_make_then, od_PairScale_make_then, kV_PairScale_make_then, dc_PairScale_make_then, pm_PairScale_make_then, an_PairScale_make_then, cd_PairScale_make_then, ct_PairScale_make_then, sl_PairScale_make_then, l_PairScale_make_then, c_PairScale_make_then, k_PairScale_make_then⟩ := fnl_of (st := s_PairScale_make_then) (c.fn 10) q10
  obtain ⟨oc_PairScale_make_join, od_PairScale_make_join, kV_PairScale_make_join, dc_PairScale_make_join, pm_PairScale_make_join, an_PairScale_make_join, cd_PairScale_make_join, ct_PairScale_make_join, sl_PairScale_make_join, l_PairScale_make_join, c_PairScale_make_join, k_PairScale_make_join⟩ := fnl_of (st := s_PairScale_make_join) (c.fn 11) q11
  obtain ⟨oc_TurnedScale_make_then, od_TurnedScale_make_then, kV_TurnedScale_make_then, dc_TurnedScale_make_then, pm_TurnedScale_make_then, an_TurnedScale_make_then, cd_TurnedScale_make_then, ct_TurnedScale_make_then, sl_TurnedScale_make_then, l_TurnedScale_make_then, c_TurnedScale_make_then, k_TurnedScale_make_then⟩ := fnl_of (st := s_TurnedScale_make_then) (c.fn 12) q12
  obtain ⟨oc_TurnedScale_make_join, od_TurnedScale_make_join, kV_TurnedScale_make_join, dc_TurnedScale_make_join, pm_TurnedScale_make_join, an_TurnedScale_make_join, cd_TurnedScale_make_join, ct_TurnedScale_make_join, sl_TurnedScale_make_join, l_TurnedScale_make_join, c_TurnedScale_make_join, k_TurnedScale_make_join⟩ := fnl_of (st := s_TurnedScale_make_join) (c.fn 13) q13
  obtain ⟨oc_HeapScale_make_then, od_HeapScale_make_then, kV_HeapScale_make_then, dc_HeapScale_make_then, pm_HeapScale_make_then, an_HeapScale_make_then, cd_HeapScale_make_then, ct_HeapScale_make_then, sl_HeapScale_make_then, l_HeapScale_make_then, c_HeapScale_make_then, k_HeapScale_make_then⟩ := fnl_of (st := s_HeapScale_make_then) (c.fn 14) q14
  obtain ⟨oc_HeapScale_make_join, od_HeapScale_make_join, kV_HeapScale_make_join, dc_HeapScale_make_join, pm_HeapScale_make_join, an_HeapScale_make_join, cd_HeapScale_make_join, ct_HeapScale_make_join, sl_HeapScale_make_join, l_HeapScale_make_join, c_HeapScale_make_join, k_HeapScale_make_join⟩ := fnl_of (st := s_HeapScale_make_join) (c.fn 15) q15
  obtain ⟨oc_TableScale___init__, od_TableScale___init__, kV_TableScale___init__, dc_TableScale___init__, pm_TableScale___init__, an_TableScale___init__, cda_TableScale___init__, ct_TableScale___init__, sl_TableScale___init__, cc_TableScale___init__, q1_TableScale___init__, e1_TableScale___init__, vs_TableScale___init__, g1_TableScale___init__, fi_TableScale___init__, tf_TableScale___init__, q2_TableScale___init__, e2_TableScale___init__, g2_TableScale___init__, l_TableScale___init__, c_TableScale___init__, lc_TableScale___init__, hv_TableScale___init__, hf_TableScale___init__, lx_TableScale___init__, k_TableScale___init__, fi2_TableScale___init__, ty_TableScale___init__, kw0_TableScale___init__⟩ := sup_of (st := s_TableScale___init__) (c.fn 16) q16
  obtain ⟨oc_PairScale___init__, od_PairScale___init__, kV_PairScale___init__, dc_PairScale___init__, pm_PairScale___init__, an_PairScale___init__, cda_PairScale___init__, ct_PairScale___init__, sl_PairScale___init__, cc_PairScale___init__, q1_PairScale___init__, e1_PairScale___init__, vs_PairScale___init__, g1_PairScale___init__, fi_PairScale___init__, tf_PairScale___init__, q2_PairScale___init__, e2_PairScale___init__, g2_PairScale___init__, l_PairScale___init__, c_PairScale___init__, lc_PairScale___init__, hv_PairScale___init__, hf_PairScale___init__, lx_PairScale___init__, k_PairScale___init__, fi2_PairScale___init__, ty_PairScale___init__, kw0_PairScale___init__⟩ := sup_of (st := s_PairScale___init__) (c.fn 17) q17
  obtain ⟨oc_TurnedScale___init__, od_TurnedScale___init__, kV_TurnedScale___init__, dc_TurnedScale___init__, pm_TurnedScale___init__, an_TurnedScale___init__, cda_TurnedScale___init__, ct_TurnedScale___init__, sl_TurnedScale___init__, cc_TurnedScale___init__, q1_TurnedScale___init__, e1_TurnedScale___init__, vs_TurnedScale___init__, g1_TurnedScale___init__, fi_TurnedScale___init__, tf_TurnedScale___init__, q2_TurnedScale___init__, e2_TurnedScale___init__, g2_TurnedScale___init__, l_TurnedScale___init__, c_TurnedScale___init__, lc_TurnedScale___init__, hv_TurnedScale___init__, hf_TurnedScale___init__, lx_TurnedScale___init__, k_TurnedScale___init__, fi2_TurnedScale___init__, ty_TurnedScale___init__, kw0_TurnedScale___init__⟩ := sup_of (st := s_TurnedScale___init__) (c.fn 18) q18
  obtain ⟨oc_HeapScale___init__, od_HeapScale___init__, kV_HeapScale___init__, dc_HeapScale___init__, pm_HeapScale___init__, an_HeapScale___init__, cda_HeapScale___init__, ct_HeapScale___init__, sl_HeapScale___init__, cc_HeapScale___init__, q1_HeapScale___init__, e1_HeapScale___init__, vs_HeapScale___init__, g1_HeapScale___init__, fi_HeapScale___init__, tf_HeapScale___init__, q2_HeapScale___init__, e2_HeapScale___init__, g2_HeapScale___init__, l_HeapScale___init__, c_HeapScale___init__, lc_HeapScale___init__, hv_HeapScale___init__, hf_HeapScale___init__, lx_HeapScale___init__, k_HeapScale___init__, fi2_HeapScale___init__, ty_HeapScale___init__, kw0_HeapScale___init__⟩ := sup_of (st := s_HeapScale___init__) (c.fn 19) q19
  obtain ⟨oc__law_source, od__law_source, kV__law_source, dc__law_source, pm__law_source, an__law_source, cd__law_source, ct__law_source, sl__law_source, l__law_source, c__law_source, k__law_source⟩ := fnl_of (st := s__law_source) (c.fn 20) q20
  obtain ⟨oc__law_pick, od__law_pick, kV__law_pick, dc__law_pick, pm__law_pick, an__law_pick, cd__law_pick, ct__law_pick, sl__law_pick, l__law_pick, c__law_pick, k__law_pick⟩ := fnl_of (st := s__law_pick) (c.fn 21) q21
  obtain ⟨oc__law_like, od__law_like, kV__law_like, dc__law_like, pm__law_like, an__law_like, cd__law_like, ct__law_like, sl__law_like, l__law_like, c__law_like, k__law_like⟩ := fnl_of (st := s__law_like) (c.fn 22) q22
  obtain ⟨oc__law_join, od__law_join, kV__law_join, dc__law_join, pm__law_join, an__law_join, cd__law_join, ct__law_join, sl__law_join, l__law_join, c__law_join, k__law_join⟩ := fnl_of (st := s__law_join) (c.fn 23) q23
  obtain ⟨oc__law_then, od__law_then, kV__law_then, dc__law_then, pm__law_then, an__law_then, cd__law_then, ct__law_then, sl__law_then, l__law_then, c__law_then, k__law_then⟩ := fnl_of (st := s__law_then) (c.fn 24) q24
  obtain ⟨oc__law_tables, od__law_tables, kV__law_tables, dc__law_tables, pm__law_tables, an__law_tables, cd__law_tables, ct__law_tables, sl__law_tables, l__law_tables, c__law_tables, k__law_tables⟩ := fnl_of (st := s__law_tables) (c.fn 25) q25
  obtain ⟨oc__law_table_scale, od__law_table_scale, kV__law_table_scale, dc__law_table_scale, pm__law_table_scale, an__law_table_scale, cd__law_table_scale, ct__law_table_scale, sl__law_table_scale, l__law_table_scale, c__law_table_scale, k__law_table_scale⟩ := fnl_of (st := s__law_table_scale) (c.fn 26) q26
  obtain ⟨oc__law_fails, od__law_fails, kV__law_fails, dc__law_fails, pm__law_fails, an__law_fails, cd__law_fails, ct__law_fails, sl__law_fails, l__law_fails, c__law_fails, k__law_fails⟩ := fnl_of (st := s__law_fails) (c.fn 27) q27
  obtain ⟨oc__law_fault, od__law_fault, kV__law_fault, dc__law_fault, pm__law_fault, an__law_fault, cd__law_fault, ct__law_fault, sl__law_fault, l__law_fault, c__law_fault, k__law_fault⟩ := fnl_of (st := s__law_fault) (c.fn 28) q28
  obtain ⟨oc__law_scale_of, od__law_scale_of, kV__law_scale_of, dc__law_scale_of, pm__law_scale_of, an__law_scale_of, cd__law_scale_of, ct__law_scale_of, sl__law_scale_of, l__law_scale_of, c__law_scale_of, k__law_scale_of⟩ := fnl_of (st := s__law_scale_of) (c.fn 29) q29
  obtain ⟨oc__law_free, od__law_free, kV__law_free, dc__law_free, pm__law_free, an__law_free, cd__law_free, ct__law_free, sl__law_free, l__law_free, c__law_free, k__law_free⟩ := fnl_of (st := s__law_free) (c.fn 30) q30
  obtain ⟨oc__law_change, od__law_change, kV__law_change, dc__law_change, pm__law_change, an__law_change, cd__law_change, ct__law_change, sl__law_change, l__law_change, c__law_change, k__law_change⟩ := fnl_of (st := s__law_change) (c.fn 31) q31
  obtain ⟨oc__law_pair_right, od__law_pair_right, kV__law_pair_right, dc__law_pair_right, pm__law_pair_right, an__law_pair_right, cd__law_pair_right, ct__law_pair_right, sl__law_pair_right, l__law_pair_right, c__law_pair_right, k__law_pair_right⟩ := fnl_of (st := s__law_pair_right) (c.fn 32) q32
  obtain ⟨oc__law_heap_right, od__law_heap_right, kV__law_heap_right, dc__law_heap_right, pm__law_heap_right, an__law_heap_right, cd__law_heap_right, ct__law_heap_right, sl__law_heap_right, l__law_heap_right, c__law_heap_right, k__law_heap_right⟩ := fnl_of (st := s__law_heap_right) (c.fn 33) q33
  obtain ⟨oc_law, od_law, kV_law, dc_law, pm_law, an_law, cd_law, ct_law, sl_law, l_law, c_law, k_law⟩ := fnl_of (st := s_law) (c.fn 34) q34
  obtain ⟨oc_join_same, od_join_same, kV_join_same, dc_join_same, pm_join_same, an_join_same, cd_join_same, ct_join_same, sl_join_same, l_join_same, c_join_same, k_join_same⟩ := fnl_of (st := s_join_same) (c.fn 35) q35
  obtain ⟨oc_join_swap, od_join_swap, kV_join_swap, dc_join_swap, pm_join_swap, an_join_swap, cd_join_swap, ct_join_swap, sl_join_swap, l_join_swap, c_join_swap, k_join_swap⟩ := fnl_of (st := s_join_swap) (c.fn 36) q36
  obtain ⟨oc_join_group, od_join_group, kV_join_group, dc_join_group, pm_join_group, an_join_group, cd_join_group, ct_join_group, sl_join_group, l_join_group, c_join_group, k_join_group⟩ := fnl_of (st := s_join_group) (c.fn 37) q37
  obtain ⟨oc_join_never, od_join_never, kV_join_never, dc_join_never, pm_join_never, an_join_never, cd_join_never, ct_join_never, sl_join_never, l_join_never, c_join_never, k_join_never⟩ := fnl_of (st := s_join_never) (c.fn 38) q38
  obtain ⟨oc_then_group, od_then_group, kV_then_group, dc_then_group, pm_then_group, an_then_group, cd_then_group, ct_then_group, sl_then_group, l_then_group, c_then_group, k_then_group⟩ := fnl_of (st := s_then_group) (c.fn 39) q39
  obtain ⟨oc_then_still, od_then_still, kV_then_still, dc_then_still, pm_then_still, an_then_still, cd_then_still, ct_then_still, sl_then_still, l_then_still, c_then_still, k_then_still⟩ := fnl_of (st := s_then_still) (c.fn 40) q40
  obtain ⟨oc_then_never, od_then_never, kV_then_never, dc_then_never, pm_then_never, an_then_never, cd_then_never, ct_then_never, sl_then_never, l_then_never, c_then_never, k_then_never⟩ := fnl_of (st := s_then_never) (c.fn 41) q41
  obtain ⟨oc_spread_left, od_spread_left, kV_spread_left, dc_spread_left, pm_spread_left, an_spread_left, cd_spread_left, ct_spread_left, sl_spread_left, l_spread_left, c_spread_left, k_spread_left⟩ := fnl_of (st := s_spread_left) (c.fn 42) q42
  obtain ⟨oc_spread_right, od_spread_right, kV_spread_right, dc_spread_right, pm_spread_right, an_spread_right, cd_spread_right, ct_spread_right, sl_spread_right, l_spread_right, c_spread_right, k_spread_right⟩ := fnl_of (st := s_spread_right) (c.fn 43) q43
  obtain ⟨oc_broken_at, od_broken_at, kV_broken_at, dc_broken_at, pm_broken_at, an_broken_at, cd_broken_at, ct_broken_at, sl_broken_at, l_broken_at, c_broken_at, k_broken_at⟩ := fnl_of (st := s_broken_at) (c.fn 44) q44
  obtain ⟨oc_first_fault, od_first_fault, kV_first_fault, dc_first_fault, pm_first_fault, an_first_fault, cd_first_fault, ct_first_fault, sl_first_fault, l_first_fault, c_first_fault, k_first_fault⟩ := fnl_of (st := s_first_fault) (c.fn 45) q45
  have z_int := of_decide_eq_true q46
  have z_abs := of_decide_eq_true q47
  have z_range := of_decide_eq_true q48
  have z_len := of_decide_eq_true q49
  have z_isinstance := of_decide_eq_true q50
  have z_bool := of_decide_eq_true q51
  have z_str := of_decide_eq_true q52
  have z_list := of_decide_eq_true q53
  have z_tuple := of_decide_eq_true q54
  have z_dict := of_decide_eq_true q55
  have z_enumerate := of_decide_eq_true q56
  have z_zip := of_decide_eq_true q57
  have z_reversed := of_decide_eq_true q58
  have z_ValueError := of_decide_eq_true q59
  have z_LookupError := of_decide_eq_true q60
  have z_KeyError := of_decide_eq_true q61
  have z_Exception := of_decide_eq_true q62
  have z_super := of_decide_eq_true q63
  have z_sum := of_decide_eq_true q64
  have z_any := of_decide_eq_true q65
  have z_all := of_decide_eq_true q66
  have z_sorted := of_decide_eq_true q67
  have z_max := of_decide_eq_true q68
  have z_min := of_decide_eq_true q69
  have z_NotImplementedError := of_decide_eq_true q70
  have z_set := of_decide_eq_true q71
  have z_repr := of_decide_eq_true q72
  have opq := of_decide_eq_true q73
  have top0 : (PySem.Challenge.pw_deedscale_k09_first_fault.main.scope.names.lookup ("super" : Str)).isSome = false := rfl
  have a_CS := of_decide_eq_true q74
  have a_CT := of_decide_eq_true q75
  have a_CP := of_decide_eq_true q76
  have a_CR := of_decide_eq_true q77
  have a_CH := of_decide_eq_true q78
  have pg_CT := q79
  have hd_CT := q80
  have po_CT := q81
  have sa_CT := of_decide_eq_true q82
  have na_CT_written_joins := of_decide_eq_true q83
  have na_CT_written_products := of_decide_eq_true q84
  have na_CT_label := of_decide_eq_true q85
  have na_CT_size := of_decide_eq_true q86
  have na_CT_never_at := of_decide_eq_true q87
  have na_CT_still_at := of_decide_eq_true q88
  have na_CT_depth := of_decide_eq_true q89
  have na_CT_worth_names := of_decide_eq_true q90
  have na_CT_worth_places := of_decide_eq_true q91
  have na_CT_product_table := of_decide_eq_true q92
  have na_CT_join_table := of_decide_eq_true q93
  have pg_CP := q94
  have hd_CP := q95
  have po_CP := q96
  have sa_CP := of_decide_eq_true q97
  have na_CP_left := of_decide_eq_true q98
  have na_CP_right := of_decide_eq_true q99
  have na_CP_label := of_decide_eq_true q100
  have na_CP_size := of_decide_eq_true q101
  have na_CP_never_at := of_decide_eq_true q102
  have na_CP_still_at := of_decide_eq_true q103
  have na_CP_depth := of_decide_eq_true q104
  have na_CP_worth_names := of_decide_eq_true q105
  have na_CP_worth_places := of_decide_eq_true q106
  have na_CP_product_table := of_decide_eq_true q107
  have na_CP_join_table := of_decide_eq_true q108
  have pg_CR := q109
  have hd_CR := q110
  have po_CR := q111
  have sa_CR := of_decide_eq_true q112
  have na_CR_inner := of_decide_eq_true q113
  have na_CR_label := of_decide_eq_true q114
  have na_CR_size := of_decide_eq_true q115
  have na_CR_never_at := of_decide_eq_true q116
  have na_CR_still_at := of_decide_eq_true q117
  have na_CR_depth := of_decide_eq_true q118
  have na_CR_worth_names := of_decide_eq_true q119
  have na_CR_worth_places := of_decide_eq_true q120
  have na_CR_product_table := of_decide_eq_true q121
  have na_CR_join_table := of_decide_eq_true q122
  have pg_CH := q123
  have hd_CH := q124
  have po_CH := q125
  have sa_CH := of_decide_eq_true q126
  have na_CH_inner := of_decide_eq_true q127
  have na_CH_heaps := of_decide_eq_true q128
  have na_CH_label := of_decide_eq_true q129
  have na_CH_size := of_decide_eq_true q130
  have na_CH_never_at := of_decide_eq_true q131
  have na_CH_still_at := of_decide_eq_true q132
  have na_CH_depth := of_decide_eq_true q133
  have na_CH_worth_names := of_decide_eq_true q134
  have na_CH_worth_places := of_decide_eq_true q135
  have na_CH_product_table := of_decide_eq_true q136
  have na_CH_join_table := of_decide_eq_true q137
  have a_f_Scale___init__ := of_decide_eq_true q138
  have fiS := q139
  have tyS := of_decide_eq_true q140
  obtain ⟨tM, gM⟩ := nsInt_of q141
  obtain ⟨tS, gS⟩ := nsStr_of q142
  have a_f_is_table_name := of_decide_eq_true q143
  have a_f_table_places := of_decide_eq_true q144
  obtain ⟨tD, gD⟩ := nsInt_of q145
  have a_f_depth_above := of_decide_eq_true q146
  have a_f_half_places := of_decide_eq_true q147
  have a_CT_f_Scale_then_at := of_decide_eq_true q148
  have i_Scale_then_at := q149
  have a_CP_f_Scale_then_at := of_decide_eq_true q150
  have a_CR_f_Scale_then_at := of_decide_eq_true q151
  have a_CH_f_Scale_then_at := of_decide_eq_true q152
  have a_CT_f_Scale_join_at := of_decide_eq_true q153
  have i_Scale_join_at := q154
  have a_CP_f_Scale_join_at := of_decide_eq_true q155
  have a_CR_f_Scale_join_at := of_decide_eq_true q156
  have a_CH_f_Scale_join_at := of_decide_eq_true q157
  have a_CT_f_Scale_name_at := of_decide_eq_true q158
  have i_Scale_name_at := q159
  have a_CP_f_Scale_name_at := of_decide_eq_true q160
  have a_CR_f_Scale_name_at := of_decide_eq_true q161
  have a_CH_f_Scale_name_at := of_decide_eq_true q162
  have a_CT_f_TableScale_make_then := of_decide_eq_true q163
  have i_TableScale_make_then := q164
  have a_CT_f_TableScale_make_join := of_decide_eq_true q165
  have i_TableScale_make_join := q166
  have a_CP_f_PairScale_make_then := of_decide_eq_true q167
  have i_PairScale_make_then := q168
  have a_CP_f_PairScale_make_join := of_decide_eq_true q169
  have i_PairScale_make_join := q170
  have a_CR_f_TurnedScale_make_then := of_decide_eq_true q171
  have i_TurnedScale_make_then := q172
  have a_CR_f_TurnedScale_make_join := of_decide_eq_true q173
  have i_TurnedScale_make_join := q174
  have a_CH_f_HeapScale_make_then := of_decide_eq_true q175
  have i_HeapScale_make_then := q176
  have a_CH_f_HeapScale_make_join := of_decide_eq_true q177
  have i_HeapScale_make_join := q178
  have a_f_TableScale___init__ := of_decide_eq_true q179
  obtain ⟨q3_TableScale___init__, e3_TableScale___init__, cl_TableScale___init__, g3_TableScale___init__, lD_TableScale___init__⟩ := ckCls_ok2 q180
  have mCT := of_decide_eq_true q181
  have sCT := of_decide_eq_true q182
  have mk_CT := q183
  have fnCT := q184
  have kp_CT := q185
  have a_f_PairScale___init__ := of_decide_eq_true q186
  obtain ⟨q3_PairScale___init__, e3_PairScale___init__, cl_PairScale___init__, g3_PairScale___init__, lD_PairScale___init__⟩ := ckCls_ok2 q187
  have mCP := of_decide_eq_true q188
  have sCP := of_decide_eq_true q189
  have mk_CP := q190
  have fnCP := q191
  have kp_CP := q192
  have a_f_TurnedScale___init__ := of_decide_eq_true q193
  obtain ⟨q3_TurnedScale___init__, e3_TurnedScale___init__, cl_TurnedScale___init__, g3_TurnedScale___init__, lD_TurnedScale___init__⟩ := ckCls_ok2 q194
  have mCR := of_decide_eq_true q195
  have sCR := of_decide_eq_true q196
  have mk_CR := q197
  have fnCR := q198
  have kp_CR := q199
  have a_f_HeapScale___init__ := of_decide_eq_true q200
  obtain ⟨q3_HeapScale___init__, e3_HeapScale___init__, cl_HeapScale___init__, g3_HeapScale___init__, lD_HeapScale___init__⟩ := ckCls_ok2 q201
  have mCH := of_decide_eq_true q202
  have sCH := of_decide_eq_true q203
  have mk_CH := q204
  have fnCH := q205
  have kp_CH := q206
  have a_f__law_source := of_decide_eq_true q207
  have a_f__law_pick := of_decide_eq_true q208
  have a_f__law_like := of_decide_eq_true q209
  have a_f__law_join := of_decide_eq_true q210
  have a_f__law_then := of_decide_eq_true q211
  have a_f__law_tables := of_decide_eq_true q212
  have a_f__law_table_scale := of_decide_eq_true q213
  have a_f__law_fails := of_decide_eq_true q214
  have a_f__law_fault := of_decide_eq_true q215
  have a_f__law_scale_of := of_decide_eq_true q216
  have a_f__law_free := of_decide_eq_true q217
  have a_f__law_change := of_decide_eq_true q218
  have a_f__law_pair_right := of_decide_eq_true q219
  have a_f__law_heap_right := of_decide_eq_true q220
  have a_f_law := of_decide_eq_true q221
  have a_f_join_same := of_decide_eq_true q222
  have a_f_join_swap := of_decide_eq_true q223
  have a_f_join_group := of_decide_eq_true q224
  have a_f_join_never := of_decide_eq_true q225
  have a_f_then_group := of_decide_eq_true q226
  have a_f_then_still := of_decide_eq_true q227
  have a_f_then_never := of_decide_eq_true q228
  have a_f_spread_left := of_decide_eq_true q229
  have a_f_spread_right := of_decide_eq_true q230
  have a_f_broken_at := of_decide_eq_true q231
  have a_f_first_fault := of_decide_eq_true q232
  have a_aR := of_decide_eq_true q233
  obtain ⟨dR, nR, slR, _, ⟨_, _, rfl, rfl, ⟨_, _, rfl, rfl, ⟨_, _, rfl, rfl, ⟨_, _, rfl, rfl, ⟨_, _, rfl, rfl, ⟨_, _, rfl, rfl, ⟨_, _, rfl, rfl, ⟨_, _, rfl, rfl, ⟨_, _, rfl, rfl, rfl⟩⟩⟩⟩⟩⟩⟩⟩⟩, lR⟩ := tup_of q234
  obtain ⟨dR0, nR0, slR0, _, ⟨_, _, rfl, ⟨tw0, rfl⟩, ⟨_, _, rfl, ⟨tl0, rfl⟩, ⟨_, _, rfl, rfl, rfl⟩⟩⟩, lR0⟩ := tup_of q235
  obtain ⟨dR1, nR1, slR1, _, ⟨_, _, rfl, ⟨tw1, rfl⟩, ⟨_, _, rfl, ⟨tl1, rfl⟩, ⟨_, _, rfl, rfl, rfl⟩⟩⟩, lR1⟩ := tup_of q236
  obtain ⟨dR2, nR2, slR2, _, ⟨_, _, rfl, ⟨tw2, rfl⟩, ⟨_, _, rfl, ⟨tl2, rfl⟩, ⟨_, _, rfl, rfl, rfl⟩⟩⟩, lR2⟩ := tup_of q237
  obtain ⟨dR3, nR3, slR3, _, ⟨_, _, rfl, ⟨tw3, rfl⟩, ⟨_, _, rfl, ⟨tl3, rfl⟩, ⟨_, _, rfl, rfl, rfl⟩⟩⟩, lR3⟩ := tup_of q238
  obtain ⟨dR4, nR4, slR4, _, ⟨_, _, rfl, ⟨tw4, rfl⟩, ⟨_, _, rfl, ⟨tl4, rfl⟩, ⟨_, _, rfl, rfl, rfl⟩⟩⟩, lR4⟩ := tup_of q239
  obtain ⟨dR5, nR5, slR5, _, ⟨_, _, rfl, ⟨tw5, rfl⟩, ⟨_, _, rfl, ⟨tl5, rfl⟩, ⟨_, _, rfl, rfl, rfl⟩⟩⟩, lR5⟩ := tup_of q240
  obtain ⟨dR6, nR6, slR6, _, ⟨_, _, rfl, ⟨tw6, rfl⟩, ⟨_, _, rfl, ⟨tl6, rfl⟩, ⟨_, _, rfl, rfl, rfl⟩⟩⟩, lR6⟩ := tup_of q241
  obtain ⟨dR7, nR7, slR7, _, ⟨_, _, rfl, ⟨tw7, rfl⟩, ⟨_, _, rfl, ⟨tl7, rfl⟩, ⟨_, _, rfl, rfl, rfl⟩⟩⟩, lR7⟩ := tup_of q242
  obtain ⟨dR8, nR8, slR8, _, ⟨_, _, rfl, ⟨tw8, rfl⟩, ⟨_, _, rfl, ⟨tl8, rfl⟩, ⟨_, _, rfl, rfl, rfl⟩⟩⟩, lR8⟩ := tup_of q243
  have nd9 := of_decide_eq_true q244
  exact all_mk (l := PySem.Challenge.rw_deedscale_k09_first_fault) X G hfa z_int z_abs z_range z_len z_isinstance z_bool z_str z_list z_tuple z_dict z_enumerate z_zip z_reversed z_ValueError z_LookupError z_KeyError z_Exception z_super z_sum z_any z_all z_sorted z_max z_min z_NotImplementedError z_set z_repr opq top0 a_CS a_CT a_CP a_CR a_CH pg_CT hd_CT po_CT sa_CT na_CT_written_joins na_CT_written_products na_CT_label na_CT_size na_CT_never_at na_CT_still_at na_CT_depth na_CT_worth_names na_CT_worth_places na_CT_product_table na_CT_join_table pg_CP hd_CP po_CP sa_CP na_CP_left na_CP_right na_CP_label na_CP_size na_CP_never_at na_CP_still_at na_CP_depth na_CP_worth_names na_CP_worth_places na_CP_product_table na_CP_join_table pg_CR hd_CR po_CR sa_CR na_CR_inner na_CR_label na_CR_size na_CR_never_at na_CR_still_at na_CR_depth na_CR_worth_names na_CR_worth_places na_CR_product_table na_CR_join_table pg_CH hd_CH po_CH sa_CH na_CH_inner na_CH_heaps na_CH_label na_CH_size na_CH_never_at na_CH_still_at na_CH_depth na_CH_worth_names na_CH_worth_places na_CH_product_table na_CH_join_table a_f_Scale___init__ l_Scale___init__ c_Scale___init__ k_Scale___init__ lT fiS tyS gM gS a_f_is_table_name l_is_table_name c_is_table_name k_is_table_name a_f_table_places l_table_places c_table_places k_table_places gD a_f_depth_above l_depth_above c_depth_above k_depth_above a_f_half_places l_half_places c_half_places k_half_places a_CT_f_Scale_then_at i_Scale_then_at l_Scale_then_at c_Scale_then_at k_Scale_then_at a_CP_f_Scale_then_at a_CR_f_Scale_then_at a_CH_f_Scale_then_at a_CT_f_Scale_join_at i_Scale_join_at l_Scale_join_at c_Scale_join_at k_Scale_join_at a_CP_f_Scale_join_at a_CR_f_Scale_join_at a_CH_f_Scale_join_at a_CT_f_Scale_name_at i_Scale_name_at l_Scale_name_at c_Scale_name_at k_Scale_name_at a_CP_f_Scale_name_at a_CR_f_Scale_name_at a_CH_f_Scale_name_at a_CT_f_TableScale_make_then i_TableScale_make_then l_TableScale_make_then c_TableScale_make_then k_TableScale_make_then a_CT_f_TableScale_make_join i_TableScale_make_join l_TableScale_make_join c_TableScale_make_join k_TableScale_make_join a_CP_f_PairScale_make_then i_PairScale_make_then l_PairScale_make_then c_PairScale_make_then k_PairScale_make_then a_CP_f_PairScale_make_join i_PairScale_make_join l_PairScale_make_join c_PairScale_make_join k_PairScale_make_join a_CR_f_TurnedScale_make_then i_TurnedScale_make_then l_TurnedScale_make_then c_TurnedScale_make_then k_TurnedScale_make_then a_CR_f_TurnedScale_make_join i_TurnedScale_make_join l_TurnedScale_make_join c_TurnedScale_make_join k_TurnedScale_make_join a_CH_f_HeapScale_make_then i_HeapScale_make_then l_HeapScale_make_then c_HeapScale_make_then k_HeapScale_make_then a_CH_f_HeapScale_make_join i_HeapScale_make_join l_HeapScale_make_join c_HeapScale_make_join k_HeapScale_make_join a_f_TableScale___init__ ty_TableScale___init__ l_TableScale___init__ c_TableScale___init__ lc_TableScale___init__ hv_TableScale___init__ hf_TableScale___init__ lx_TableScale___init__ lD_TableScale___init__ k_TableScale___init__ fi2_TableScale___init__ mCT sCT mk_CT fnCT kp_CT a_f_PairScale___init__ ty_PairScale___init__ l_PairScale___init__ c_PairScale___init__ lc_PairScale___init__ hv_PairScale___init__ hf_PairScale___init__ lx_PairScale___init__ lD_PairScale___init__ k_PairScale___init__ fi2_PairScale___init__ mCP sCP mk_CP fnCP kp_CP a_f_TurnedScale___init__ ty_TurnedScale___init__ l_TurnedScale___init__ c_TurnedScale___init__ lc_TurnedScale___init__ hv_TurnedScale___init__ hf_TurnedScale___init__ lx_TurnedScale___init__ lD_TurnedScale___init__ k_TurnedScale___init__ fi2_TurnedScale___init__ mCR sCR mk_CR fnCR kp_CR a_f_HeapScale___init__ ty_HeapScale___init__ l_HeapScale___init__ c_HeapScale___init__ lc_HeapScale___init__ hv_HeapScale___init__ hf_HeapScale___init__ lx_HeapScale___init__ lD_HeapScale___init__ k_HeapScale___init__ fi2_HeapScale___init__ mCH sCH mk_CH fnCH kp_CH a_f__law_source l__law_source c__law_source k__law_source a_f__law_pick l__law_pick c__law_pick k__law_pick a_f__law_like l__law_like c__law_like k__law_like a_f__law_join l__law_join c__law_join k__law_join a_f__law_then l__law_then c__law_then k__law_then a_f__law_tables l__law_tables c__law_tables k__law_tables a_f__law_table_scale l__law_table_scale c__law_table_scale k__law_table_scale a_f__law_fails l__law_fails c__law_fails k__law_fails a_f__law_fault l__law_fault c__law_fault k__law_fault a_f__law_scale_of l__law_scale_of c__law_scale_of k__law_scale_of a_f__law_free l__law_free c__law_free k__law_free a_f__law_change l__law_change c__law_change k__law_change a_f__law_pair_right l__law_pair_right c__law_pair_right k__law_pair_right a_f__law_heap_right l__law_heap_right c__law_heap_right k__law_heap_right a_f_law l_law c_law k_law a_f_join_same l_join_same c_join_same k_join_same a_f_join_swap l_join_swap c_join_swap k_join_swap a_f_join_group l_join_group c_join_group k_join_group a_f_join_never l_join_never c_join_never k_join_never a_f_then_group l_then_group c_then_group k_then_group a_f_then_still l_then_still c_then_still k_then_still a_f_then_never l_then_never c_then_never k_then_never a_f_spread_left l_spread_left c_spread_left k_spread_left a_f_spread_right l_spread_right c_spread_right k_spread_right a_f_broken_at l_broken_at c_broken_at k_broken_at a_f_first_fault l_first_fault c_first_fault k_first_fault a_aR lR lR0 lR1 lR2 lR3 lR4 lR5 lR6 lR7 lR8 nd9
end L2.DS
open PySem PySem.W PySem.Calls PyProof.Rows
set_option maxRecDepth 100000 in
set_option maxHeartbeats 0 in
theorem PySem.Challenge.cw_deedscale_k09_first_fault_holds : PySem.Challenge.rw_deedscale_k09_first_fault.Holds := by
  w_on; o_law
  refine HandSHeadRun.head_any (r := L2.DS.RH) (q := L2.DS.qH) (H := L2.DS.hookB 8000 L2.DS.fsH L2.DS.dfsH []) (ob := L2.DS.obH) (M := 9000) (loose := L2.DS.namesH) (d := HandSHeadRun.topDef L2.DS.RH.prog 46) (kwd := []) L2.DS.obH_eq
    (by kernel_rfl) (fun s => by kernel_rfl) L2.DS.runH (by kernel_rfl) (by kernel_rfl) (by kernel_rfl) (by rfl) (by first | assumption | decide +kernel) (by decide +kernel) ⟨rfl, rfl, rfl, rfl, rfl, by decide +kernel⟩ ?hw ?hc
  case hw => w_witness2
  case hc =>
    refine L2.walk_ofE (l := PySem.Challenge.rw_deedscale_k09_first_fault) (n := 63) (k := 15) (x := "_law_script") (CX := L2.CX0) rfl (by decide) (by kernel_rfl) ⟨rfl, by decide, by decide⟩ ?F (fun _ _ _ _ z => z)
    intro w mg fa h Y G hmg0
    obtain ⟨K, KX, c⟩ := Y
    have hmg : mg ("law" : PySem.Str) = some (.ref fa) := by
      have e : (HandSHeadRun.topDef L2.DS.RH.prog 46).name = ("law" : PySem.Str) := by kernel_rfl
      rw [← e]
      exact hmg0
    obtain ⟨fd, hb, hF⟩ := L2.DS.facts_mk KX G hmg c
    exact ⟨K, fd, L2.DS.sp_law K, KX, hb, fun H a ns hl _ hS => ⟨a, ns, rfl, hS, hl, fun _ => rfl⟩, hF⟩
#print axioms PySem.Challenge.cw_deedscale_k09_first_fault_holds
