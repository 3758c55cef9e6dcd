import PyProof.Rows.All
import Wide.All
import OpenK.AllK
import Wide.FinOn
import KE.KExcSuper
import HandS.ForMost
import HandS.ForExc
import HandS.ExcInit
import HandS.ClsMeth
import HandS.More
import HandS.Wide
import HandS.Flow
import HandS.IsInst
import HandS.Dict
import HandS.Star
import HandS.DictComp
import HandS.FStr
import HandS.Walk
import HandS.MakeKwOnly
import HandS.WordsExc
import HandS.Words
import HandS.Conv
import KE.KIndexOf
import PyProof.SeqIndex
import HandS.ExcIs
import HandS.ExcOwn
import HandS.Text
import HandS.ExcValue
import PyProof.StrOps2
import PySem.Challenge.RW_deedscale_k82_errors
import KE.OsRunLaw
import HandS.Ends
set_option Elab.async false
set_option linter.all false
set_option maxRecDepth 100000
set_option maxHeartbeats 4000000
/-! Defs whose body says super().__init__(..): their frame bears a cell of the class. -/
namespace L2.DS
open PySem PySem.Spec PyProof.Rows

/-! ### the frame -/
abbrev envS (qual : Str) (scope : Scope) (L f : Addr) (cd : Value) (cc : Addr) : Env :=
  PySem.W.envX qual scope L f cd (cellsFrom (L + 1) scope.names [("__class__", cc)])
theorem cells_acc : ∀ (names : List (Str × NameKind)) (n : Nat) (acc : List (Str × Addr)), cellsFrom n names acc = cellsFrom n names [] ++ acc
  | [], _, _ => rfl
  | (x, kd) :: r, n, acc => by
    unfold cellsFrom
    split
    · rw [cells_acc r (n + 1) ((x, n) :: acc), cells_acc r (n + 1) [(x, n)], List.append_assoc]
      rfl
    · exact cells_acc r n acc
/-- the scope of such a def: N its names, the parameters ps first -/
structure ScS (N ps : List Str) (sc : Scope) : Prop where
  kind : sc.kind = .function
  co : sc.isCoroutine = false
  gen : sc.isGenerator = false
  nd : N.Nodup
  pre : N.take ps.length = ps
  par : ∀ x ∈ ps, sc.names.lookup x = some .local ∨ sc.names.lookup x = some .cell
  fre : ∀ y ∈ sc.names, y.2 = .free → y.1 = ("__class__" : Str)
  cls : sc.names.lookup ("__class__" : Str) = some .free
  ncl : ∀ y ∈ sc.names, y.2 = .cell → y.1 ≠ ("__class__" : Str)
  sup : sc.names.lookup ("super" : Str) = some .globalImplicit
/-- which names a list of cells made at the entry has -/
theorem own_name : ∀ (names : List (Str × NameKind)) (n : Nat) (acc : List (Str × Addr)) (x : Str) (c : Addr), (x, c) ∈ cellsFrom n names acc → (x, c) ∈ acc ∨ (x, NameKind.cell) ∈ names
  | [], _, _, _, _, h => .inl h
  | (y, kd) :: r, n, acc, x, c, h => by
    unfold cellsFrom at h
    split at h
    · rename_i hk
      rcases own_name r (n + 1) _ x c h with q | q
      · rcases List.mem_cons.mp q with e | q
        · cases e
          refine .inr (List.mem_cons.mpr (.inl ?_))
          rw [show kd = NameKind.cell from beq_iff_eq.mp hk]
        · exact .inl q
      · exact .inr (List.mem_cons_of_mem _ q)
    · rcases own_name r n acc x c h with q | q
      · exact .inl q
      · exact .inr (List.mem_cons_of_mem _ q)

section
variable {M : Model} {A : Around} {E : Value → Shared → Prop} {s₀ s : Shared} {m cm : Str → Option Value} {env : Env} {own : List (Str × Addr)}
theorem put_local {n : Str} {v : Value} {Q : Unit → Shared → Prop} (x : InCallC s₀ env.locals m own cm s) (hk : env.scope.kind = .function) (hl : env.kindOf n = some .local)
    (h : ∀ s', InCallC s₀ env.locals (fun y => if y = n then some v else m y) own cm s' → Q () s') : wpAny M A (storeName env n v) Q E s := by
  refine wpAny_storeName_local hl x.toInCall.ns (fun g ng sg => h _ ⟨⟨?c1, ng, fun b o e => ?c2, x.toInCall.fresh⟩, fun k c hc => ?c3, x.apart, x.above⟩) (by rw [hk]; rfl)
  case c1 =>
    obtain ⟨h1, tk, rfl⟩ := x.toInCall.same
    exact ⟨g, _, rfl⟩
  case c2 =>
    have lt := Nat.lt_of_lt_of_le (Heap.lt_size e) x.toInCall.fresh
    exact sg.extBut b o (Nat.ne_of_lt lt) (x.toInCall.keep b o e)
  case c3 =>
    have gt := x.above k c (PySem.mem_of_lookup hc)
    exact (x.cell k c hc).sameBut sg (Nat.ne_of_gt gt)
theorem put_cell {n : Str} {c : Addr} {v : Value} {Q : Unit → Shared → Prop} (x : InCallC s₀ env.locals m own cm s) (hk : env.scope.kind = .function) (hl : env.kindOf n = some .cell)
    (hc : env.cells.lookup n = some c) (ho : own.lookup n = some c) (h : ∀ s', InCallC s₀ env.locals m own (fun y => if y = n then some v else cm y) s' → Q () s') :
    wpAny M A (storeName env n v) Q E s := by
  have gt := x.above n c (PySem.mem_of_lookup ho)
  refine wpAny_storeName_cell hk hl hc (x.cell n c ho) fun g cg sg => h _ ⟨⟨?c1, x.toInCall.ns.sameBut sg (Nat.ne_of_lt gt), fun b o e => ?c2, x.toInCall.fresh⟩, fun k c' hk' => ?c3, x.apart, x.above⟩
  case c1 =>
    obtain ⟨h1, tk, rfl⟩ := x.toInCall.same
    exact ⟨g, _, rfl⟩
  case c2 =>
    have lt := Nat.lt_of_lt_of_le (Heap.lt_size e) x.toInCall.fresh
    exact sg.extBut b o (Nat.ne_of_lt (Nat.lt_trans lt gt)) (x.toInCall.keep b o e)
  case c3 =>
    by_cases hkn : k = n
    · subst hkn
      rw [ho] at hk'
      cases hk'
      simpa using cg
    · rw [if_neg hkn]
      refine (x.cell k c' hk').sameBut sg fun e => hkn ?_
      have h1 := PySem.mem_of_lookup ho
      rw [← e] at h1
      exact name_of_addr x.apart (PySem.mem_of_lookup hk') h1
theorem put_all (f : Str × Value → PUnit → Sem (ForInStep PUnit)) (hf : ∀ n v u, f (n, v) u = (do storeName env n v; pure (.yield ⟨⟩))) (hk : env.scope.kind = .function)
    (sub : ∀ n c, own.lookup n = some c → env.cells.lookup n = some c) :
    ∀ (bs : List (Str × Value)) (m cm : Str → Option Value) (s : Shared) (Q : PUnit → Shared → Prop), InCallC s₀ env.locals m own cm s →
      (∀ x ∈ bs, env.kindOf x.1 = some .local ∨ (env.kindOf x.1 = some .cell ∧ (own.lookup x.1).isSome = true)) →
      (∀ s', InCallC s₀ env.locals (bindL env.kindOf bs m) own (bindC env.kindOf bs cm) s' → Q ⟨⟩ s') → wpAny M A (forIn bs ⟨⟩ f) Q E s
  | [], m, cm, s, Q, x, _, h => by
    rw [List.forIn_nil]
    exact wpAny_pure (h s x)
  | (n, v) :: r, m, cm, s, Q, x, kd, h => by
    rw [List.forIn_cons, hf]
    have kr := fun y (hy : y ∈ r) => kd y (List.mem_cons_of_mem _ hy)
    unfold bindL bindC at h
    rcases kd (n, v) List.mem_cons_self with hl | ⟨hl, hc⟩
    · rw [if_pos hl, if_pos hl] at h
      exact wpAny_bind (wpAny_bind (put_local x hk hl fun s' x' => wpAny_pure (put_all f hf hk sub r _ _ s' Q x' kr h)))
    · obtain ⟨c, hc⟩ := Option.isSome_iff_exists.mp hc
      have hnl : ¬ env.kindOf n = some .local := fun z => by
        rw [hl] at z
        cases z
      rw [if_neg hnl, if_neg hnl] at h
      exact wpAny_bind (wpAny_bind (put_cell x hk hl (sub n c hc) hc fun s' x' => wpAny_pure (put_all f hf hk sub r _ _ s' Q x' kr h)))
end
section
variable {M : Model} {A : Around} {E : Value → Shared → Prop} {s : Shared}
theorem new_envS {scope : Scope} {binds : List (Str × Value)} {qual : Str} {f cc : Addr} {cd : Value} {Q : Env → Shared → Prop} (hk : scope.kind = .function)
    (kd : ∀ x ∈ binds, scope.names.lookup x.1 = some .local ∨ (scope.names.lookup x.1 = some .cell ∧ ((cellsFrom (s.heap.objs.size + 1) scope.names []).lookup x.1).isSome = true))
    (hQ : ∀ s', InCallC s s.heap.objs.size (bindL (envS qual scope s.heap.objs.size f cd cc).kindOf binds fun _ => none) (cellsFrom (s.heap.objs.size + 1) scope.names [])
      (bindC (envS qual scope s.heap.objs.size f cd cc).kindOf binds fun _ => none) s' → Q (envS qual scope s.heap.objs.size f cd cc) s') :
    wpAny M A (newFunctionEnv scope mainGlobals [("__class__", cc)] binds (qual ++ ".<locals>.") (some f) cd none builtinsNs) Q E s := by
  simp only [newFunctionEnv, Option.isSome_none, Bool.false_eq_true, if_false]
  refine wpAny_bind (wpAny_alloc ?_)
  refine wpAny_bind (wpAny_layCells _ (fun nm kd cells => by cases e : kd == NameKind.cell <;> simp [e]) _ _ _ _ ?_)
  have ok := cellsFrom_ok scope.names (s.heap.push { cls := .type "frame", data := .dict #[] }) (s.heap.objs.size + 1) [] ⟨fun _ _ z => (nomatch z), List.Pairwise.nil⟩ (by rw [Heap.size_push]; exact Nat.le_refl _)
  rw [Heap.size_push] at ok
  rw [show (Shared.heap { s with heap := s.heap.push { cls := .type "frame", data := .dict #[] } }).objs.size = s.heap.objs.size + 1 from Heap.size_push ..]
  refine wpAny_bind (put_all (s₀ := s) (env := envS qual scope s.heap.objs.size f cd cc) (own := cellsFrom (s.heap.objs.size + 1) scope.names []) _ (fun _ _ _ => rfl) hk (fun n c e => ?_) binds (fun _ => none) (fun _ => none) _ _
    ⟨⟨⟨_, _, rfl⟩, (Heap.Ns.new s.heap (.type "frame")).keeps (pushCells_keeps _ _), fun b o e => pushCells_keeps _ _ b o (Heap.get?_push_of_some _ e), Nat.le_refl _⟩, fun n c z => (ok.empty n c (PySem.mem_of_lookup z)).1, ok.apart, fun n c z => (ok.empty n c z).2⟩ kd fun s' x => wpAny_pure (hQ s' x))
  show (cellsFrom (s.heap.objs.size + 1) scope.names [("__class__", cc)]).lookup n = some c
  rw [cells_acc, List.lookup_append, e]
  rfl
end

/-! ### the context -/
def cxS (CX : CXT) (P : Program) (w : World) (K : PySem.W.Frag) (mg : Str → Option Value) (base : Heap) (N : List Str) (qual : Str) (scope : Scope) (f : Addr) (cd : Value) (cc : Addr) (A : Around) (outer : List Env) (s : Shared) (H : Hp) (E : XK) : Cx where
  prog := P
  w := w
  K := K
  mg := mg
  base := base
  A := A.deeper (envS qual scope s.heap.objs.size f cd cc)
  N := N
  s_0 := s
  H_0 := H
  env := envS qual scope s.heap.objs.size f cd cc
  outer := outer
  stack := envS qual scope s.heap.objs.size f cd cc :: outer
  ex := []
  calm := true
  fn := fun x => !(x == ("__class__" : Str))
  pn := []
  xe := fun e s' => wpAny (model P w) (A.deeper (envS qual scope s.heap.objs.size f cd cc)) (leaving (envS qual scope s.heap.objs.size f cd cc) e) (fun _ s2 => CX outer H s E e s2) (fun e' s2 => CX outer H s E e' s2) s'

theorem cell_in {sc : Scope} {n : Nat} {x : Str} (h : sc.names.lookup x = some .cell) : ∃ c, (cellsFrom n sc.names []).lookup x = some c :=
  Option.isSome_iff_exists.mp (PySem.W.cellsFrom_some sc.names n [] (.inl h))

section
variable {CX : CXT} {P : Program} {w : World} {K : PySem.W.Frag} {mg : Str → Option Value} {base : Heap} {N ps : List Str} {qual : Str} {scope : Scope} {f cc D : Addr} {cd : Value} {A : Around} {outer : List Env} {s s1 : Shared} {H : Hp} {E : XK} {us : List Value} {vs : List V}
theorem look_ownS {L : Nat} {x : Str} {c : Addr} (h : (cellsFrom (L + 1) scope.names [("__class__", cc)]).lookup x = some c) (S : ScS N ps scope) :
    ((cellsFrom (L + 1) scope.names []).lookup x = some c ∧ x ≠ ("__class__" : Str)) ∨ (x = ("__class__" : Str) ∧ c = cc) := by
  rw [cells_acc, List.lookup_append] at h
  cases e : (cellsFrom (L + 1) scope.names []).lookup x with
  | some c1 =>
    rw [e] at h
    have h : c1 = c := Option.some.inj h
    subst h
    refine .inl ⟨rfl, ?_⟩
    rcases own_name _ _ _ _ _ (PySem.mem_of_lookup e) with q | q
    · cases q
    · exact S.ncl _ q rfl
  | none =>
    rw [e] at h
    have h : List.lookup x [(("__class__" : Str), cc)] = some c := h
    by_cases hx : x = ("__class__" : Str)
    · subst hx
      refine .inr ⟨rfl, ?_⟩
      have q : List.lookup ("__class__" : Str) [(("__class__" : Str), cc)] = some cc := by simp [List.lookup]
      rw [q] at h
      exact (Option.some.inj h).symm
    · have hb : (x == ("__class__" : Str)) = false := by simpa using hx
      have q : List.lookup x [(("__class__" : Str), cc)] = none := by simp [List.lookup, hb]
      rw [q] at h
      cases h
theorem look_clsS {L : Nat} (S : ScS N ps scope) : (cellsFrom (L + 1) scope.names [("__class__", cc)]).lookup ("__class__" : Str) = some cc := by
  rw [cells_acc, List.lookup_append]
  cases e : (cellsFrom (L + 1) scope.names []).lookup ("__class__" : Str) with
  | none => simp [List.lookup]
  | some c1 =>
    rcases own_name _ _ _ _ _ (PySem.mem_of_lookup e) with q | q
    · cases q
    · exact absurd rfl (S.ncl _ q rfl)

theorem inv_startS (S : ScS N ps scope) (hd : A.handled = none) (e0 : Env0 P w K mg base A outer s H) (hl : vs.length = ps.length) (r : Vals vs us)
    {ccl : Value} {ccd : Option Addr} {csl : Array (Option Value)} (hcc : K.lookup cc = some ⟨ccl, ccd, .cell (some (.ref D)), csl⟩)
    (x : InCallC s s.heap.objs.size (bindL (envS qual scope s.heap.objs.size f cd cc).kindOf (ps.zip us) fun _ => none) (cellsFrom (s.heap.objs.size + 1) scope.names []) (bindC (envS qual scope s.heap.objs.size f cd cc).kindOf (ps.zip us) fun _ => none) s1) :
    Inv (cxS CX P w K mg base N qual scope f cd cc A outer s H E) [] (start N vs) H s1 := by
  have hpl : ps.length ≤ N.length := by
    have z := congrArg List.length S.pre
    rw [List.length_take] at z
    omega
  obtain ⟨h1, tk, rfl, hk⟩ := x.done
  have bcc : base.get? cc = some ⟨ccl, ccd, .cell (some (.ref D)), csl⟩ := e0.mod.kin _ _ hcc
  have scc := (e0.bs _ _ bcc).1
  have Hcc : H cc = none := (e0.bs _ _ bcc).2
  have ltc : cc < s.heap.objs.size := Heap.lt_size scc
  have noA : ∀ b : Addr, b ∉ (cxS CX P w K mg base N qual scope f cd cc A outer s H E).ex := fun b z => absurd (show b ∈ ([] : List Addr) from z) (by simp)
  have abv : ∀ y c, (cellsFrom (s.heap.objs.size + 1) scope.names []).lookup y = some c → s.heap.objs.size < c := fun y c e => x.above y c (PySem.mem_of_lookup e)
  have own2 : ∀ y c, (cxS CX P w K mg base N qual scope f cd cc A outer s H E).env.cells.lookup y = some c → ((cellsFrom (s.heap.objs.size + 1) scope.names []).lookup y = some c ∧ y ≠ ("__class__" : Str)) ∨ (y = ("__class__" : Str) ∧ c = cc) := fun y c e => look_ownS e S
  refine ⟨⟨e0.mod, S.kind, rfl, rfl, Nat.le_refl _, fun y z c a b => ?_, fun y hy => ?_, fun y c hf h => ?_, fun _ => hd, Around.frames_deeper e0.frames, .inr ⟨rfl, rfl⟩, fun b z => absurd z (noA b), e0.bs, e0.bsz, fun b _ _ => noA b, fun b z => absurd z (noA b), e0.funs, e0.frf⟩,
    rfl, e0.bare, Un.kept hk, ⟨_, x.toInCall.ns, fun i y v a b c => ?_⟩, fun y c e => ?_, e0.hok.fresh (Nat.le_refl _), fun y c e => ?_, fun p hp => absurd (show p ∈ ([] : List (Addr × Obj)) from hp) (by simp), e0.hok.kept hk, ?_⟩
  · rcases own2 y c a with ⟨a, _⟩ | ⟨a, a2⟩ <;> rcases own2 z c b with ⟨b, _⟩ | ⟨b, b2⟩
    · exact name_of_addr x.apart (PySem.mem_of_lookup a) (PySem.mem_of_lookup b)
    · have ab := abv y c a
      rw [b2] at ab
      exact absurd (Nat.lt_trans ltc ab) (Nat.lt_irrefl _)
    · have ab := abv z c b
      rw [a2] at ab
      exact absurd (Nat.lt_trans ltc ab) (Nat.lt_irrefl _)
    · rw [a, b]
  · have hy : scope.names.lookup y = some .cell ∨ scope.names.lookup y = some .free := hy
    show ∃ c, (cellsFrom (s.heap.objs.size + 1) scope.names [("__class__", cc)]).lookup y = some c
    rcases hy with hy | hy
    · obtain ⟨c, e⟩ := cell_in (n := s.heap.objs.size + 1) hy
      refine ⟨c, ?_⟩
      rw [cells_acc, List.lookup_append, e]
      rfl
    · have ey := S.fre _ (PySem.mem_of_lookup hy) rfl
      exact ⟨cc, by rw [show y = ("__class__" : Str) from ey]; exact look_clsS S⟩
  · rcases own2 y c h with ⟨a, _⟩ | ⟨a, _⟩
    · exact Nat.le_of_lt (abv y c a)
    · have hf : (!(y == ("__class__" : Str))) = true := hf
      rw [a] at hf
      simp at hf
  · have a : N[i]? = some y := a
    by_cases hi : i < ps.length
    · have hp : ps[i]? = some y := by
        rw [← S.pre, List.getElem?_take_of_lt hi]
        exact a
      have hv : vs[i]? = some v := by
        unfold start at b
        rw [List.getElem?_append_left (by rw [List.length_map]; omega), List.getElem?_map] at b
        cases e : vs[i]? with
        | none =>
          rw [e] at b
          cases b
        | some q =>
          rw [e] at b
          cases b
          rfl
      obtain ⟨u, hu, rv⟩ := r.get hv
      have ndP : ps.Nodup := by
        have q := S.nd.sublist (List.take_sublist ps.length N)
        rw [S.pre] at q
        exact q
      refine ⟨u, rv, ?_⟩
      rcases S.par y (List.mem_of_getElem? hp) with q | q
      · exact .inl ⟨q, bindL_get ndP hp hu q⟩
      · obtain ⟨c, hc⟩ := cell_in (n := s.heap.objs.size + 1) q
        refine .inr ⟨.inl q, c, ?_, ?_⟩
        · show (cellsFrom (s.heap.objs.size + 1) scope.names [("__class__", cc)]).lookup y = some c
          rw [cells_acc, List.lookup_append, hc]
          rfl
        · have z := x.cell y c hc
          rw [bindC_get ndP hp hu (show (envS qual scope s.heap.objs.size f cd cc).kindOf y ≠ some .local from fun k => by
            have k : scope.names.lookup y = some .local := k
            rw [q] at k
            cases k)] at z
          exact z
    · unfold start at b
      rw [List.getElem?_append_right (by rw [List.length_map]; omega), List.getElem?_replicate] at b
      split at b <;> cases b
  · rcases own2 y c e with ⟨a, _⟩ | ⟨_, a⟩
    · exact ⟨_, x.cell y c a⟩
    · rw [a]
      exact ⟨_, _, hk _ _ scc, rfl⟩
  · rcases own2 y c e with ⟨a, _⟩ | ⟨_, a⟩
    · exact e0.hok.fresh (Nat.le_of_lt (abv y c a))
    · rw [a]
      exact Hcc
  · unfold start
    show _ = N.length
    rw [List.length_append, List.length_map, List.length_replicate]
    omega
end

/-! ### a body in its own activation -/
structure PSA (X : Cx) (body sts : List Stmt) (t : TS) : Prop where
  run : ∀ (pins : List (Addr × Obj)) (s : Shared) (σ : L2.St) (H : Hp) (D : Ends), Inv X pins σ H s → t D σ H → PySem.wpAt (model X.prog X.w) X.A (.func body X.env) (execs sts X.env) (SP X pins D) X.xe s
/-- what super() asks of the running def, of a class D: its cell, its code, its first parameter ar -/
structure SupAt (X : Cx) (D : Addr) (ar : Str) : Prop where
  kc : X.env.kindOf ("__class__" : Str) = some .free
  ks : X.env.kindOf ("super" : Str) = some .globalImplicit
  fn : ∃ f of fd a, X.env.func = some f ∧ X.K.lookup f = some of ∧ of.data = .func fd ∧ (fd.params.posonlyargs ++ fd.params.args).head? = some a ∧ a.arg = ar
  code : ∃ cda oc vs file tf, X.env.code = .ref cda ∧ X.K.lookup cda = some oc ∧ oc.data = .fields vs ∧ vs[2]? = some (.str file tf) ∧ ((X.prog.main.file : Str) == file) = true
  top : (X.prog.main.scope.names.lookup ("super" : Str)).isSome = false
  cell : ∃ cc oc, X.env.cells.lookup ("__class__" : Str) = some cc ∧ X.K.lookup cc = some oc ∧ oc.data = .cell (some (.ref D))
  cls : ∃ oD cd, X.K.lookup D = some oD ∧ oD.data = .cls cd
  mg : X.mg "super" = none
  opq : PySem.W.nsIn X.K cStatics "thirdparty.any" = some none
section
variable {X : Cx} {body sts : List Stmt} {st : Stmt} {t u : TS} {D : Addr} {ar : Str}
theorem psa_end (h : PSs X sts t) : PSA X body sts t := ⟨fun pins s σ H D I q => wpAt_of_wpAny (h.run pins s σ H D I q)⟩
theorem sp_next {pins : List (Addr × Obj)} {D : Ends} {f : Flow} {s : Shared} {R : Prop} (h : SP X pins D f s) (hn : f ≠ .next) (D' : Ends) (e1 : D'.rt = D.rt) (e2 : D'.bk = D.bk) (e3 : D'.ct = D.ct) : SP X pins D' f s := by
  cases f with
  | next => exact absurd rfl hn
  | ret v => obtain ⟨a, b, c, d, e, g⟩ := h; exact ⟨a, b, c, d, e, by rw [e1]; exact g⟩
  | brk => obtain ⟨a, b, c, d⟩ := h; exact ⟨a, b, c, by rw [e2]; exact d⟩
  | cont => obtain ⟨a, b, c, d⟩ := h; exact ⟨a, b, c, by rw [e3]; exact d⟩
theorem psa_cons (h : PS X st t) (hr : PSA X body sts u) : PSA X body (st :: sts) (tSeq t u) := by
  refine ⟨fun pins s σ H D I q => ks_wpAt_execs_cons (wpAt_of_wpAny (thn (h.run pins s σ H _ I q) fun f s' hs => ?_))⟩
  cases f with
  | next =>
    obtain ⟨σ', H', I', q'⟩ := hs
    exact hr.run pins s' σ' H' D I' q'
  | ret v => exact hs
  | brk => exact hs
  | cont => exact hs

/-! ### super() itself: a new object of class super -/
/-- the name of the first parameter: a local or a cell -/
def Own1 (sc : Scope) (x : Str) : Prop := sc.names.lookup x = some .local ∨ sc.names.lookup x = some .cell
theorem super_new {pins : List (Addr × Obj)} {s : Shared} {σ : L2.St} {H : Hp} {Q : Value → Shared → Prop} {p0 p1 : Pos} {attr : Str} {whole : Sem Value} {x C : Addr} {ox : Obj} {odx : Option Obj} (S : SupAt X D ar) (I : Inv X pins σ H s)
    (hat : (attr == ("__class__" : Str)) = false) (hN : X.N[0]? = some ar) (hv : Own1 X.env.scope ar) (hσ : σ[0]? = some (some (.ref x))) (J : PySem.W.InstAt s.heap x ox C odx) (hsub : PySem.W.mroIn X.K C (.ref D) = some true)
    (h : ∀ so h', s.heap.objs.size = so → h'.get? so = some (PySem.W.ks_superObj D x C) → (∀ y o, s.heap.get? y = some o → h'.get? y = some o) → Q (.ref so) { s with heap := h' }) :
    PySem.wpAt (model X.prog X.w) X.A (.func body X.env) (attributeBase (.Call (.Name "super" p0) [] [] p1) attr X.env whole) Q X.xe s := by
  obtain ⟨f, of, fd, a, f1, f2, f3, f4, f5⟩ := S.fn
  obtain ⟨cda, oc, vs, file, tf, c1, c2, c3, c4, c5⟩ := S.code
  obtain ⟨cc, occ, e1, e2, e3⟩ := S.cell
  obtain ⟨oD, cdD, d1, d2⟩ := S.cls
  obtain ⟨mb, b1, b2⟩ := I.mod.blt
  have KX := I.kIn
  refine ks_wpAt_super_base S.ks S.kc hat f1 (KX _ _ f2) f3 f4 c1 (KX _ _ c2) c3 c4 c5 S.top ?_
  refine PySem.W.ks_loadName_global I.ok.kind S.ks (Calls.loadGlobal_builtin (mg := X.mg) (mb := mb) (by rw [I.ok.glob]; exact I.mod.glob.keeps I.bk) S.mg (by rw [I.ok.blt]; exact b1.keeps I.bk) ((b2 _ (by decide)).trans (by decide +kernel)) ⟨rfl, ?_⟩)
  refine wpAny_loadName_free I.ok.kind S.kc e1 ⟨occ, KX _ _ e2, e3⟩ ?_
  obtain ⟨m, hn, hl⟩ := I.loc
  have hvis : Vis X.env.scope ar := hv.elim .inl fun z => .inr (.inl z)
  obtain ⟨u, ru, l⟩ := hl 0 ar (.ref x) hN hσ hvis
  obtain rfl : u = Value.ref x := ru
  have fin : wpAny (model X.prog X.w) X.A (isType (.ref D)) (fun b s₄ => b = true ∧ wpAny (model X.prog X.w) X.A (call (.type "super") [.ref D, .ref x]) Q X.xe s₄) X.xe s := by
    refine ks_wpAny_isType_cls (KX _ _ d1) d2 ⟨rfl, ?_⟩
    obtain ⟨hh, g, d, t, os⟩ := s
    refine ks_wpAny_call_super (KX _ _ d1) d2 J.at_ J.cls (fun c e => ?_) (PySem.W.looks_mroIn KX hsub) (fun h' e k => h _ h' rfl e k)
    have z := J.no
    unfold PySem.W.notCls at z
    rw [e] at z
    exact Bool.noConfusion z
  rw [f5]
  rcases l with ⟨hk, hm⟩ | ⟨hk, c, hc, hcell⟩
  · exact wpAny_loadName_local I.ok.kind hk hn hm fin
  · have hk : X.env.kindOf ar = some .cell := by
      rcases hv with z | z
      · rcases hk with k | k
        · exact k
        · exact absurd ((show X.env.scope.names.lookup ar = some .free from k).symm.trans z) (by simp)
      · exact z
    exact wpAny_loadName_cell I.ok.kind hk hc hcell fin

/-! ### super().__init__(e, ..), the def found being one of the text -/
def tSup (K : PySem.W.Frag) (D f2 : Addr) (sp : Sp) (dvs : List V) (E : XK) (ta : TA) : TS := fun Dn σ H => ∃ x C dx fs, σ[0]? = some (some (.ref x)) ∧ H x = some (.ins C dx fs) ∧
  PySem.W.mroIn K C (.ref D) = some true ∧ PySem.W.ks_superIn K C D "__init__" = some (some (.ref f2)) ∧ ta σ H fun vs H1 => sp (.ref x :: (vs ++ dvs)) H1 (fun _ H2 => Dn.nx σ H2) E
theorem psa_sup {CX : CXT} {k : Nat} {f2 : Addr} {fd : FuncData} {ps : List Str} {sp : Sp} {dvs : List V} {ds : List Value} {E : XK} {e : Expr} {es : List Expr} {ta : TA} {p0 p1 ap pos pos' : Pos} {pl : Sem Bool} (S : SupAt X D ar)
    (hN : X.N[0]? = some ar) (hv : Own1 X.env.scope ar) (F : FnOk X.prog X.w X.K X.mg X.base CX k f2 fd ps sp) (hr : Room k X.A) (hb : Binds X.K fd ps ds) (hd : Vals dvs ds) (hx : Passes CX X E)
    (hf : PySem.W.fnIn X.K f2 = true) (ht : PySem.W.typeIn X.K (.ref f2) = some (.type "function")) (ha : PA X (e :: es) ta) (hr2 : PSA X body sts u)
    (he : eval (.Call (.Attribute (.Call (.Name "super" p0) [] [] p1) "__init__" ap) (e :: es) [] pos) X.env = (do
      let ov ← attributeBase (.Call (.Name "super" p0) [] [] p1) "__init__" X.env (eval (.Call (.Name "super" p0) [] [] p1) X.env)
      standAt ap.atName
      let (f, first) ← holding [ov] (getMethod ov "__init__" pl)
      callWith pos f first (backTo pos (starEach (e :: es) X.env)) []) := by rfl)
    (hst : starEach (e :: es) X.env = (false, eval e X.env) :: starEach es X.env := by rfl) (hpl : (backTo pos (starEach es X.env)).any (·.1) = false := by rfl)
    (hs : swapsWith (.Call (.Attribute (.Call (.Name "super" p0) [] [] p1) "__init__" ap) (e :: es) [] pos) none pos'.line X.env = pure false := by rfl) :
    PSA X body (.Expr (.Call (.Attribute (.Call (.Name "super" p0) [] [] p1) "__init__" ap) (e :: es) [] pos) pos' :: sts) (tSeq (tSup X.K D f2 sp dvs E ta) u) := by
  refine ⟨fun pins s σ H Dn I q => ks_wpAt_execs_cons (ks_wpAt_Expr_any (ks_wpAt_MethodCall ?_ he) I.quiet hs)⟩
  obtain ⟨x, C, dx, fs, hσ, hx1, hm, hsi, q⟩ := q
  obtain ⟨mA, O, _⟩ := ins_get I.hok hx1
  obtain ⟨odx, J, _⟩ := O.look
  refine super_new S I (by decide) hN hv hσ J hm fun so h' eso k1 k2 => ?_
  have I1 : Inv X pins σ H { s with heap := h' } := I.kept (t' := s.toks) k2
  obtain ⟨mA1, O1, _⟩ := ins_get I1.hok hx1
  obtain ⟨ody, J1, _⟩ := O1.look
  have KX := I1.kIn
  cases hc : PySem.W.clsIn X.K C with
  | none =>
    unfold PySem.W.ks_superIn at hsi
    rw [hc] at hsi
    cases hsi
  | some cd =>
    unfold PySem.W.ks_superIn at hsi
    rw [hc] at hsi
    obtain ⟨of, hof, hofc⟩ : ∃ of, h'.get? f2 = some of ∧ of.cls = .type "function" := by
      have z : (X.K.lookup f2).map (·.cls) = some (.type "function") := ht
      cases y : X.K.lookup f2 with
      | none =>
        rw [y] at z
        cases z
      | some of =>
        rw [y] at z
        exact ⟨of, KX _ _ y, Option.some.inj z⟩
    refine ks_wpAny_getMethod_super k1 (PySem.W.looks_opaque KX S.opq) (l₀ := cd.mro) (fun A' Q' E' s' kk qq => wpAny_bind ((PySem.W.looks_clsIn KX hc) A' _ E' s' kk (wpAny_pure qq))) rfl KX hsi hof hofc (PySem.W.ks_ne KX J1 hc) (by decide) ?_
    have I2 := ClX.met_new (g := f2) (C := x) I1
    refine ClX.callwith_cm I2 (ClX.base_none I1 (Nat.le_refl _)) hf (thn (ha.run pos _ _ σ H _ I2 q) fun us s3 ⟨vs, H2, I3, rv, q2⟩ => ⟨⟨ClX.pin_at I3, I3.kIn⟩, ?_⟩) hst hpl
    have r2 : Vals (V.ref x :: (vs ++ dvs)) (Value.ref x :: (us ++ ds)) := .cons rfl (rv.append hd)
    have hl : (Value.ref x :: us ++ ds).length = ps.length := by
      have z := r2.length
      rw [F.len _ _ _ _ q2] at z
      exact z.symm
    refine wpAny_call (PySem.W.method_call (ClX.pin_at I3) (codeAny_mono (F.run X.A X.stack _ _ ⟨Value.ref x :: us, []⟩ (Value.ref x :: (us ++ ds)) _ _ E hr I3.env0 (hb _ (Value.ref x :: us) I3.kIn hl) r2 q2) fun r s' hq => ?_))
    cases r with
    | error er => exact hx _ σ _ _ er s' (ClX.unpin I3) hq
    | ok fl =>
      cases fl with
      | ret v =>
        obtain ⟨v', H', I4, _, q3⟩ := (ClX.unpin I3).after hq
        exact hr2.run _ s' σ H' Dn I4 q3
      | next => exact False.elim hq
      | brk => exact False.elim hq
      | cont => exact False.elim hq
end
end L2.DS
/-! Own exceptions whose __init__ says super().__init__('text'); self.f = f. -/
namespace L2.DS
open PySem PySem.Spec PyProof.Rows
abbrev xBody (nm txt : Str) (j : Nat) (a b c d e f g h i k : Pos) : List Stmt :=
  [.Expr (.Call (.Attribute (.Call (.Name "super" a) [] [] b) "__init__" c) [.Constant (.str txt) j d] [] e) f, .Assign [.Attribute (.Name "self" g) nm h] (.Name nm i) k]
/-- super().__init__('text') is evaluated as a method's call -/
def xPlain (txt : Str) (j : Nat) (a b c d e : Pos) (env : Env) : Prop := eval (.Call (.Attribute (.Call (.Name "super" a) [] [] b) "__init__" c) [.Constant (.str txt) j d] [] e) env = (do
  let ov ← attributeBase (.Call (.Name "super" a) [] [] b) "__init__" env (eval (.Call (.Name "super" a) [] [] b) env)
  standAt c.atName
  let (f, first) ← holding [ov] (getMethod ov "__init__" (do return (← importBound (.Call (.Name "super" a) [] [] b) env).getD true))
  callWith e f first (backTo e (starEach [.Constant (.str txt) j d] env)) [])
abbrev eTail (B : String) : List Value := [.type B, .type "Exception", .type "BaseException", .type "object"]
/-- the built-in bases -/
structure EB (B newId initId : String) : Prop where
  F : ExcBaseFacts B newId initId (eTail B)
  S : StoreFacts B (eTail B) "object.__setattr__" "object"
  X : PySem.W.KxsFacts B initId
theorem ebV : EB "ValueError" "ValueError.__new__" "ValueError.__init__" := ⟨F.excBase_ValueError, F.store_ValueError, PySem.W.kxs_ValueError⟩
theorem ebL : EB "LookupError" "LookupError.__new__" "LookupError.__init__" := ⟨F.excBase_LookupError, F.store_LookupError, PySem.W.kxs_LookupError⟩
/-- an own class of error, as the top has made it -/
structure ExC (K : PySem.W.Frag) (C : Addr) (B newId : String) : Prop where
  ini : PySem.W.excInitIn K C (eTail B) newId = true
  ovr : PySem.W.excOver K C (eTail B) = true
  hdc : PySem.W.hasDictIn K C = true
  sa : PySem.W.findIn K (.ref C) "__setattr__" = some (some (.builtin "object.__setattr__"))
  exC : PySem.W.subIn K (.ref C) (.type "BaseException") = some true
  subB : PySem.W.subIn K (.ref C) (.type B) = some true
  tyC : PySem.W.typeIn K (.ref C) = some (.type "type")
  kC : PySem.W.keepIn K (.ref C) = true
/-- .. with such an __init__ at fI, of the field nm -/
structure ExI (prog : Program) (K : PySem.W.Frag) (mg : Str → Option Value) (C fI : Addr) (nm : Str) (B newId initId : String) : Prop where
  cls : ExC K C B newId
  iC : PySem.W.findIn K (.ref C) "__init__" = some (some (.ref fI))
  tI : PySem.W.typeIn K (.ref fI) = some (.type "function")
  noN : PySem.W.findIn K (.ref C) nm = some none
  supI : PySem.W.ks_superIn K C C "__init__" = some (some (.builtin initId))
  mroC : PySem.W.mroIn K C (.ref C) = some true
  mgS : mg "super" = none
  opq : PySem.W.nsIn K cStatics "thirdparty.any" = some none
  top : (prog.main.scope.names.lookup ("super" : Str)).isSome = false
  fn : ∃ (st : Stmt) (qual : Str) (oc : Value) (od : Option Addr) (doc pm : Value) (an : Option Addr) (cda : Addr) (ct : Value) (osl : Array (Option Value)) (cc : Addr) (ol : Obj) (vs : Array Value) (file : Str) (tf : Tok) (oc2 : Obj),
    K.lookup fI = some ⟨oc, od, .func (PySem.W.fnX "__init__" qual (defArgs st) (defBody st) (defScope st) [("__class__", cc)] .none .none doc pm an (.ref cda) ct), osl⟩ ∧ PySem.W.codeIn K (.ref cda) qual = true ∧
    K.lookup cda = some ol ∧ ol.data = .fields vs ∧ vs[2]? = some (.str file tf) ∧ ((prog.main.file : Str) == file) = true ∧ K.lookup cc = some oc2 ∧ oc2.data = .cell (some (.ref C)) ∧
    (∃ txt j a b c d e f g h i k, defBody st = xBody nm txt j a b c d e f g h i k ∧ (∀ env, xPlain txt j a b c d e env) ∧ (∀ env l, swapsWith (.Call (.Attribute (.Call (.Name "super" a) [] [] b) "__init__" c) [.Constant (.str txt) j d] [] e) none l env = pure false) ∧
      ∀ env l, swapsWith (.Name nm i) (some (.Attribute (.Name "self" g) nm h)) l env = pure false) ∧
    ((defScope st).kind = .function ∧ (defScope st).isCoroutine = false ∧ (defScope st).isGenerator = false ∧ (∀ x ∈ (defScope st).names, x.2 ≠ NameKind.cell)) ∧
    ((defScope st).names.lookup ("self" : Str) = some .local ∧ (defScope st).names.lookup nm = some .local ∧ (defScope st).names.lookup ("__class__" : Str) = some .free ∧ (defScope st).names.lookup ("super" : Str) = some .globalImplicit) ∧
    (∃ a, ((defArgs st).posonlyargs ++ (defArgs st).args).head? = some a ∧ a.arg = ("self" : Str)) ∧ nm ≠ ("self" : Str) ∧ (nm == ("__debug__" : Str)) = false ∧
    (∀ (fd : FuncData) (s : Shared) (x v : Value), fd.params = defArgs st → fd.scope = defScope st → fd.defaults = .none → fd.kwdefaults = .none → BindsTo s fd ⟨[x, v], []⟩ [("self", x), (nm, v)])
/-- what __init__ leaves of a fresh error at x -/
structure ExEnd (h h' : Heap) (x C dx t1 : Addr) (nm : Str) (v : Value) : Prop where
  keep : ∀ b o, b ≠ x → h.get? b = some o → h'.get? b = some o
  obj : h'.get? x = some { cls := .ref C, dict := some dx, data := .fields #[.ref t1, .none, .none, .none, .bool false, .none] }
  dbig : h.objs.size ≤ dx
  dne : dx ≠ x
  ns : h'.Ns1 dx (fun y => if y = nm then some v else none)
section
variable {prog : Program} {w : World} {A : Around} {E : Value → Shared → Prop} {R : Result → Shared → Prop} {K : PySem.W.Frag} {mg : Str → Option Value} {C fI : Addr} {nm : Str} {B newId initId : String}
/-- self.f = v on an error without a dict -/
theorem ex_set {hp : Heap} {g : Array GenState} {d : Drawn} {t : Nat} {os : OsState} {name : Str} {tk : Tok} {v : Value} {x : Addr} {fv : Array Value} (b : EB B newId initId) (T : ExC K C B newId) (X : K.In hp) (hx : hp.get? x = some { cls := .ref C, data := .fields fv })
    (ha : PySem.W.findIn K (.ref C) name = some none)
    (hq : ∀ h' tk' dx, (∀ b o, b ≠ x → hp.get? b = some o → h'.get? b = some o) → hp.objs.size ≤ dx → dx ≠ x → h'.get? x = some { cls := .ref C, dict := some dx, data := .fields fv } →
      h'.Ns1 dx (fun y => if y = name then some v else none) → R (.ok (.ret .none)) ⟨h', g, d, tk', os⟩) :
    codeAny (model prog w) A (.call (.builtin "object.__setattr__") ⟨[.ref x, .str name tk, v], []⟩) R ⟨hp, g, d, t, os⟩ := by
  refine PySem.W.osa_openX (od := none) (r := none) b.S X ⟨hx, rfl, rfl, trivial⟩ T.ovr (by unfold PySem.W.takerIn; rw [ha]; rfl) fun bb => ?_
  obtain ⟨cd, hcd, hh⟩ := PySem.W.any_some T.hdc
  have hcls : PySem.W.Looks (model prog w) hp (classData C) cd := PySem.W.looks_clsIn X hcd
  have nx : x ≠ hp.objs.size := Nat.ne_of_lt (Heap.lt_size hx)
  obtain ⟨nm, bs, mro, ns, qn, hd, sn, sb, ab, col, del⟩ := cd
  dsimp only at hh
  subst hh
  dsimp only
  unfold Builtin.ObjectAttr.storeInOwnDict Builtin.ObjectAttr.ownDictForStores
  repeat (first | (with_reducible refine PySem.HandSPX.store_in_new ?_ ?_) | (with_reducible refine wpAny_loadPart_at hx ?_) | (with_reducible refine hcls.at ?_) | wp_step)
  · refine ⟨_, #[], _, (Heap.get?_update_ne _ _ _ _ nx.symm).trans (Heap.get?_push_at rfl rfl), rfl, fun e he => absurd he (by simp), fun _ => rfl⟩
  · intro h1 tk1 hn1 sb1
    have hx1 : (hp.push { cls := .type "dict", data := .dict #[] }).get? x = some { cls := .ref C, data := .fields fv } := Heap.get?_push_of_some _ hx
    refine hq h1 tk1 hp.objs.size (fun b o hb ho => (sb1.2 b (Nat.ne_of_lt (Heap.lt_size ho))).trans ?_) (Nat.le_refl _) nx.symm ((sb1.2 x nx).trans (Heap.get?_update_self _ hx1 rfl)) hn1
    exact (Heap.get?_update_ne _ _ _ _ hb).trans (Heap.get?_push_of_some _ ho)
theorem find_none {K : PySem.W.Frag} {h : Heap} {x : Addr} (X : K.In h) (hx : h.get? x = none) : K.lookup x = none := by
  cases e : K.lookup x with
  | none => rfl
  | some o =>
    have z := X _ _ e
    rw [hx] at z
    cases z
/-- the __init__ on a fresh error at x -/
theorem exi_init {s : Shared} {x t0 : Addr} {v : Value} {mb : Str → Option Value} (b : EB B newId initId) (T : ExI prog K mg C fI nm B newId initId) (X : K.In s.heap) (hlim : s.heap.NoLimit) (G : s.heap.Ns mainGlobals mg)
    (Bl : s.heap.Ns builtinsNs mb) (hB : ∀ y : Str, y ≠ "__name__" → mb y = bootBuiltins y) (hx : s.heap.get? x = some (PySem.HandSPX.excO C t0)) (hnx : K.lookup x = none) (hroom : A.depth < recursionLimit)
    (hq : ∀ h' tk dx t1, ExEnd s.heap h' x C dx t1 nm v → R (.ok (.ret .none)) { s with heap := h', toks := tk }) :
    codeAny (model prog w) A (.call (.ref fI) ⟨[.ref x, v], []⟩) R s := by
  obtain ⟨st, qual, oc, od, doc, pm, an, cda, ct, osl, cc, ol, vs, file, tf, oc2, l1, l2, l3, l4, l5, l6, l7, l8, ⟨txt, j, p1, p2, p3, p4, p5, p6, p7, p8, p9, p10, hbody, hpl, hsw1, hsw2⟩, ⟨k1, k2, k3, k4⟩, ⟨n1, n2, n3, n4⟩, ⟨ar, a1, a2⟩, ne1, ne2, hbind⟩ := T.fn
  obtain ⟨nmC, N', qn, bs, bm, hdct, sn, sub, ab, col, dd, q0, q1, q2, q3, q5, hC, hT⟩ := PySem.W.excInit_of X T.cls.ini
  refine ks_codeAny_call_defAt (body := defBody st) (binds := [("self", .ref x), (nm, v)]) hroom (X _ _ l1) rfl hlim (PySem.W.codeRec_of X l2) rfl (hbind _ _ _ _ rfl rfl rfl rfl) k4 (fun y hy => ?_) (fun h1 hns hk1 => ?_) k2 k3 k1
  · rcases List.mem_cons.mp hy with e | hy
    · rw [e]
      exact n1
    · rw [List.mem_singleton.mp hy]
      exact n2
  rw [hbody]
  have X1 : K.In h1 := X.keeps hk1
  have hself : List.lookup ("self" : Str) [(nm, v), (("self" : Str), Value.ref x)] = some (.ref x) := by
    have z : (("self" : Str) == nm) = false := by simpa using Ne.symm ne1
    simp [List.lookup, z]
  have hname : List.lookup nm [(nm, v), (("self" : Str), Value.ref x)] = some v := by simp [List.lookup]
  have hx1 := hk1 _ _ hx
  have IA : PySem.W.InstAt h1 x (PySem.HandSPX.excO C t0) C none := ⟨hx1, rfl, rfl, trivial⟩
  refine ks_wpAt_execs_cons (ks_wpAt_Expr_any (ks_wpAt_MethodCall ?_ (hpl _)) (by simp [interactive, callEnv, newEnv, k1]) (hsw1 _ _))
  refine ks_wpAt_super_base (f := fI) n4 n3 (by decide) rfl (X1 _ _ l1) rfl a1 rfl (X1 _ _ l3) l4 l5 l6 T.top ?_
  refine PySem.W.ks_loadName_global k1 n4 (Calls.loadGlobal_builtin (mg := mg) (mb := mb) (G.keeps hk1) T.mgS (Bl.keeps hk1) ((hB _ (by decide)).trans (by decide +kernel)) ⟨rfl, ?_⟩)
  refine wpAny_loadName_free (c := cc) k1 n3 (by simp [callEnv, newEnv, List.lookup]) ⟨oc2, X1 _ _ l7, l8⟩ ?_
  rw [a2]
  refine wpAny_loadName_local k1 n1 hns hself ?_
  refine ks_wpAny_isType_cls (hk1 _ _ hC) rfl ⟨rfl, ?_⟩
  refine ks_wpAny_call_super (hk1 _ _ hC) rfl hx1 rfl (fun c z => by cases z) (PySem.W.looks_mroIn X1 T.mroC) fun h2 e2 kk2 => ?_
  have X2 : K.In h2 := X1.keeps kk2
  have hx2 := kk2 _ _ hx1
  have hxC : x ≠ C := fun z => by
    rw [z] at hx
    rw [hC] at hx
    cases hx
  have hIB : PySem.W.Looks (model prog w) h2 (isInstance (.ref x) (.type B)) true :=
    (show PySem.W.InstAt h2 x (PySem.HandSPX.excO C t0) C none from ⟨hx2, rfl, rfl, trivial⟩).type.andThen (PySem.W.looks_subIn X2 T.cls.subB)
  cases hcl : PySem.W.clsIn K C with
  | none =>
    have z := T.supI
    unfold PySem.W.ks_superIn at z
    rw [hcl] at z
    cases z
  | some cd =>
    have hal : PySem.W.alongIn K "__init__" ((cd.mro.dropWhile (· != .ref C)).drop 1) = some (some (.builtin initId)) := by
      have z := T.supI
      unfold PySem.W.ks_superIn at z
      rw [hcl] at z
      exact z
    refine PySem.W.kxs_getMethod b.X e2 (PySem.W.looks_opaque X2 T.opq) (l₀ := cd.mro) (fun A' Q' E' s' kk qq => wpAny_bind ((PySem.W.looks_clsIn X2 hcl) A' _ E' s' kk (wpAny_pure qq))) rfl X2 hal hIB hxC (by decide) ?_
    -- the method-wrapper at h2.objs.size is called with the text
    have hmw : (h2.push (PySem.W.kxs_mw initId x)).get? h2.objs.size = some (PySem.W.kxs_mw initId x) := Heap.get?_push_size h2 rfl
    have k3' : ∀ b' o, h2.get? b' = some o → (h2.push (PySem.W.kxs_mw initId x)).get? b' = some o := fun b' o e => Heap.get?_push_of_some _ e
    have hx3 := k3' _ _ hx2
    refine PySem.W.kxs_callWith (i := initId) (x := x) rfl (Calls.evalArgs_plain (Calls.spliced_cons (Calls.Constant_str (k := j) (pos := p4) (Calls.spliced_nil ⟨hmw, ?_⟩))))
    refine wpAny_call (codeAny_of_tree ?_)
    show wpAny _ _ (callAny (.ref h2.objs.size) _) _ _ _
    simp only [callAny]
    refine wpAny_bind (wpAny_load hmw ?_)
    simp only [PySem.W.kxs_mw, show (Value.type "method-wrapper" == Value.type "method" || Value.type "method-wrapper" == Value.type "builtin_function_or_method" || Value.type "method-wrapper" == Value.type "method-wrapper") = true by decide, if_true]
    refine PySem.W.KFB.if_so (by decide) ?_
    refine wpAny_bind (PySem.W.check_bound_init b.F.toExcCallFacts (k3' _ _ (kk2 _ _ (hk1 _ _ hC))) hx3 rfl ?_)
    refine wpAny_bind (wpAny_pure (wpAny_pure ?_))
    refine ⟨plainId_quiet b.F.init.plain _, codeAny_builtin b.F.initEntry ?_⟩
    refine PySem.W.exc_init_tree (cls := .ref C) (t0 := t0) (dv := none) (c2 := .none) (c3 := .none) (b4 := .bool false) hx3 (by show 1 ≤ sizeLine; rw [sizeLine_eq]; decide) fun h4 kk4 hx4 ht4 => ?_
    show PySem.wpAt _ _ _ (execs _ _) _ _ _
    refine wpAt_of_wpAny ?_
    have X4 : K.In h4 := fun a o e => kk4 a o (fun z => by rw [z, hnx] at e; cases e) (k3' _ _ (X2 a o e))
    have nxL : s.heap.objs.size ≠ x := Nat.ne_of_gt (Heap.lt_size hx)
    obtain ⟨oL, es, ep, hL1, hL2⟩ := hns
    have hns4 : h4.Ns s.heap.objs.size (fun y => List.lookup y [(nm, v), (("self" : Str), Value.ref x)]) := ⟨oL, es, ep, kk4 _ _ nxL (k3' _ _ (kk2 _ _ hL1)), hL2⟩
    refine wpAny_execs_cons (plainObj_wpAny_Assign_Attribute ?_ (hsw2 _ _))
    refine wpAny_Name (wpAny_loadName_local k1 n2 hns4 hname ?_) ne2
    refine wpAny_Name (wpAny_loadName_local k1 n1 hns4 hself ?_) (by decide)
    refine PySem.W.set_plain X4 (od := none) ⟨hx4, rfl, rfl, trivial⟩ T.cls.sa ?_
    refine ex_set b T.cls X4 hx4 T.noN fun h5 tk5 dx k5 big ne hx5 hn5 => ?_
    refine wpAny_execs_nil (hq h5 _ dx _ ⟨fun y o hy e => k5 y o hy (kk4 y o hy (k3' _ _ (kk2 _ _ (hk1 _ _ e)))), hx5, ?_, ne, hn5⟩)
    have big2 : h2.objs.size < h4.objs.size := Heap.lt_size (kk4 _ _ (fun z => ?_) hmw)
    · have z1 : s.heap.objs.size < h1.objs.size := Heap.lt_size hL1
      have z2 : s.heap.objs.size < h2.objs.size := Heap.lt_size (kk2 _ _ hL1)
      exact Nat.le_of_lt (Nat.lt_of_lt_of_le (Nat.lt_trans z2 big2) big)
    · have y := Heap.lt_size hx2
      rw [z] at y
      exact absurd y (Nat.lt_irrefl _)
end
/-! ### C(e) -/
theorem relO_one {v : V} {v' : Value} (r : RelV v v') (nm f : Str) : RelO (List.lookup f [(nm, v)]) (if f = nm then some v' else none) := by
  by_cases hw : f = nm
  · subst hw
    rw [if_pos rfl, show List.lookup f [(f, v)] = some v by simp [List.lookup]]
    exact r
  · rw [if_neg hw, show List.lookup f [(nm, v)] = none by simp [List.lookup, show (f == nm) = false by simpa using hw]]
    trivial
/-- a made error -/
structure ExMade (h h' : Heap) (e C d : Addr) (nm : Str) (v : Value) : Prop where
  keep : ∀ b o, h.get? b = some o → h'.get? b = some o
  new : h.objs.size ≤ e
  obj : ∃ t1, h'.get? e = some { cls := .ref C, dict := some d, data := .fields #[.ref t1, .none, .none, .none, .bool false, .none] }
  dbig : h.objs.size ≤ d
  dne : d ≠ e
  ns : h'.Ns1 d (fun y => if y = nm then some v else none)
section
variable {prog : Program} {w : World} {A : Around} {R : Result → Shared → Prop} {K : PySem.W.Frag} {mg : Str → Option Value} {C fI : Addr} {nm : Str} {B newId initId : String}
theorem exi_made {s : Shared} {v : Value} {mb : Str → Option Value} (b : EB B newId initId) (T : ExI prog K mg C fI nm B newId initId) (X : K.In s.heap) (hlim : s.heap.NoLimit) (G : s.heap.Ns mainGlobals mg)
    (Bl : s.heap.Ns builtinsNs mb) (hB : ∀ y : Str, y ≠ "__name__" → mb y = bootBuiltins y) (hroom : A.depth + 1 < recursionLimit)
    (hq : ∀ h' tk e d, ExMade s.heap h' e C d nm v → R (.ok (.ret (.ref e))) { s with heap := h', toks := tk }) : codeAny (model prog w) A (.call (.ref C) ⟨[v], []⟩) R s := by
  obtain ⟨nmC, N', qn, bs, bm, hdct, sn, sub, ab, col, dd, q0, q1, q2, q3, q5, hC, hT⟩ := PySem.W.excInit_of X T.cls.ini
  obtain ⟨hp, g, dr, tk, os⟩ := s
  have k : ∀ b' o, hp.get? b' = some o → ((hp.push (PySem.W.kdv_tup [v])).push (PySem.HandSPX.excO C hp.objs.size)).get? b' = some o := fun b' o e => Heap.get?_push_of_some _ (Heap.get?_push_of_some _ e)
  have hget : ((hp.push (PySem.W.kdv_tup [v])).push (PySem.HandSPX.excO C hp.objs.size)).get? (hp.objs.size + 1) = some (PySem.HandSPX.excO C hp.objs.size) := by heap_get
  have hnx : K.lookup (hp.objs.size + 1) = none := find_none X (Heap.get?_none_of_le (Nat.le_succ _))
  refine PySem.HandSPX.call_own b.F hT hC (PySem.W.looks_findIn X T.iC) (fun self => PySem.W.bind_fn X self T.tI) (by show 1 ≤ sizeLine; rw [sizeLine_eq]; decide) ?_
  refine exi_init (s := ⟨(hp.push (PySem.W.kdv_tup [v])).push (PySem.HandSPX.excO C hp.objs.size), g, dr, tk, os⟩) b T (X.keeps k) (hlim.keeps k) (G.keeps k) (Bl.keeps k) hB hget hnx ?_ fun h' tk' dx t1 M => ?_
  · show A.depth + 1 < recursionLimit
    exact hroom
  · have z : hp.objs.size + 1 + 1 ≤ dx := by
      have q := M.dbig
      rw [Heap.size_push, Heap.size_push] at q
      exact q
    refine ⟨rfl, hq h' tk' (hp.objs.size + 1) dx ⟨fun b' o e => M.keep b' o (Nat.ne_of_lt (Nat.lt_succ_of_lt (Heap.lt_size e))) (k b' o e), Nat.le_succ _, ⟨t1, M.obj⟩, Nat.le_trans (Nat.le_trans (Nat.le_succ _) (Nat.le_succ _)) z, M.dne, M.ns⟩⟩
end
section
variable {X : Cx} {C fI : Addr} {nm : Str} {B newId initId : String}
/-- C(e), C an own error with a field -/
def tMkX (C : Addr) (nm : Str) (ta : TA) : L2.St → Hp → XK → Prop := fun σ H Q => ta σ H fun vs H1 => ∃ v, vs = [v] ∧ ∀ d, H1 d = none → Q (.ref C) (some d) (upd H1 d (.xd [(nm, v)]))
theorem pmk_exi {x : Str} {a : Expr} {ta : TA} {p pos : Pos} {k : Nat} (b : EB B newId initId) (T : ExI X.prog X.K X.mg C fI nm B newId initId) (hm : X.mg x = some (.ref C)) (hr : Room k X.A) (ha : PA X [a] ta) (hg : Gl X x := by rfl)
    (hdb : (x == ("__debug__" : Str)) = false := by decide) (he : starEach (a :: []) X.env = (false, eval a X.env) :: starEach [] X.env := by rfl) (hpl : (backTo pos (starEach [] X.env)).any (·.1) = false := by rfl) :
    PMk X (.Call (.Name x p) [a] [] pos) (tMkX C nm ta) := by
  intro pins s σ H Q I h
  refine wpAny_Call_Name_kw (ld_glob I hg hm ?_ hdb)
  refine PySem.W.callWith_K (h₀ := X.base) I.ok.mod.kin T.cls.kC (thn (ha.run pos pins s σ H _ I h) fun us s1 hh => ?_) he hpl
  obtain ⟨vs, H1, I1, r1, v, ev, q1⟩ := hh
  subst ev
  refine ⟨I1.kIn, ?_⟩
  cases r1 with
  | cons rv rn =>
    rename_i v' us'
    cases rn
    show wpAny _ _ (call (.ref C) [v']) _ _ _
    obtain ⟨mb, b1, b2⟩ := I1.mod.blt
    have bk := I1.bk
    have hlim := I1.nolimit
    have hk := I1.kIn
    have gg := I1.mod.glob.keeps bk
    have bb := b1.keeps bk
    obtain ⟨hp, g, dr, tk, os⟩ := s1
    refine wpAny_call (exi_made b T hk hlim gg bb b2 (by have := hr.dp; omega) fun h' tk' e d M => ?_)
    show MkP X pins σ Q (.ref e) ⟨h', g, dr, tk', os⟩
    obtain ⟨t1, hoe⟩ := M.obj
    have hns := M.ns
    obtain ⟨G', g1, g2⟩ := restrict h' fun y => decide (y ≠ e)
    have gk : ∀ y, y ≠ e → G'.get? y = h'.get? y := fun y hb => g1 y (decide_eq_true hb)
    have ge : G'.get? e = none := g2 e (by simp)
    have old : ∀ y o, hp.get? y = some o → G'.get? y = some o := fun y o q => (gk y (Nat.ne_of_lt (Nat.lt_of_lt_of_le (Heap.lt_size q) M.new))).trans (M.keep y o q)
    have ob : ObjOk X.prog X.w (upd H1 d (.xd [(nm, v)])) G' d (.xd [(nm, v)]) := ⟨_, hns.at (fun o q => (gk d M.dne).trans q), fun f => relO_one rv nm f⟩
    have J : Inv X pins σ (upd H1 d (.xd [(nm, v)])) ⟨G', g, dr, tk', os⟩ := I1.laid (t' := tk') old M.dbig ob
    refine ⟨e, _, _, ⟨G', g, dr, tk', os⟩, _, .ref C, some d, rfl, J, fun y o q => ?_, ge, hoe, ⟨rfl, rfl⟩, rfl, rfl, ?_, rfl, I1.bare, raises_own T.cls.exC T.cls.tyC, q1 d (I1.hok.fresh M.dbig)⟩
    · by_cases hb : y = e
      · have q' : G'.get? y = some o := q
        rw [hb, ge] at q'
        cases q'
      · exact (gk y hb).symm.trans q
    · rw [upd_ne (Ne.symm M.dne)]
      exact I1.hok.fresh M.new
/-- raise C(e) -/
def tRaiseX (C : Addr) (nm : Str) (W : WX) (ta : TA) : TS := fun _ σ H => tMkX C nm ta σ H fun cls d H' => W cls d σ H'
theorem ps_raiseX {x : Str} {a : Expr} {ta : TA} {W : WX} {p pos pos2 : Pos} {k : Nat} (hc : X.calm = true) (b : EB B newId initId) (T : ExI X.prog X.K X.mg C fI nm B newId initId) (hm : X.mg x = some (.ref C)) (hr : Room k X.A) (tk : Takes X W) (ha : PA X [a] ta) (hg : Gl X x := by rfl)
    (hdb : (x == ("__debug__" : Str)) = false := by decide) (he : starEach (a :: []) X.env = (false, eval a X.env) :: starEach [] X.env := by rfl) (hpl : (backTo pos (starEach [] X.env)).any (·.1) = false := by rfl) :
    PS X (.Raise (some (.Call (.Name x p) [a] [] pos)) none pos2) (tRaiseX C nm W ta) := ps_raise hc tk (pmk_exi b T hm hr ha hg hdb he hpl)
end
/-! ### n.f, n the error that an except suite holds -/
/-- what reading a field of such an error asks of its class -/
structure ExG (K : PySem.W.Frag) (C : Addr) (nm : Str) : Prop where
  ga : PySem.W.findIn K (.ref C) "__getattribute__" = some (some (.builtin "BaseException.__getattribute__"))
  gg : PySem.W.findIn K (.ref C) "__getattr__" = some none
  exC : PySem.W.subIn K (.ref C) (.type "BaseException") = some true
  hdC : PySem.W.hasDictIn K C = true
  noN : PySem.W.findIn K (.ref C) nm = some none
section
variable {X : Cx} {C : Addr} {nm : Str}
def tFldX (C : Addr) (nm : Str) (a : Addr) (cls : Value) (d : Option Addr) (te : TE) : TE := fun σ H Q => te σ H fun x H1 => x = .ref a ∧ cls = .ref C ∧ ∃ (dd : Addr) (v : V), d = some dd ∧ H1 dd = some (.xd [(nm, v)]) ∧ Q v H1
theorem pe_fldX {a : Addr} {oe : Obj} {cls : Value} {d : Option Addr} {pn : List (Addr × Obj)} {e : Expr} {te : TE} {pos : Pos} (T : ExG X.K C nm) (hz : Zc cls d oe) (hf : ∃ vs, oe.data = .fields vs) (he : PE (X.suite a ((a, oe) :: pn)) e te)
    (hb : attributeBase e nm X.env (eval e X.env) = eval e X.env := by rfl) : PE (X.suite a ((a, oe) :: pn)) (.Attribute e nm pos) (tFldX C nm a cls d te) := by
  refine ⟨fun pins s σ H Q I h => ?_⟩
  refine attr_of hb (thn (he.run pins s σ H _ I h) fun u s1 hh => ?_)
  obtain ⟨x, H1, I1, rx, ex, ec, dd, v, ed, ea, q⟩ := hh
  subst ex
  obtain rfl : u = Value.ref a := rx
  subst ec
  subst ed
  obtain ⟨ha, _⟩ := I1.pin (a, oe) (List.mem_append_left _ List.mem_cons_self)
  obtain ⟨vs, hd⟩ := hf
  have hx : ObjOk X.prog X.w H1 s1.heap dd (.xd [(nm, v)]) := I1.hok dd _ ea
  obtain ⟨mA, hns, hr⟩ := hx
  obtain ⟨od, ho, hl⟩ := lookIn_ns hns
  have l : List.lookup nm [(nm, v)] = some v := by simp [List.lookup]
  obtain ⟨u, hu, ru⟩ := RelO.some_of (v := v) (o := mA nm) (by rw [← l]; exact hr nm)
  have J : PySem.W.InstAt s1.heap a oe C (some od) := ⟨ha, hz.1, by unfold PySem.W.notCls; rw [hd] <;> rfl, by rw [hz.2]; exact ho⟩
  exact HandSPX.exc_get I1.kIn J T.ga T.gg T.exC (PySem.W.findObj_own T.hdC T.noN rfl (by rw [hl, hu])) (handed_of ru) ⟨v, H1, I1.tok _, ru, q⟩
end
end L2.DS
/-! The rule for a def that says super().__init__. -/
namespace L2.DS
open PySem PySem.Spec PyProof.Rows
structure FunS (prog : Program) (K : PySem.W.Frag) (x qual : Str) (st : Stmt) (f : Addr) (fd : FuncData) (D : Addr) : Prop where
  ex : ∃ (oc : Value) (od : Option Addr) (dV kV doc pm : Value) (an : Option Addr) (cda : Addr) (ct : Value) (osl : Array (Option Value)) (cc : Addr) (ol : Obj) (vs : Array Value) (file : Str) (tf : Tok) (ccl : Value) (ccd : Option Addr) (csl : Array (Option Value)),
    fd = PySem.W.fnX x qual (defArgs st) (defBody st) (defScope st) [("__class__", cc)] dV kV doc pm an (.ref cda) ct ∧ K.lookup f = some ⟨oc, od, .func fd, osl⟩ ∧ PySem.W.codeIn K (.ref cda) qual = true ∧
    K.lookup cda = some ol ∧ ol.data = .fields vs ∧ vs[2]? = some (.str file tf) ∧ ((prog.main.file : Str) == file) = true ∧ K.lookup cc = some ⟨ccl, ccd, .cell (some (.ref D)), csl⟩
  cls : ∃ oD cd, K.lookup D = some oD ∧ oD.data = .cls cd
  kp : PySem.W.keepIn K (.ref f) = true
  fi : PySem.W.fnIn K f = true
  ty : PySem.W.typeIn K (.ref f) = some (.type "function")
section
variable {P : Program} {w : World} {K : PySem.W.Frag} {mg : Str → Option Value} {base : Heap}
theorem FunS.okX {x qual : Str} {st : Stmt} {f D : Addr} {fd : FuncData} {N ps : List Str} {k : Nat} {sp : Sp} {ar : Str} {a : Arg} (F : FunS P K x qual st f fd D) (S : ScS N ps (defScope st)) (hmg : mg "super" = none)
    (opq : PySem.W.nsIn K cStatics "thirdparty.any" = some none) (top : (P.main.scope.names.lookup ("super" : Str)).isSome = false) (har : ((defArgs st).posonlyargs ++ (defArgs st).args).head? = some a) (har2 : a.arg = ar)
    (len : ∀ vs H Q E, sp vs H Q E → vs.length = ps.length)
    (hbody : ∀ (cdv : Value) (cc : Addr) (A : Around) (outer : List Env) (s : Shared) (H : Hp) (vs : List V) (Q : VK) (E : XK), Room k (A.deeper (envS qual (defScope st) s.heap.objs.size f cdv cc)) → sp vs H Q E →
      SupAt (cxS (L2.CX P w) P w K mg base N qual (defScope st) f cdv cc A outer s H E) D ar →
      ∃ t, PSA (cxS (L2.CX P w) P w K mg base N qual (defScope st) f cdv cc A outer s H E) (defBody st) (defBody st) t ∧ t { nx := fun _ H' => Q .non H', rt := Q } (start N vs) H) : FnOk P w K mg base (L2.CX P w) (k + 1) f fd ps sp := by
  obtain ⟨oc, od, dV, kV, doc, pm, an, cda, ct, osl, cc, ol, vs, file, tf, ccl, ccd, csl, rfl, l1, l2, l3, l4, l5, l6, l7⟩ := F.ex
  refine ⟨len, fun A outer s H args us ws Q E hr e0 hb r hsp => ?_⟩
  have hl := len _ _ _ _ hsp
  have kb : ∀ b o, base.get? b = some o → s.heap.get? b = some o := fun b o e => (e0.bs b o e).1
  have KX : K.In s.heap := e0.mod.kin.keeps kb
  have lim : s.heap.NoLimit := e0.mod.nolimit.keeps kb
  refine codeAny_call_function hr.depth (KX _ _ l1) rfl S.co S.gen rfl (PySem.W.codeRec_of KX l2) (hb _ _ _ _ ?_)
  refine new_envS S.kind (fun y hy => ?_) fun s1 x1 => ⟨lim.keeps x1.toInCall.keep, ks_codeAny_funcAt ?_⟩
  · obtain ⟨n, v⟩ := y
    rcases S.par n (List.of_mem_zip hy).1 with q | q
    · exact .inl q
    · exact .inr ⟨q, PySem.W.cellsFrom_some _ _ _ (.inl q)⟩
  · have I := inv_startS (CX := L2.CX P w) (E := E) (N := N) (qual := qual) (f := f) (cd := .ref cda) S hr.hd e0 hl r l7 x1
    have SA : SupAt (cxS (L2.CX P w) P w K mg base N qual (defScope st) f (.ref cda) cc A outer s H E) D ar :=
      ⟨S.cls, S.sup, ⟨f, _, _, a, rfl, l1, rfl, har, har2⟩, ⟨cda, ol, vs, file, tf, rfl, l3, l4, l5, l6⟩, top, ⟨cc, _, look_clsS S, l7, rfl⟩, F.cls, hmg, opq⟩
    obtain ⟨t, ht, hq⟩ := hbody (.ref cda) cc A outer s H ws Q E (hr.deeper _) hsp SA
    refine ks_wpAt_mono (ht.run [] s1 (start N ws) H _ I hq) (fun fl s' hs => ?_) fun _ _ z => z
    have fin : ∀ {σ' : L2.St} {H' : Hp} {v : V} {u : Value}, Inv (cxS (L2.CX P w) P w K mg base N qual (defScope st) f (.ref cda) cc A outer s H E) [] σ' H' s' → RelV v u → Q v H' → CE outer P w H s Q u s' :=
      fun {σ' H' v u} J rv q => ⟨v, H', J.os, J.bare, J.base, J.hok, rv, q⟩
    cases fl with
    | ret u =>
      obtain ⟨v, σ', H', J, rv, q⟩ := hs
      exact fin J rv q
    | next =>
      obtain ⟨σ', H', J, q⟩ := hs
      exact fin (v := V.non) (u := Value.none) J rfl q
    | brk =>
      obtain ⟨_, _, _, q⟩ := hs
      exact q.elim
    | cont =>
      obtain ⟨_, _, _, q⟩ := hs
      exact q.elim
end
end L2.DS
/-! What a reading evaluates to: G what stands still, H the heap, S n what is known of both (n: how often numbers were drawn). -/
namespace L2.DS
open PySem PySem.Spec PyProof.Rows
/-- what is known of what stands still and of the heap; what may change under it -/
structure SR where
  s : Nat → Hp → Hp → Prop
  m : Addr → Prop
instance : CoeFun SR (fun _ => Nat → Hp → Hp → Prop) := ⟨SR.s⟩
/-- all stays but what may change -/
structure Kp (S : SR) (H H' : Hp) : Prop where
  k : ∀ b o, ¬ S.m b → H b = some o → H' b = some o
  v : ∀ b, H' b = none → H b = none
theorem Kp.refl {S : SR} (H : Hp) : Kp S H H := ⟨fun _ _ _ h => h, fun _ h => h⟩
theorem Kp.trans {S : SR} {H H1 H2 : Hp} (a : Kp S H H1) (b : Kp S H1 H2) : Kp S H H2 := ⟨fun c o h e => b.k c o h (a.k c o h e), fun c h => a.v c (b.v c h)⟩
theorem Kp.of {S : SR} {H H' : Hp} (s : Same H H') : Kp S H H' := ⟨fun b o _ e => s b o e, fun b h => s.free h⟩
structure Stp (S : SR) (n : Nat) (G H G' H' : Hp) : Prop where
  g : Same G G'
  k : Kp S H H'
  s : S n G' H'
  n : ∀ b o, G' b = some o → G b = some o ∨ H b = none
theorem Stp.refl {S : SR} {n : Nat} {G H : Hp} (s : S n G H) : Stp S n G H G H := ⟨Same.refl _, Kp.refl _, s, fun _ _ h => .inl h⟩
theorem Stp.trans {S : SR} {n m : Nat} {G H G1 H1 G2 H2 : Hp} (a : Stp S n G H G1 H1) (b : Stp S m G1 H1 G2 H2) : Stp S m G H G2 H2 := ⟨a.g.trans b.g, a.k.trans b.k, b.s, fun c o e => by
  rcases b.n c o e with q | q
  · exact a.n c o q
  · exact .inr (a.k.v c q)⟩
theorem Stp.up {S : SR} {n a b : Nat} {G H G1 H1 : Hp} (h : Stp S (n + a + b) G H G1 H1) : Stp S (n + (a + b)) G H G1 H1 := by
  rw [← Nat.add_assoc]
  exact h
abbrev HR := V → Hp → Prop
/-- H' grows out of H, G' out of G: what is new in G' is new in H' -/
structure Grow (G H G' H' : Hp) : Prop where
  g : Same G G'
  h : Same H H'
  s : Same G' H'
  n : ∀ b o, G' b = some o → G b = some o ∨ H b = none
theorem Grow.refl {G H : Hp} (s : Same G H) : Grow G H G H := ⟨Same.refl _, Same.refl _, s, fun _ _ h => .inl h⟩
theorem Grow.trans {G H G1 H1 G2 H2 : Hp} (a : Grow G H G1 H1) (b : Grow G1 H1 G2 H2) : Grow G H G2 H2 :=
  ⟨a.g.trans b.g, a.h.trans b.h, b.s, fun c o e => by
    rcases b.n c o e with q | q
    · exact a.n c o q
    · exact .inr (a.h.free q)⟩
theorem Grow.new {G H : Hp} {p : Addr} (s : Same G H) (hp : H p = none) (o : HO) : Grow G H (upd G p o) (upd H p o) :=
  ⟨fun b u e => by rw [upd_ne (ne_of_none e (s.free hp))]; exact e, fun b u e => by rw [upd_ne (ne_of_none e hp)]; exact e, fun b u e => by
    by_cases hb : b = p
    · subst hb
      rw [upd_same] at e ⊢
      exact e
    · rw [upd_ne hb] at e ⊢
      exact s b u e, fun b u e => by
    by_cases hb : b = p
    · rw [hb]
      exact .inr hp
    · rw [upd_ne hb] at e
      exact .inl e⟩
/-- a new thing that nobody tells of -/
theorem Grow.hid {G H : Hp} {p : Addr} (s : Same G H) (hp : H p = none) (o : HO) : Grow G H G (upd H p o) :=
  ⟨Same.refl _, fun b u e => by rw [upd_ne (ne_of_none e hp)]; exact e, fun b u e => by rw [upd_ne (ne_of_none e (s.free hp))]; exact s b u e, fun b u e => .inl e⟩
structure Stab (S : SR) : Prop where
  sub : ∀ {n G H}, S n G H → Same G H
  wk : ∀ {n m G H}, S n G H → n ≤ m → S m G H
  grow : ∀ {n G H G' H'}, S n G H → Grow G H G' H' → S n G' H'
  anti : ∀ {n m G H G' H'}, S n G H → S m G' H' → Same G G' → S m G H'
  /-- what is new may change while nobody tells of it -/
  chg : ∀ {n m G H G' H' D o}, S n G H → H D = none → S m G' H' → G' D = none → S m G' (upd H' D o)
  pub : ∀ {n m G H G' H' D o}, S n G H → H D = none → S m G' H' → G' D = none → H' D = some o → S m (upd G' D o) H'
  fre : ∀ {n G H D}, S n G H → H D = none → ¬ S.m D
/-- nothing but growth -/
def SP0 (G0 H0 : Hp) : SR := ⟨fun _ G H => Grow G0 H0 G H, fun _ => False⟩
theorem Stp.same {G0 H0 : Hp} {n : Nat} {G H G' H' : Hp} (s : Stp (SP0 G0 H0) n G H G' H') : Same H H' := fun b o e => s.k.k b o (fun z => z) e
theorem Stab.new {S : SR} (st : Stab S) {n : Nat} {G H : Hp} {p : Addr} {o : HO} (s : S n G H) (hp : H p = none) : Stp S n G H (upd G p o) (upd H p o) :=
  have g := Grow.new (st.sub s) hp o
  ⟨g.g, Kp.of g.h, st.grow s g, g.n⟩
theorem Stab.gro {S : SR} (st : Stab S) {n : Nat} {G H G' H' : Hp} (s : S n G H) (g : Grow G H G' H') : Stp S n G H G' H' := ⟨g.g, Kp.of g.h, st.grow s g, g.n⟩
theorem stab0 (G0 H0 : Hp) : Stab (SP0 G0 H0) where
  sub := fun h => h.s
  wk := fun h _ => h
  grow := fun h g => Grow.trans h g
  anti := fun {n m G H G' H'} h h' s => ⟨h.g, h'.h, s.trans h'.s, fun b o e => h'.n b o (s b o e)⟩
  chg := fun {n m G H G' H' D o} h d h' g => ⟨h'.g, fun b u e => by
      rw [upd_ne (ne_of_none e (h.h.free d))]
      exact h'.h b u e, fun b u e => by
      rw [upd_ne (ne_of_none e g)]
      exact h'.s b u e, h'.n⟩
  pub := fun {n m G H G' H' D o} h d h' g e => ⟨fun b u z => by
      rw [upd_ne (ne_of_none z (h'.g.free g))]
      exact h'.g b u z, h'.h, fun b u z => by
      by_cases hb : b = D
      · rw [hb, upd_same] at z
        rw [hb, ← z]
        exact e
      · rw [upd_ne hb] at z
        exact h'.s b u z, fun b u z => by
      by_cases hb : b = D
      · rw [hb]
        exact .inr (h.h.free d)
      · rw [upd_ne hb] at z
        exact h'.n b u z⟩
  fre := fun _ _ z => z
/-! ### results -/
class Mon (R : HR) : Prop where
  mon : ∀ {v : V} {G G' : Hp}, Same G G' → R v G → R v G'
def IsV (x : V) : HR := fun v _ => v = x
def IsI (P : Int → Prop) : HR := fun v _ => ∃ i, P i ∧ v = .int i
def IsB (P : Bool → Prop) : HR := fun v _ => ∃ b, P b ∧ v = .bl b
def IsS (P : Str → Prop) : HR := fun v _ => ∃ b, P b ∧ v = .str b
def IsL (K : PySem.W.Frag) (xs : List V) : HR := fun v G => ∃ p, v = .ref p ∧ SqL K G p xs
def IsT (K : PySem.W.Frag) (xs : List V) : HR := fun v G => ∃ p, v = .ref p ∧ SqT K G p xs
def IsD (K : PySem.W.Frag) (d : PyData) : HR := fun v G => Dp K G v d
abbrev HRs := List V → Hp → Prop
class Mons (R : HRs) : Prop where
  mon : ∀ {v : List V} {G G' : Hp}, Same G G' → R v G → R v G'
def RNil : HRs := fun vs _ => vs = []
def RCons (R : HR) (RA : HRs) : HRs := fun vs G => ∃ v r, vs = v :: r ∧ R v G ∧ RA r G
def IsVs (ws : List V) : HRs := fun vs _ => vs = ws
/-- a list, a tuple of things of which RA tells -/
def IsLA (K : PySem.W.Frag) (RA : HRs) : HR := fun v G => ∃ p xs, v = .ref p ∧ SqL K G p xs ∧ RA xs G
def IsTA (K : PySem.W.Frag) (RA : HRs) : HR := fun v G => ∃ p xs, v = .ref p ∧ SqT K G p xs ∧ RA xs G
theorem same_t {K : PySem.W.Frag} {H H' : Hp} {a : Addr} {xs : List V} (e : Same H H') (h : SqT K H a xs) : SqT K H' a xs := by
  rcases h with (h | ⟨o, h⟩) | h
  · exact .inl (.inl (e _ _ h))
  · exact .inl (.inr ⟨o, e _ _ h⟩)
  · exact .inr h
mutual
theorem dp_mon {K : PySem.W.Frag} {G G' : Hp} (s : Same G G') : ∀ {v : V} {d : PyData}, Dp K G v d → Dp K G' v d
  | _, _, .non => .non
  | _, _, .bl b => .bl b
  | _, _, .int i => .int i
  | _, _, .str x => .str x
  | _, _, .lst h hs => .lst (s.seq h) (dps_mon s hs)
  | _, _, .tup h hs => .tup (same_t s h) (dps_mon s hs)
theorem dps_mon {K : PySem.W.Frag} {G G' : Hp} (s : Same G G') : ∀ {vs : List V} {ds : List PyData}, DpAll K G vs ds → DpAll K G' vs ds
  | _, _, .nil => .nil
  | _, _, .cons h hs => .cons (dp_mon s h) (dps_mon s hs)
end
instance (x : V) : Mon (IsV x) := ⟨fun _ h => h⟩
instance (P : Int → Prop) : Mon (IsI P) := ⟨fun _ h => h⟩
instance (P : Bool → Prop) : Mon (IsB P) := ⟨fun _ h => h⟩
instance (P : Str → Prop) : Mon (IsS P) := ⟨fun _ h => h⟩
instance (K xs) : Mon (IsL K xs) := ⟨fun s ⟨p, e, h⟩ => ⟨p, e, s.seq h⟩⟩
instance (K xs) : Mon (IsT K xs) := ⟨fun s ⟨p, e, h⟩ => ⟨p, e, same_t s h⟩⟩
instance (K d) : Mon (IsD K d) := ⟨fun s h => dp_mon s h⟩
instance : Mons RNil := ⟨fun _ h => h⟩
instance (ws) : Mons (IsVs ws) := ⟨fun _ h => h⟩
instance (R RA) [Mon R] [Mons RA] : Mons (RCons R RA) := ⟨fun s ⟨v, r, e, h, h'⟩ => ⟨v, r, e, Mon.mon s h, Mons.mon s h'⟩⟩
instance (K RA) [Mons RA] : Mon (IsLA K RA) := ⟨fun s ⟨p, xs, e, h, h'⟩ => ⟨p, xs, e, s.seq h, Mons.mon s h'⟩⟩
instance (K RA) [Mons RA] : Mon (IsTA K RA) := ⟨fun s ⟨p, xs, e, h, h'⟩ => ⟨p, xs, e, same_t s h, Mons.mon s h'⟩⟩
/-! ### what evaluates to what -/
variable (S : SR)
def Ev (n k : Nat) (te : TE) (σ : L2.St) (G : Hp) (R : HR) : Prop := ∀ G1 H1, Same G G1 → S n G1 H1 → ∀ Q : VK, (∀ v G2 H2, Stp S (n + k) G1 H1 G2 H2 → R v G2 → Q v H2) → te σ H1 Q
def EvT (n k : Nat) (tt : TT) (σ : L2.St) (G : Hp) (P : Bool → Prop) : Prop := ∀ G1 H1, Same G G1 → S n G1 H1 → ∀ Q : Bool → Hp → Prop, (∀ b G2 H2, Stp S (n + k) G1 H1 G2 H2 → P b → Q b H2) → tt σ H1 Q
def EvA (n k : Nat) (ta : TA) (σ : L2.St) (G : Hp) (RA : HRs) : Prop := ∀ G1 H1, Same G G1 → S n G1 H1 → ∀ Q : List V → Hp → Prop, (∀ v G2 H2, Stp S (n + k) G1 H1 G2 H2 → RA v G2 → Q v H2) → ta σ H1 Q
/-- operations by values -/
def RV (r : R2) (x y : V) (G : Hp) (R : HR) : Prop := ∀ n G1 H1, Same G G1 → S n G1 H1 → ∀ Q : VK, (∀ v G2 H2, Stp S n G1 H1 G2 H2 → R v G2 → Q v H2) → r x y H1 Q
def RU (r : V → Hp → VK → Prop) (x : V) (G : Hp) (R : HR) : Prop := ∀ n G1 H1, Same G G1 → S n G1 H1 → ∀ Q : VK, (∀ v G2 H2, Stp S n G1 H1 G2 H2 → R v G2 → Q v H2) → r x H1 Q
def RC (r : List V → Hp → VK → Prop) (xs : List V) (G : Hp) (R : HR) : Prop := ∀ n G1 H1, Same G G1 → S n G1 H1 → ∀ Q : VK, (∀ v G2 H2, Stp S n G1 H1 G2 H2 → R v G2 → Q v H2) → r xs H1 Q
variable {S}
section
variable {n k ka kb kc : Nat} {te ta tb : TE} {tt tu : TT} {t tr : TA} {σ : L2.St} {G G' : Hp} {R Ra Rb : HR} {RA : HRs} {P P' : Bool → Prop} {x y : V} {r : R2}
theorem Ev.mono (h : Ev S n k te σ G R) (s : Same G G') : Ev S n k te σ G' R := fun G1 H1 a b Q q => h G1 H1 (s.trans a) b Q q
theorem EvT.mono (h : EvT S n k tt σ G P) (s : Same G G') : EvT S n k tt σ G' P := fun G1 H1 a b Q q => h G1 H1 (s.trans a) b Q q
theorem EvA.mono (h : EvA S n k t σ G RA) (s : Same G G') : EvA S n k t σ G' RA := fun G1 H1 a b Q q => h G1 H1 (s.trans a) b Q q
theorem Ev.imp (h : Ev S n k te σ G R) (i : ∀ v G', Same G G' → R v G' → Rb v G') : Ev S n k te σ G Rb := fun G1 H1 a b Q q => h G1 H1 a b Q fun v G2 H2 s e => q v G2 H2 s (i v G2 (a.trans s.g) e)
theorem EvT.imp (h : EvT S n k tt σ G P) (i : ∀ b, P b → P' b) : EvT S n k tt σ G P' := fun G1 H1 a b Q q => h G1 H1 a b Q fun v G2 H2 s e => q v G2 H2 s (i v e)
theorem Stp.wk (st : Stab S) {m : Nat} {H G1 H1 : Hp} (s : Stp S n G H G1 H1) (h : n ≤ m) : Stp S m G H G1 H1 := ⟨s.g, s.k, st.wk s.s h, s.n⟩
theorem Ev.wk (st : Stab S) (h : Ev S n ka te σ G R) (hk : ka ≤ kb) : Ev S n kb te σ G R := fun G1 H1 a b Q q => h G1 H1 a b Q fun v G2 H2 s e => q v G2 H2 (s.wk st (by omega)) e
theorem ev_var {i : Nat} (h : σ[i]? = some (some x)) : Ev S n 0 (tVar i) σ G (IsV x) := fun G1 H1 _ s Q q => ⟨x, h, q x G1 H1 (Stp.refl s) rfl⟩
theorem ev_c : Ev S n 0 (tC x) σ G (IsV x) := fun G1 H1 _ s Q q => q x G1 H1 (Stp.refl s) rfl
theorem ev_op [Mon Ra] (ha : Ev S n ka ta σ G Ra) (hb : Ev S (n + ka) kb tb σ G Rb) (hr : ∀ x y G', Same G G' → Ra x G' → Rb y G' → RV S r x y G' R) : Ev S n (ka + kb) (tOp r ta tb) σ G R := fun G1 H1 a s Q q =>
  ha G1 H1 a s _ fun x G2 H2 s2 rx => hb G2 H2 (a.trans s2.g) s2.s _ fun y G3 H3 s3 ry =>
    hr x y G3 ((a.trans s2.g).trans s3.g) (Mon.mon s3.g rx) ry _ G3 H3 (Same.refl _) s3.s Q fun v G4 H4 s4 e => q v G4 H4 ((s2.trans s3).trans s4).up e
/-- both operands known -/
theorem ev_opV (ha : Ev S n ka ta σ G (IsV x)) (hb : Ev S (n + ka) kb tb σ G (IsV y)) (hr : RV S r x y G R) : Ev S n (ka + kb) (tOp r ta tb) σ G R :=
  ev_op ha hb fun u v G' s e1 e2 => by
    rw [show u = x from e1, show v = y from e2]
    exact fun n G1 H1 a s' Q q => hr n G1 H1 (s.trans a) s' Q q
theorem ev_un [Mon Ra] {r : V → Hp → VK → Prop} (ha : Ev S n ka ta σ G Ra) (hr : ∀ x G', Same G G' → Ra x G' → RU S r x G' R) : Ev S n ka (tUn r ta) σ G R := fun G1 H1 a s Q q =>
  ha G1 H1 a s _ fun x G2 H2 s2 rx => hr x G2 (a.trans s2.g) rx _ G2 H2 (Same.refl _) s2.s Q fun v G4 H4 s4 e => q v G4 H4 (s2.trans s4) e
theorem ev_unV {r : V → Hp → VK → Prop} (ha : Ev S n ka ta σ G (IsV x)) (hr : RU S r x G R) : Ev S n ka (tUn r ta) σ G R :=
  ev_un ha fun u G' s e => by
    rw [show u = x from e]
    exact fun n G1 H1 a s' Q q => hr n G1 H1 (s.trans a) s' Q q
/-! tests -/
theorem et_test (h : Ev S n k te σ G (IsB P)) : EvT S n k (tTest te) σ G P := fun G1 H1 a s Q q => h G1 H1 a s _ fun v G2 H2 s2 ⟨b, p, e⟩ => ⟨b, e, q b G2 H2 s2 p⟩
theorem et_testV {b : Bool} (h : Ev S n k te σ G (IsV (.bl b))) : EvT S n k (tTest te) σ G (fun c => c = b) := fun G1 H1 a s Q q => h G1 H1 a s _ fun v G2 H2 s2 e => ⟨b, e, q b G2 H2 s2 rfl⟩
theorem et_B {b : Bool} (h : Ev S n k te σ G (IsV (.bl b))) : EvT S n k (tB te) σ G (fun c => c = b) := fun G1 H1 a s Q q => h G1 H1 a s _ fun v G2 H2 s2 e => ⟨b, e, q b G2 H2 s2 rfl⟩
theorem et_Bp (h : Ev S n k te σ G (IsB P)) : EvT S n k (tB te) σ G P := fun G1 H1 a s Q q => h G1 H1 a s _ fun v G2 H2 s2 ⟨b, p, e⟩ => ⟨b, e, q b G2 H2 s2 p⟩
theorem et_and (st : Stab S) {a b : Bool} (h1 : EvT S n ka tt σ G (fun c => c = a)) (h2 : a = true → EvT S (n + ka) kb tu σ G (fun c => c = b)) : EvT S n (ka + kb) (tAnd tt tu) σ G (fun c => c = (a && b)) := fun G1 H1 s0 s Q q =>
  h1 G1 H1 s0 s _ fun c G2 H2 s2 e => by
    subst e
    cases c with
    | true => exact iteT (h2 rfl G2 H2 (s0.trans s2.g) s2.s Q fun d G3 H3 s3 e => q d G3 H3 (s2.trans s3).up e)
    | false => exact iteF (q false G2 H2 (s2.wk st (by omega)) rfl)
theorem et_or (st : Stab S) {a b : Bool} (h1 : EvT S n ka tt σ G (fun c => c = a)) (h2 : a = false → EvT S (n + ka) kb tu σ G (fun c => c = b)) : EvT S n (ka + kb) (tOr tt tu) σ G (fun c => c = (a || b)) := fun G1 H1 s0 s Q q =>
  h1 G1 H1 s0 s _ fun c G2 H2 s2 e => by
    subst e
    cases c with
    | false => exact iteF (h2 rfl G2 H2 (s0.trans s2.g) s2.s Q fun d G3 H3 s3 e => q d G3 H3 (s2.trans s3).up e)
    | true => exact iteT (q true G2 H2 (s2.wk st (by omega)) rfl)
theorem et_not {a : Bool} (h : EvT S n ka tt σ G (fun c => c = a)) : EvT S n ka (tNot tt) σ G (fun c => c = !a) := fun G1 H1 s0 s Q q => h G1 H1 s0 s _ fun c G2 H2 s2 e => q (!c) G2 H2 s2 (by rw [show c = a from e])
theorem ev_andV (st : Stab S) {a b : Bool} (h1 : Ev S n ka ta σ G (IsV (.bl a))) (h2 : a = true → Ev S (n + ka) kb tb σ G (IsV (.bl b))) : Ev S n (ka + kb) (tAndV ta tb) σ G (IsV (.bl (a && b))) := fun G1 H1 s0 s Q q =>
  h1 G1 H1 s0 s _ fun c G2 H2 s2 e => ⟨a, e, by
    cases a with
    | true => exact iteT (h2 rfl G2 H2 (s0.trans s2.g) s2.s Q fun d G3 H3 s3 e => q d G3 H3 (s2.trans s3).up e)
    | false => exact iteF (q _ G2 H2 (s2.wk st (by omega)) rfl)⟩
theorem ev_orV (st : Stab S) {a b : Bool} (h1 : Ev S n ka ta σ G (IsV (.bl a))) (h2 : a = false → Ev S (n + ka) kb tb σ G (IsV (.bl b))) : Ev S n (ka + kb) (tOrV ta tb) σ G (IsV (.bl (a || b))) := fun G1 H1 s0 s Q q =>
  h1 G1 H1 s0 s _ fun c G2 H2 s2 e => ⟨a, e, by
    cases a with
    | false => exact iteF (h2 rfl G2 H2 (s0.trans s2.g) s2.s Q fun d G3 H3 s3 e => q d G3 H3 (s2.trans s3).up e)
    | true => exact iteT (q _ G2 H2 (s2.wk st (by omega)) rfl)⟩
theorem ev_notV {a : Bool} (h : Ev S n ka ta σ G (IsV (.bl a))) : Ev S n ka (tNotV ta) σ G (IsV (.bl (!a))) := fun G1 H1 s0 s Q q => h G1 H1 s0 s _ fun c G2 H2 s2 e => ⟨a, e, q _ G2 H2 s2 rfl⟩
theorem ev_if (st : Stab S) {c : Bool} (h : EvT S n kc tt σ G (fun b => b = c)) (h1 : c = true → Ev S (n + kc) ka ta σ G R) (h2 : c = false → Ev S (n + kc) kb tb σ G R) : Ev S n (kc + (ka + kb)) (tIf tt ta tb) σ G R := fun G1 H1 s0 s Q q =>
  h G1 H1 s0 s _ fun b G2 H2 s2 e => by
    subst e
    cases b with
    | true => exact iteT (h1 rfl G2 H2 (s0.trans s2.g) s2.s Q fun v G3 H3 s3 e => q v G3 H3 ((s2.trans s3).wk st (by omega)) e)
    | false => exact iteF (h2 rfl G2 H2 (s0.trans s2.g) s2.s Q fun v G3 H3 s3 e => q v G3 H3 ((s2.trans s3).wk st (by omega)) e)
/-! arguments, displays -/
theorem ea_nil : EvA S n 0 tNil σ G RNil := fun G1 H1 _ s Q q => q [] G1 H1 (Stp.refl s) rfl
theorem ea_cons [Mon R] (h : Ev S n ka te σ G R) (hr : EvA S (n + ka) kb tr σ G RA) : EvA S n (ka + kb) (tCons te tr) σ G (RCons R RA) := fun G1 H1 s0 s Q q =>
  h G1 H1 s0 s _ fun v G2 H2 s2 e => hr G2 H2 (s0.trans s2.g) s2.s _ fun vs G3 H3 s3 e' => q (v :: vs) G3 H3 (s2.trans s3).up ⟨v, vs, rfl, Mon.mon s3.g e, e'⟩
theorem ea_nilV : EvA S n 0 tNil σ G (IsVs []) := ea_nil
theorem ea_consV {vs : List V} (h : Ev S n ka te σ G (IsV x)) (hr : EvA S (n + ka) kb tr σ G (IsVs vs)) : EvA S n (ka + kb) (tCons te tr) σ G (IsVs (x :: vs)) := fun G1 H1 s0 s Q q =>
  h G1 H1 s0 s _ fun v G2 H2 s2 e => hr G2 H2 (s0.trans s2.g) s2.s _ fun ws G3 H3 s3 e' => q (v :: ws) G3 H3 (s2.trans s3).up (by rw [show v = x from e, show ws = vs from e']; rfl)
theorem ev_lst (st : Stab S) {K : PySem.W.Frag} (h : EvA S n k t σ G RA) [Mons RA] (hl : ∀ vs G', RA vs G' → vs.length ≤ 100000) : Ev S n k (tLst t) σ G (IsLA K RA) := fun G1 H1 s0 s Q q =>
  h G1 H1 s0 s _ fun vs G2 H2 s2 e => ⟨Nat.le_trans (hl vs G2 e) (by decide), fun p hp => by
    have g := st.new (o := .lst vs) s2.s hp
    exact q (.ref p) _ _ (s2.trans g) ⟨p, vs, rfl, SqL.of upd_same, Mons.mon g.g e⟩⟩
theorem ev_tup (st : Stab S) {K : PySem.W.Frag} (h : EvA S n k t σ G RA) [Mons RA] (hl : ∀ vs G', RA vs G' → vs.length ≤ 100000) : Ev S n k (tTup t) σ G (IsTA K RA) := fun G1 H1 s0 s Q q =>
  h G1 H1 s0 s _ fun vs G2 H2 s2 e => ⟨Nat.le_trans (hl vs G2 e) (by decide), fun p hp => by
    have g := st.new (o := .tup vs) s2.s hp
    exact q (.ref p) _ _ (s2.trans g) ⟨p, vs, rfl, SqT.of upd_same, Mons.mon g.g e⟩⟩
theorem ev_cb {r : List V → Hp → VK → Prop} (h : EvA S n k t σ G RA) (hr : ∀ vs G', Same G G' → RA vs G' → RC S r vs G' R) : Ev S n k (tCB r t) σ G R := fun G1 H1 s0 s Q q =>
  h G1 H1 s0 s _ fun vs G2 H2 s2 e => hr vs G2 (s0.trans s2.g) e _ G2 H2 (Same.refl _) s2.s Q fun v G3 H3 s3 e' => q v G3 H3 (s2.trans s3) e'
theorem ev_cbV {r : List V → Hp → VK → Prop} {ws : List V} (h : EvA S n k t σ G (IsVs ws)) (hr : RC S r ws G R) : Ev S n k (tCB r t) σ G R :=
  ev_cb h fun vs G' s e => by
    rw [show vs = ws from e]
    exact fun n G1 H1 a s' Q q => hr n G1 H1 (s.trans a) s' Q q
/-! fields -/
theorem ev_fld (st : Stab S) {K : PySem.W.Frag} {a C dx : Addr} {fs : List (Str × V)} {f : Str} (h : Ev S n k te σ G (IsV (.ref a))) (ho : G a = some (.ins C dx fs)) (hc : Cls K C) (hn : NoAttr K C f) (hl : fs.lookup f = some x) : Ev S n k (tFld K te f) σ G (IsV x) := fun G1 H1 s0 s Q q =>
  h G1 H1 s0 s _ fun v G2 H2 s2 e => ⟨a, C, dx, fs, x, e, st.sub s2.s _ _ (s2.g _ _ (s0 _ _ ho)), hc, hn, hl, q x G2 H2 s2 rfl⟩
/-! promises -/
/-- a def that changes nothing that stood: P arguments, what stands still, the result -/
def spP (P : List V → Hp → HR → Prop) : Sp := fun vs H Q _ => ∃ G R, Same G H ∧ P vs G R ∧ ∀ v G' H', Grow G H G' H' → R v G' → Q v H'
theorem ev_call (st : Stab S) {P : List V → Hp → HR → Prop} {dvs : List V} {E : XK} (h : EvA S n k t σ G RA) (hp : ∀ vs G', Same G G' → RA vs G' → P (vs ++ dvs) G' R) : Ev S n k (tCall (spP P) dvs E t) σ G R := fun G1 H1 s0 s Q q =>
  h G1 H1 s0 s _ fun vs G2 H2 s2 e => ⟨G2, R, st.sub s2.s, hp vs G2 (s0.trans s2.g) e, fun v G' H' g r => q v G' H' (s2.trans (st.gro s2.s g)) r⟩
theorem ev_callV (st : Stab S) {P : List V → Hp → HR → Prop} {dvs ws : List V} {E : XK} (h : EvA S n k t σ G (IsVs ws)) (hp : ∀ G', Same G G' → P (ws ++ dvs) G' R) : Ev S n k (tCall (spP P) dvs E t) σ G R :=
  ev_call st h fun vs G' s e => by
    rw [show vs = ws from e]
    exact hp G' s
theorem ev_meth (st : Stab S) {P : List V → Hp → HR → Prop} {dvs : List V} {E : XK} {C a dx : Addr} {m : Str} {fs : List (Str × V)} (ho : Ev S n ka te σ G (IsV (.ref a))) (hi : G a = some (.ins C dx fs)) (hl : fs.lookup m = none) (h : EvA S (n + ka) kb t σ G RA)
    (hp : ∀ vs G', Same G G' → RA vs G' → P (.ref a :: (vs ++ dvs)) G' R) : Ev S n (ka + kb) (tMeth C m (spP P) dvs E te t) σ G R := fun G1 H1 s0 s Q q =>
  ho G1 H1 s0 s _ fun v G2 H2 s2 e => ⟨a, dx, fs, e, st.sub s2.s _ _ (s2.g _ _ (s0 _ _ hi)), hl, h G2 H2 (s0.trans s2.g) s2.s _ fun vs G3 H3 s3 e' =>
    ⟨G3, R, st.sub s3.s, by rw [show v = .ref a from e]; exact hp vs G3 ((s0.trans s2.g).trans s3.g) e', fun v G' H' g r => q v G' H' ((s2.trans s3).trans (st.gro s3.s g)).up r⟩⟩
end
/-! ### operations -/
section
variable {K : PySem.W.Frag} {G : Hp} {R : HR} {x y : V} {r r' : R2} {i j : Int} {s z : Str}
theorem rv_val {v : V} (h : ∀ H, Same G H → ∀ Q : VK, Q v H → r x y H Q) (st : Stab S) : RV S r x y G (IsV v) := fun n G1 H1 s0 s Q q => h H1 (s0.trans (st.sub s)) Q (q v G1 H1 (Stp.refl s) rfl)
theorem rv_l (h : RV S r x y G R) : RV S (fun x y H Q => r x y H Q ∨ r' x y H Q) x y G R := fun n G1 H1 s0 s Q q => .inl (h n G1 H1 s0 s Q q)
theorem rv_r (h : RV S r' x y G R) : RV S (fun x y H Q => r x y H Q ∨ r' x y H Q) x y G R := fun n G1 H1 s0 s Q q => .inr (h n G1 H1 s0 s Q q)
theorem rv_I0 (st : Stab S) {g : Int → Int → V} : RV S (rI0 g) (.int i) (.int j) G (IsV (g i j)) := rv_val (fun H _ Q q => ⟨i, j, rfl, rfl, q⟩) st
theorem rv_I (st : Stab S) {C : Int → Int → Prop} {g : Int → Int → V} (hc : C i j) : RV S (rI C g) (.int i) (.int j) G (IsV (g i j)) := rv_val (fun H _ Q q => ⟨i, j, rfl, rfl, hc, q⟩) st
theorem rv_eq (st : Stab S) (h : scal x y = true) : RV S rEq x y G (IsV (.bl (decide (x = y)))) := rv_val (fun H _ Q q => ⟨h, q⟩) st
theorem rv_ne (st : Stab S) (h : scal x y = true) : RV S rNe x y G (IsV (.bl (!decide (x = y)))) := rv_val (fun H _ Q q => ⟨h, q⟩) st
theorem ru_I (st : Stab S) {g : Int → V} : RU S (rU g) (.int i) G (IsV (g i)) := fun n G1 H1 s0 s Q q => ⟨i, rfl, q _ G1 H1 (Stp.refl s) rfl⟩
theorem rv_ixL (st : Stab S) {p : Addr} {xs : List V} {v : V} (h : SqL K G p xs) (ha : atI xs i = some v) : RV S (rIxL K) (.ref p) (.int i) G (IsV v) := rv_val (fun H s Q q => ⟨p, xs, i, v, rfl, rfl, s.seq h, ha, q⟩) st
theorem rv_ixT (st : Stab S) {p : Addr} {xs : List V} {v : V} (h : SqT K G p xs) (ha : atI xs i = some v) : RV S (rIxT K) (.ref p) (.int i) G (IsV v) := rv_val (fun H s Q q => ⟨p, xs, i, v, rfl, rfl, same_t s h, ha, q⟩) st
end
/-! ### statements -/
section
variable {k n : Nat} {te : TE} {tt : TT} {ts t1 t2 u : TS} {σ : L2.St} {G H : Hp} {R : HR} {P : Bool → Prop} {x : V} {nx bk ct : L2.St → Hp → Prop} {rt : VK} {i : Nat}
theorem q_end (h : nx σ H) : tNext (Ends.mk nx rt bk ct) σ H := h
theorem q_ret (s : S n G H) (e : Ev S n k te σ G R) (h : ∀ v G' H', Stp S (n + k) G H G' H' → R v G' → rt v H') : tSeq (tRet te) u (Ends.mk nx rt bk ct) σ H := e G H (Same.refl _) s _ h
theorem q_retV (st : Stab S) (s : S n G H) (e : Ev S n k te σ G (IsV x)) (h : ∀ H', Kp S H H' → S (n + k) G H' → rt x H') : tSeq (tRet te) u (Ends.mk nx rt bk ct) σ H := q_ret s e fun v G' H' s1 e => by
  rw [show v = x from e]
  exact h H' s1.k (st.anti s s1.s s1.g)
theorem q_set (s : S n G H) (e : Ev S n k te σ G R) (h : ∀ v G' H', Stp S (n + k) G H G' H' → R v G' → u (Ends.mk nx rt bk ct) (σ.set i (some v)) H') : tSeq (tAsg te (gName i)) u (Ends.mk nx rt bk ct) σ H := e G H (Same.refl _) s _ h
theorem q_setV (st : Stab S) (s : S n G H) (e : Ev S n k te σ G (IsV x)) (h : ∀ H', Kp S H H' → S (n + k) G H' → u (Ends.mk nx rt bk ct) (σ.set i (some x)) H') : tSeq (tAsg te (gName i)) u (Ends.mk nx rt bk ct) σ H := q_set s e fun v G' H' s1 e => by
  rw [show v = x from e]
  exact h H' s1.k (st.anti s s1.s s1.g)
theorem q_setI (st : Stab S) (s : S n G H) {P : Int → Prop} (e : Ev S n k te σ G (IsI P)) (h : ∀ j H', P j → Kp S H H' → S (n + k) G H' → u (Ends.mk nx rt bk ct) (σ.set i (some (.int j))) H') : tSeq (tAsg te (gName i)) u (Ends.mk nx rt bk ct) σ H := q_set s e fun v G' H' s1 ⟨j, p, e⟩ => by
  rw [e]
  exact h j H' p s1.k (st.anti s s1.s s1.g)
theorem q_if (st : Stab S) (s : S n G H) (e : EvT S n k tt σ G P) (h1 : ∀ H', P true → Kp S H H' → S (n + k) G H' → t1 (Ends.mk (u (Ends.mk nx rt bk ct)) rt bk ct) σ H') (h2 : ∀ H', P false → Kp S H H' → S (n + k) G H' → t2 (Ends.mk (u (Ends.mk nx rt bk ct)) rt bk ct) σ H') :
    tSeq (tIfS tt t1 t2) u (Ends.mk nx rt bk ct) σ H := e G H (Same.refl _) s _ fun b G' H' s1 p => by
  cases b with
  | true => exact iteT (h1 H' p s1.k (st.anti s s1.s s1.g))
  | false => exact iteF (h2 H' p s1.k (st.anti s s1.s s1.g))
end
end L2.DS
/-! Callees by one fact each; operators of several kinds by one rule each. -/
namespace L2.DS
open PySem PySem.Spec PyProof.Rows
/-- a def of the top, by its name -/
def Callee (P : Program) (w : World) (K : PySem.W.Frag) (mg : Str → Option Value) (base : Heap) (x : Str) (CX : CXT) (k : Nat) (ps : List Str) (dvs : List V) (sp : Sp) : Prop :=
  ∃ (f : Addr) (fd : FuncData) (ds : List Value), mg x = some (.ref f) ∧ PySem.W.keepIn K (.ref f) = true ∧ FnOk P w K mg base CX k f fd ps sp ∧ Binds K fd ps ds ∧ Vals dvs ds
/-- a method m of the class at C -/
def Method (P : Program) (w : World) (K : PySem.W.Frag) (mg : Str → Option Value) (base : Heap) (C : Addr) (m : Str) (CX : CXT) (k : Nat) (ps : List Str) (dvs : List V) (sp : Sp) : Prop :=
  ∃ (f : Addr) (fd : FuncData) (ds : List Value), Cls K C ∧ Meth K C m f ∧ FnOk P w K mg base CX k f fd ps sp ∧ Binds K fd ps ds ∧ Vals dvs ds
/-- a class of the top with an own __init__, made by its name -/
def Maker (P : Program) (w : World) (K : PySem.W.Frag) (mg : Str → Option Value) (base : Heap) (x : Str) (C : Addr) (CX : CXT) (k : Nat) (ps : List Str) (dvs : List V) (sp : Sp) : Prop :=
  ∃ (f : Addr) (fd : FuncData) (ds : List Value), mg x = some (.ref C) ∧ Mk K C f ∧ FnOk P w K mg base CX k f fd ps sp ∧ Binds K fd ps ds ∧ Vals dvs ds
section
variable {X : Cx} {CX : CXT} {k : Nat} {ps : List Str} {dvs : List V} {sp : Sp} {E : XK} {x m : Str} {C : Addr} {e o : Expr} {es : List Expr} {t : TA} {ta : TE} {p pos apos : Pos}
theorem pe_callC (c : Callee X.prog X.w X.K X.mg X.base x CX k ps dvs sp) (hr : Room k X.A) (hx : Passes CX X E) (ha : PA X (e :: es) t) (hg : Gl X x := by rfl) (hdb : (x == ("__debug__" : Str)) = false := by decide)
    (he : starEach (e :: es) X.env = (false, eval e X.env) :: starEach es X.env := by rfl) (hpl : (backTo pos (starEach es X.env)).any (·.1) = false := by rfl) : PE X (.Call (.Name x p) (e :: es) [] pos) (tCall sp dvs E t) := by
  obtain ⟨f, fd, ds, h1, h2, h3, h4, h5⟩ := c
  exact pe_call h3 hr hg h1 h2 h4 h5 hx ha hdb he hpl
theorem pe_callC0 (c : Callee X.prog X.w X.K X.mg X.base x CX k ps dvs sp) (hr : Room k X.A) (hx : Passes CX X E) (hg : Gl X x := by rfl) (hdb : (x == ("__debug__" : Str)) = false := by decide) : PE X (.Call (.Name x p) [] [] pos) (tCall sp dvs E tNil) := by
  obtain ⟨f, fd, ds, h1, h2, h3, h4, h5⟩ := c
  exact pe_call0 h3 hr hg h1 h2 h4 h5 hx hdb
theorem pe_methC {pl : Sem Bool} (c : Method X.prog X.w X.K X.mg X.base C m CX k ps dvs sp) (hr : Room k X.A) (hx : Passes CX X E) (ho : PE X o ta) (ha : PA X (e :: es) t)
    (hst : starEach (e :: es) X.env = (false, eval e X.env) :: starEach es X.env := by rfl) (hpl : (backTo pos (starEach es X.env)).any (·.1) = false := by rfl)
    (ht : eval (.Call (.Attribute o m apos) (e :: es) [] pos) X.env = (do
      let ov ← eval o X.env
      standAt apos.atName
      let (f, first) ← holding [ov] (getMethod ov m pl)
      callWith pos f first (backTo pos (starEach (e :: es) X.env)) (backToKw pos (keywordEach [] X.env))) := by rfl) :
    PE X (.Call (.Attribute o m apos) (e :: es) [] pos) (tMeth C m sp dvs E ta t) := by
  obtain ⟨f, fd, ds, h1, h2, h3, h4, h5⟩ := c
  exact pe_meth ho h1 h2 h3 hr h4 h5 hx ha hst hpl ht
theorem pe_methC0 {pl : Sem Bool} (c : Method X.prog X.w X.K X.mg X.base C m CX k ps dvs sp) (hr : Room k X.A) (hx : Passes CX X E) (ho : PE X o ta)
    (ht : eval (.Call (.Attribute o m apos) [] [] pos) X.env = (do
      let ov ← eval o X.env
      standAt apos.atName
      let (f, first) ← holding [ov] (getMethod ov m pl)
      callWith pos f first (backTo pos (starEach [] X.env)) (backToKw pos (keywordEach [] X.env))) := by rfl) :
    PE X (.Call (.Attribute o m apos) [] [] pos) (tMeth C m sp dvs E ta tNil) := by
  obtain ⟨f, fd, ds, h1, h2, h3, h4, h5⟩ := c
  exact pe_meth0 ho h1 h2 h3 hr h4 h5 hx ht
theorem pe_makeC (c : Maker X.prog X.w X.K X.mg X.base x C CX k ps dvs sp) (hr : Room (k + 1) X.A) (hx : Passes CX X E) (ha : PA X (e :: es) t) (hg : Gl X x := by rfl) (hdb : (x == ("__debug__" : Str)) = false := by decide)
    (he : starEach (e :: es) X.env = (false, eval e X.env) :: starEach es X.env := by rfl) (hpl : (backTo pos (starEach es X.env)).any (·.1) = false := by rfl) : PE X (.Call (.Name x p) (e :: es) [] pos) (tMake C sp dvs E t) := by
  obtain ⟨f, fd, ds, h1, h2, h3, h4, h5⟩ := c
  exact pe_make h2 h3 hr hg h1 h4 h5 hx ha hdb he hpl
end
/-! ### operators of several kinds -/
def rAddS : R2 := fun x y H Q => ∃ i j, x = .str i ∧ y = .str j ∧ i.length + j.length ≤ sizeLine ∧ Q (.str (i ++ j)) H
def rMul : R2 := fun x y H Q => rI CMul (fun i j => .int (i * j)) x y H Q ∨ rI CMulW (fun i j => .int (i * j)) x y H Q
def rDiv : R2 := fun x y H Q => rI CDiv (fun i j => .int (i / j)) x y H Q ∨ rI CDivW (fun i j => .int (i / j)) x y H Q
def rMod : R2 := rI (fun _ j => 0 < j) fun i j => .int (i % j)
def rAdd2 : R2 := fun x y H Q => rI0 (fun i j => .int (i + j)) x y H Q ∨ rAddS x y H Q
def rAddA : R2 := fun x y H Q => rAdd2 x y H Q ∨ rCat x y H Q
def rSubI : R2 := rI0 fun i j => .int (i - j)
def rLtI : R2 := rI0 fun i j => .bl (decide (i < j))
def rLeI : R2 := rI0 fun i j => .bl (decide (i ≤ j))
def rGtI : R2 := rI0 fun i j => .bl (decide (j < i))
def rGeI : R2 := rI0 fun i j => .bl (decide (j ≤ i))
def rEqA (K : PySem.W.Frag) : R2 := fun x y H Q => rEq x y H Q ∨ rEqD K x y H Q
def rNeA (K : PySem.W.Frag) : R2 := fun x y H Q => rNe x y H Q ∨ rNeD K x y H Q
def rDGet : R2 := fun x y H Q => ∃ a v, x = .ref a ∧ DGet H a y (some v) ∧ Q v H
def rDIn (neg : Bool) : R2 := fun y x H Q => ∃ a o, x = .ref a ∧ DGet H a y o ∧ Q (.bl (if neg then !o.isSome else o.isSome)) H
def rInA (K : PySem.W.Frag) (neg : Bool) : R2 := fun x y H Q => rIn K neg x y H Q ∨ rDIn neg x y H Q
def rIxA (K : PySem.W.Frag) : R2 := fun x y H Q => rIx K x y H Q ∨ rDGet x y H Q
def rSetD : TSet := fun o i v H Q => ∃ a H', o = .ref a ∧ DPut H a i v H' ∧ Q H'
def rSetA : TSet := fun o i v H Q => rSetL o i v H Q ∨ rSetD o i v H Q
section
variable {X : Cx}
theorem op_addA : OpR X (binaryOp .Add) rAddA := OpR.or (OpR.or op_add op_add_str) op_cat
theorem op_mulA : OpR X (binaryOp .Mult) rMul := OpR.or op_mul op_mulW
theorem op_divA : OpR X (binaryOp .FloorDiv) rDiv := OpR.or op_fdiv op_fdivW
theorem op_modA : OpR X (binaryOp .Mod) rMod := op_mod
theorem op_subA : OpR X (binaryOp .Sub) rSubI := op_sub
theorem op_ltA : OpR X (compareOp .Lt) rLtI := op_lt
theorem op_leA : OpR X (compareOp .LtE) rLeI := op_le
theorem op_gtA : OpR X (compareOp .Gt) rGtI := op_gt
theorem op_geA : OpR X (compareOp .GtE) rGeI := op_ge
theorem op_eqA (K : PySem.W.Frag) (hu : X.A.units + 64 < cLine) (hK : X.K = K := by rfl) : OpR X (compareOp .Eq) (rEqA K) := by
  subst hK
  exact OpR.or op_eq (op_eqD hu)
theorem op_neA (K : PySem.W.Frag) (hu : X.A.units + 64 < cLine) (hK : X.K = K := by rfl) : OpR X (compareOp .NotEq) (rNeA K) := by
  subst hK
  exact OpR.or op_ne (op_neD hu)
theorem op_inDict (hu : X.A.units + 1 < cLine) : OpR X (compareOp .In) (rDIn false) := fun pins s σ H x y v u Q I rx ry q => by
  obtain ⟨a, o, rfl, g, q⟩ := q
  obtain rfl : u = Value.ref a := ry
  exact d_in hu I g rx fun s3 I3 => ⟨.bl o.isSome, H, I3, rfl, q⟩
theorem op_ninDict (hu : X.A.units + 1 < cLine) : OpR X (compareOp .NotIn) (rDIn true) := fun pins s σ H x y v u Q I rx ry q => by
  obtain ⟨a, o, rfl, g, q⟩ := q
  obtain rfl : u = Value.ref a := ry
  exact d_notIn hu I g rx fun s3 I3 => ⟨.bl (!o.isSome), H, I3, rfl, q⟩
theorem op_inA (K : PySem.W.Frag) (hu : X.A.units + 1 < cLine) (hK : X.K = K := by rfl) : OpR X (compareOp .In) (rInA K false) := by
  subst hK
  exact OpR.or op_in_seq (op_inDict hu)
theorem op_ninA (K : PySem.W.Frag) (hu : X.A.units + 1 < cLine) (hK : X.K = K := by rfl) : OpR X (compareOp .NotIn) (rInA K true) := by
  subst hK
  exact OpR.or op_notIn_seq (op_ninDict hu)
theorem set_dict (hu : X.A.units + 1 < cLine) : PSet X rSetD := fun pins s σ H o i v ov iv u Q I ro ri rv q => by
  obtain ⟨a, H', rfl, g, q⟩ := q
  obtain rfl : ov = Value.ref a := ro
  exact d_setItem hu I g ri rv fun s4 I4 => ⟨H', I4, q⟩
theorem set_any (hu : X.A.units + 1 < cLine) : PSet X rSetA := fun pins s σ H o i v ov iv u Q I ro ri rv q => by
  rcases q with q | q
  · exact set_list pins s σ H o i v ov iv u Q I ro ri rv q
  · exact set_dict hu pins s σ H o i v ov iv u Q I ro ri rv q
theorem ix_dict (hu : X.A.units + 1 < cLine) : IxR X rDGet := fun value slice pins s σ H x y v u Q I rx ry h hs => by
  obtain ⟨a, z, rfl, g, q⟩ := h
  obtain rfl : v = Value.ref a := rx
  exact tail_any (dict_typeIs I g) PySem.F.slot_dict_getitem.lookup (d_getItem hu I g ry fun w' s3 I3 rw' => ⟨z, H, I3, rw', q⟩) hs
theorem ix_any (K : PySem.W.Frag) (hu : X.A.units + 1 < cLine) (hK : X.K = K := by rfl) : IxR X (rIxA K) := by
  subst hK
  exact IxR.or ix_seq (ix_dict hu)
end
/-! ### calls of built-ins of several kinds -/
section
variable {X : Cx}
theorem CallR.or {f : Value} {r r' : List V → Hp → VK → Prop} (h : CallR X f r) (h' : CallR X f r') : CallR X f (fun xs H Q => r xs H Q ∨ r' xs H Q) := fun pins s σ H xs us Q I rv q => by
  rcases q with q | q
  · exact h pins s σ H xs us Q I rv q
  · exact h' pins s σ H xs us Q I rv q
def rLenQ (K : PySem.W.Frag) : List V → Hp → VK → Prop := fun xs H Q => ∃ p ys, xs = [.ref p] ∧ (SqL K H p ys ∨ SqT K H p ys) ∧ Q (.int ys.length) H
def rLenS : List V → Hp → VK → Prop := fun xs H Q => ∃ z : Str, xs = [.str z] ∧ z.length ≤ sizeLine ∧ Q (.int z.length) H
def rLenD : List V → Hp → VK → Prop := fun xs H Q => ∃ a kvs, xs = [V.ref a] ∧ H a = some (.dK kvs) ∧ Q (.int kvs.length) H
def rLen2 : List V → Hp → VK → Prop := fun xs H Q => rLenS xs H Q ∨ rLenD xs H Q
def rLenA (K : PySem.W.Frag) : List V → Hp → VK → Prop := fun xs H Q => rLenQ K xs H Q ∨ rLen2 xs H Q
theorem call_lenA (K : PySem.W.Frag) (hK : X.K = K := by rfl) : CallR X (.builtin "len") (rLenA K) := by
  subst hK
  exact CallR.or call_len_seq (CallR.or call_len_str call_lenD)
def rAbs : List V → Hp → VK → Prop := fun xs H Q => ∃ i, xs = [.int i] ∧ Q (.int (if i < 0 then -i else i)) H
theorem call_absA : CallR X (.builtin "abs") rAbs := call_abs
def rInt1 : List V → Hp → VK → Prop := fun xs H Q => ∃ i, xs = [.int i] ∧ Q (.int i) H
def rInt2 : List V → Hp → VK → Prop := fun xs H Q => ∃ k, xs = [.bl k] ∧ Q (.int (if k then 1 else 0)) H
def rIntA : List V → Hp → VK → Prop := fun xs H Q => rInt1 xs H Q ∨ rInt2 xs H Q
theorem call_intA : CallR X (.type "int") rIntA := call_int1
def rStrI : List V → Hp → VK → Prop := fun xs H Q => ∃ i : Int, xs = [.int i] ∧ i.natAbs.log2 < 1920 ∧ Q (.str (toString i)) H
theorem call_strA : CallR X (.type "str") rStrI := call_str_int
def rListQ (K : PySem.W.Frag) : List V → Hp → VK → Prop := fun xs H Q => ∃ p ys, xs = [.ref p] ∧ (SqL K H p ys ∨ SqT K H p ys) ∧ ∀ l, H l = none → Q (.ref l) (upd H l (.lst ys))
theorem call_listA (K : PySem.W.Frag) (hK : X.K = K := by rfl) : CallR X (.type "list") (rListQ K) := by
  subst hK
  exact call_list_of
def rTupQ (K : PySem.W.Frag) : List V → Hp → VK → Prop := fun xs H Q => ∃ p ys, xs = [.ref p] ∧ ((SqL K H p ys ∧ ∀ l, H l = none → Q (.ref l) (upd H l (.tup ys))) ∨ (SqT K H p ys ∧ Q (.ref p) H))
theorem call_tupleA (K : PySem.W.Frag) (hK : X.K = K := by rfl) : CallR X (.type "tuple") (rTupQ K) := by
  subst hK
  exact call_tuple_of
theorem call_isiA (K : PySem.W.Frag) (hK : X.K = K := by rfl) : CallR X (.builtin "isinstance") (rIsi K) := by
  subst hK
  exact call_isi
theorem call_sumA (K : PySem.W.Frag) (hc : X.calm = true := by rfl) (hK : X.K = K := by rfl) : CallR X (.builtin "sum") (rSum K) := by
  subst hK
  exact cr_sum hc
theorem call_anyA (K : PySem.W.Frag) (hc : X.calm = true := by rfl) (hK : X.K = K := by rfl) : CallR X (.builtin "any") (rAny K) := by
  subst hK
  exact cr_any hc
theorem call_allA (K : PySem.W.Frag) (hc : X.calm = true := by rfl) (hK : X.K = K := by rfl) : CallR X (.builtin "all") (rAll K) := by
  subst hK
  exact cr_all hc
end
/-! ### the written part told by its name -/
section
variable {X : Cx} {tg e o : Expr} {te ta : TE} {f : Str} {pos : Pos}
theorem pe_fldK (K : PySem.W.Frag) (he : PE X e te) (hb : attributeBase e f X.env (eval e X.env) = eval e X.env := by rfl) (hK : X.K = K := by rfl) : PE X (.Attribute e f pos) (tFld K te f) := by
  subst hK
  exact pe_fld he hb
theorem pi_listK (K : PySem.W.Frag) (hl : PE X e te) (hK : X.K = K := by rfl) : PI X tg e (iList K te) := by
  subst hK
  exact pi_list hl
theorem pi_tupK (K : PySem.W.Frag) (hl : PE X e te) (hK : X.K = K := by rfl) : PI X tg e (iTup K te) := by
  subst hK
  exact pi_tup hl
theorem sl_listK (K : PySem.W.Frag) (hK : X.K = K := by rfl) : SlR X (rSlL K) := by
  subst hK
  exact sl_list
end
end L2.DS
/-! What the operators of several kinds give. -/
namespace L2.DS
open PySem PySem.Spec PyProof.Rows
section
variable {S : SR} {n k ka kb kc : Nat} {te ta tb : TE} {tt : TT} {t : TA} {σ : L2.St} {K : PySem.W.Frag} {G : Hp} {R : HR} {x y z : V} {i j : Int} {s u : Str} {b c : Bool} {p : Addr} {xs ys : List V}
theorem ev_ifV (st : Stab S) (h : EvT S n kc tt σ G (fun b => b = c)) (h1 : c = true → Ev S (n + kc) ka ta σ G (IsV x)) (h2 : c = false → Ev S (n + kc) kb tb σ G (IsV y)) : Ev S n (kc + (ka + kb)) (tIf tt ta tb) σ G (IsV (if c then x else y)) :=
  ev_if st h (fun e => by rw [e]; exact h1 e) (fun e => by rw [e]; exact h2 e)
theorem v_add (st : Stab S) : RV S rAddA (.int i) (.int j) G (IsV (.int (i + j))) := rv_l (rv_l (rv_I0 st))
theorem v_adds (st : Stab S) (h : s.length + u.length ≤ sizeLine) : RV S rAddA (.str s) (.str u) G (IsV (.str (s ++ u))) := rv_l (rv_r (rv_val (fun H _ Q q => ⟨s, u, rfl, rfl, h, q⟩) st))
theorem v_sub (st : Stab S) : RV S rSubI (.int i) (.int j) G (IsV (.int (i - j))) := rv_I0 st
theorem v_mul (st : Stab S) (h : CMul i j) : RV S rMul (.int i) (.int j) G (IsV (.int (i * j))) := rv_l (rv_I st h)
theorem v_mulW (st : Stab S) (h : CMulW i j) : RV S rMul (.int i) (.int j) G (IsV (.int (i * j))) := rv_r (rv_I st h)
theorem v_div (st : Stab S) (h : CDiv i j) : RV S rDiv (.int i) (.int j) G (IsV (.int (i / j))) := rv_l (rv_I st h)
theorem v_divW (st : Stab S) (h : CDivW i j) : RV S rDiv (.int i) (.int j) G (IsV (.int (i / j))) := rv_r (rv_I st h)
theorem v_mod (st : Stab S) (h : 0 < j) : RV S rMod (.int i) (.int j) G (IsV (.int (i % j))) := rv_I st h
theorem v_pow (st : Stab S) (h : CPow i j) : RV S (rI CPow fun i j => .int (i ^ j.toNat)) (.int i) (.int j) G (IsV (.int (i ^ j.toNat))) := rv_I st h
theorem v_lt (st : Stab S) : RV S rLtI (.int i) (.int j) G (IsV (.bl (decide (i < j)))) := rv_I0 st
theorem v_le (st : Stab S) : RV S rLeI (.int i) (.int j) G (IsV (.bl (decide (i ≤ j)))) := rv_I0 st
theorem v_gt (st : Stab S) : RV S rGtI (.int i) (.int j) G (IsV (.bl (decide (j < i)))) := rv_I0 st
theorem v_ge (st : Stab S) : RV S rGeI (.int i) (.int j) G (IsV (.bl (decide (j ≤ i)))) := rv_I0 st
theorem v_eq (st : Stab S) (h : scal x y = true) : RV S (rEqA K) x y G (IsV (.bl (decide (x = y)))) := rv_l (rv_eq st h)
theorem v_ne (st : Stab S) (h : scal x y = true) : RV S (rNeA K) x y G (IsV (.bl (!decide (x = y)))) := rv_l (rv_ne st h)
theorem v_eqI (st : Stab S) : RV S (rEqA K) (.int i) (.int j) G (IsV (.bl (decide (i = j)))) := by
  have e : decide (V.int i = V.int j) = decide (i = j) := by simp
  rw [← e]
  exact v_eq st rfl
theorem v_neI (st : Stab S) : RV S (rNeA K) (.int i) (.int j) G (IsV (.bl (!decide (i = j)))) := by
  have e : decide (V.int i = V.int j) = decide (i = j) := by simp
  rw [← e]
  exact v_ne st rfl
theorem v_eqB (st : Stab S) : RV S (rEqA K) (.bl b) (.bl c) G (IsV (.bl (decide (b = c)))) := by
  have e : decide (V.bl b = V.bl c) = decide (b = c) := by simp
  rw [← e]
  exact v_eq st rfl
theorem v_eqS (st : Stab S) : RV S (rEqA K) (.str s) (.str u) G (IsV (.bl (decide (s = u)))) := by
  have e : decide (V.str s = V.str u) = decide (s = u) := by simp
  rw [← e]
  exact v_eq st rfl
theorem v_neS (st : Stab S) : RV S (rNeA K) (.str s) (.str u) G (IsV (.bl (!decide (s = u)))) := by
  have e : decide (V.str s = V.str u) = decide (s = u) := by simp
  rw [← e]
  exact v_ne st rfl
theorem v_isN (st : Stab S) : RV S (fun x y H Q => y = .non ∧ Q (.bl (decide (x = .non))) H) x .non G (IsV (.bl (decide (x = .non)))) := rv_val (fun H _ Q q => ⟨rfl, q⟩) st
theorem v_notN (st : Stab S) : RV S (fun x y H Q => y = .non ∧ Q (.bl (!decide (x = .non))) H) x .non G (IsV (.bl (!decide (x = .non)))) := rv_val (fun H _ Q q => ⟨rfl, q⟩) st
theorem v_ixL (st : Stab S) (h : SqL K G p xs) (ha : atI xs i = some x) : RV S (rIxA K) (.ref p) (.int i) G (IsV x) := rv_l (rv_l (rv_ixL st h ha))
theorem v_ixT (st : Stab S) (h : SqT K G p xs) (ha : atI xs i = some x) : RV S (rIxA K) (.ref p) (.int i) G (IsV x) := rv_l (rv_r (rv_l (rv_ixT st h ha)))
theorem v_inL (st : Stab S) {neg : Bool} (h : SqL K G p xs) (hx : flatV x = true) (ha : xs.all flatV = true) : RV S (rInA K neg) x (.ref p) G (IsV (.bl (if neg then !inV x xs else inV x xs))) := rv_l (rv_val (fun H s Q q => ⟨p, xs, rfl, .inl (s.seq h), hx, ha, q⟩) st)
theorem v_inT (st : Stab S) {neg : Bool} (h : SqT K G p xs) (hx : flatV x = true) (ha : xs.all flatV = true) : RV S (rInA K neg) x (.ref p) G (IsV (.bl (if neg then !inV x xs else inV x xs))) := rv_l (rv_val (fun H s Q q => ⟨p, xs, rfl, .inr (same_t s h), hx, ha, q⟩) st)
theorem u_neg (st : Stab S) : RU S (rU fun i => .int (-i)) (.int i) G (IsV (.int (-i))) := ru_I st
theorem rc_val {r : List V → Hp → VK → Prop} {vs : List V} (h : ∀ H, Same G H → ∀ Q : VK, Q x H → r vs H Q) (st : Stab S) : RC S r vs G (IsV x) := fun n G1 H1 s0 s Q q => h H1 (s0.trans (st.sub s)) Q (q x G1 H1 (Stp.refl s) rfl)
theorem c_lenL (st : Stab S) (h : SqL K G p xs) : RC S (rLenA K) [.ref p] G (IsV (.int xs.length)) := rc_val (fun H s Q q => .inl ⟨p, xs, rfl, .inl (s.seq h), q⟩) st
theorem c_lenT (st : Stab S) (h : SqT K G p xs) : RC S (rLenA K) [.ref p] G (IsV (.int xs.length)) := rc_val (fun H s Q q => .inl ⟨p, xs, rfl, .inr (same_t s h), q⟩) st
theorem c_lenS (st : Stab S) (h : s.length ≤ sizeLine) : RC S (rLenA K) [.str s] G (IsV (.int s.length)) := rc_val (fun H _ Q q => .inr (.inl ⟨s, rfl, h, q⟩)) st
theorem c_abs (st : Stab S) : RC S rAbs [.int i] G (IsV (.int (if i < 0 then -i else i))) := rc_val (fun H _ Q q => ⟨i, rfl, q⟩) st
theorem c_int (st : Stab S) : RC S rIntA [.int i] G (IsV (.int i)) := rc_val (fun H _ Q q => .inl ⟨i, rfl, q⟩) st
theorem c_intB (st : Stab S) : RC S rIntA [.bl b] G (IsV (.int (if b then 1 else 0))) := rc_val (fun H _ Q q => .inr ⟨b, rfl, q⟩) st
theorem c_str (st : Stab S) (h : i.natAbs.log2 < 1920) : RC S rStrI [.int i] G (IsV (.str (toString i))) := rc_val (fun H _ Q q => ⟨i, rfl, h, q⟩) st
end
end L2.DS
/-! Loops and comprehensions. -/
namespace L2.DS
open PySem PySem.Spec PyProof.Rows
/-- a list of m things, the i-th as R i tells -/
def IsLR (K : PySem.W.Frag) (m : Nat) (R : Nat → HR) : HR := fun v G => ∃ p ys, v = .ref p ∧ SqL K G p ys ∧ ys.length = m ∧ ∀ i y, ys[i]? = some y → R i y G
instance (K m) (R : Nat → HR) [∀ i, Mon (R i)] : Mon (IsLR K m R) := ⟨fun s ⟨p, ys, e, h, l, r⟩ => ⟨p, ys, e, s.seq h, l, fun i y z => Mon.mon s (r i y z)⟩⟩
/-- .. newly made: it stood not in F -/
def IsLN (F : Hp) (m : Nat) (R : Nat → HR) : HR := fun v G => ∃ p ys, v = .ref p ∧ F p = none ∧ G p = some (.lst ys) ∧ ys.length = m ∧ ∀ i y, ys[i]? = some y → R i y G
instance (F m) (R : Nat → HR) [∀ i, Mon (R i)] : Mon (IsLN F m R) := ⟨fun s ⟨p, ys, e, f, h, l, r⟩ => ⟨p, ys, e, f, s _ _ h, l, fun i y z => Mon.mon s (r i y z)⟩⟩
theorem IsLN.lr {F : Hp} {K : PySem.W.Frag} {m : Nat} {R : Nat → HR} {v : V} {G : Hp} (h : IsLN F m R v G) : IsLR K m R v G := by
  obtain ⟨p, ys, e, _, h, l, r⟩ := h
  exact ⟨p, ys, e, SqL.of h, l, r⟩
theorem IsLN.wk {F F' : Hp} {m : Nat} {R : Nat → HR} {v : V} {G : Hp} (h : IsLN F m R v G) (s : Same F' F) : IsLN F' m R v G := by
  obtain ⟨p, ys, e, f, r⟩ := h
  exact ⟨p, ys, e, s.free f, r⟩
theorem isLR_V {K : PySem.W.Frag} {m : Nat} {f : Nat → V} {v : V} {G : Hp} (h : IsLR K m (fun i => IsV (f i)) v G) : IsL K ((List.range m).map f) v G := by
  obtain ⟨p, ys, e, h, l, r⟩ := h
  refine ⟨p, e, ?_⟩
  have z : ys = (List.range m).map f := by
    refine List.ext_getElem? fun i => ?_
    rw [List.getElem?_map]
    by_cases hi : i < m
    · rw [List.getElem?_range hi]
      have q : ys[i]? = some ys[i] := List.getElem?_eq_getElem (by omega)
      rw [q, show ys[i] = f i from r i _ q]
      rfl
    · rw [List.getElem?_eq_none (by omega), List.getElem?_eq_none (by rw [List.length_range]; omega)]
      rfl
  rw [← z]
  exact h
section
variable {S : SR} {n k c1 : Nat} {te el : TE} {tb u : TS} {σ : L2.St} {G H : Hp} {nx bk ct : L2.St → Hp → Prop} {rt : VK} {i : Nat} {K : PySem.W.Frag} {p : Addr} {xs : List V} {vs : List Nat}
/-- for x in xs -/
theorem q_forL (st : Stab S) (s : S n G H) (e : Ev S n k te σ G (IsV (.ref p))) (hq : SqL K G p xs) (c : Nat → Nat) (P : Nat → L2.St → Hp → Hp → Prop) (hc : c 0 = 0) (h0 : ∀ H', Kp S H H' → S (n + k) G H' → P 0 σ G H')
    (hs : ∀ j x σ' G' H', xs[j]? = some x → Same G G' → S (n + k + c j) G' H' → P j σ' G' H' →
      tb (Ends.mk (fun τ J => ∃ G2, Same G G2 ∧ S (n + k + c (j + 1)) G2 J ∧ P (j + 1) τ G2 J) rt (u (Ends.mk nx rt bk ct)) (fun τ J => ∃ G2, Same G G2 ∧ S (n + k + c (j + 1)) G2 J ∧ P (j + 1) τ G2 J)) (σ'.set i (some x)) H')
    (hd : ∀ σ' G' H', Same G G' → S (n + k + c xs.length) G' H' → P xs.length σ' G' H' → u (Ends.mk nx rt bk ct) σ' H') : tSeq (tFor (iList K te) (gName i) tb) u (Ends.mk nx rt bk ct) σ H := by
  refine e G H (Same.refl _) s _ fun v G1 H1 s1 ev => ?_
  have hs2 := st.anti s s1.s s1.g
  refine ⟨p, ev, ⟨xs, Same.seq (st.sub hs2) hq⟩, for_list (K := K) (a := p) (xs := xs) (fun j τ J => ∃ G2, Same G G2 ∧ S (n + k + c j) G2 J ∧ P j τ G2 J) ⟨G, Same.refl _, by rw [hc]; exact hs2, h0 H1 s1.k hs2⟩ (fun j τ J _ ⟨G2, a, b, _⟩ => (a.trans (st.sub b)).seq hq) (fun j x τ J hx ⟨G2, a, b, d⟩ => ?_) fun τ J ⟨G2, a, b, d⟩ => hd τ G2 J a b d⟩
  exact hs j x τ G2 J hx a b d
/-- for x in range(m) -/
theorem q_forR {m : Int} {ta : TA} (st : Stab S) (s : S n G H) (e : EvA S n k ta σ G (IsVs [.int m])) (c : Nat → Nat) (P : Nat → L2.St → Hp → Hp → Prop) (hc : c 0 = 0) (h1 : -(2 ^ 62) ≤ m) (h2 : m < 2 ^ 62) (h0 : ∀ H', Kp S H H' → S (n + k) G H' → P 0 σ G H')
    (hs : ∀ (j : Nat) σ' G' H', (j : Int) < m → Same G G' → S (n + k + c j) G' H' → P j σ' G' H' →
      tb (Ends.mk (fun τ J => ∃ G2, Same G G2 ∧ S (n + k + c (j + 1)) G2 J ∧ P (j + 1) τ G2 J) rt (u (Ends.mk nx rt bk ct)) (fun τ J => ∃ G2, Same G G2 ∧ S (n + k + c (j + 1)) G2 J ∧ P (j + 1) τ G2 J)) (σ'.set i (some (.int j))) H')
    (hd : ∀ σ' G' H', Same G G' → S (n + k + c m.toNat) G' H' → P m.toNat σ' G' H' → u (Ends.mk nx rt bk ct) σ' H') : tSeq (tFor (iRng1 ta) (gName i) tb) u (Ends.mk nx rt bk ct) σ H := by
  refine e G H (Same.refl _) s _ fun v G1 H1 s1 ev => ?_
  have hs2 := st.anti s s1.s s1.g
  refine ⟨m, ev, h1, h2, for_range (lo := 0) (n := m.toNat) (fun j τ J => ∃ G2, Same G G2 ∧ S (n + k + c j) G2 J ∧ P j τ G2 J) ⟨G, Same.refl _, by rw [hc]; exact hs2, h0 H1 s1.k hs2⟩ (fun j τ J hx ⟨G2, a, b, d⟩ => ?_) fun τ J ⟨G2, a, b, d⟩ => hd τ G2 J a b d⟩
  show tb _ (τ.set i (some (.int (0 + j)))) J
  rw [Int.zero_add]
  exact hs j τ G2 J (by omega) a b d
/-! ### comprehensions -/
/-- what holds while the list at D grows -/
def LcP (S : SR) (G2 H2 : Hp) (n c1 : Nat) (R : Nat → HR) (D : Addr) (j : Nat) (J : Hp) : Prop := ∃ G3 acc, Stp S (n + c1 * j) G2 H2 G3 J ∧ G3 D = none ∧ J D = some (.lst acc) ∧ acc.length = j ∧ ∀ j y, acc[j]? = some y → R j y G3
theorem lc_start (st : Stab S) {R : Nat → HR} {G2 H2 : Hp} {D : Addr} (a : S n G2 H2) (hD : H2 D = none) : LcP S G2 H2 n c1 R D 0 (upd H2 D (.lst [])) := by
  have gD : G2 D = none := (st.sub a).free hD
  have s1 : Same H2 (upd H2 D (.lst [])) := fun b o e => by
    rw [upd_ne (ne_of_none e hD)]
    exact e
  exact ⟨G2, [], ⟨Same.refl _, Kp.of s1, st.chg a hD a gD, fun _ _ h => .inl h⟩, gD, upd_same, rfl, fun j y z => by simp at z⟩
theorem lc_end (st : Stab S) {R : Nat → HR} [∀ i, Mon (R i)] {G1 H1 G2 H2 H : Hp} {D : Addr} {m : Nat} {Q : VK} (a : Stp S n G1 H1 G2 H2) (hD : H2 D = none) (h : LcP S G2 H2 n c1 R D m H)
    (q : ∀ v G' H', Stp S (n + c1 * m) G1 H1 G' H' → IsLN G1 m R v G' → Q v H') : Q (.ref D) H := by
  obtain ⟨G3, acc, s3, c, d, l, r⟩ := h
  have t := a.trans s3
  have g4 : Same G3 (upd G3 D (.lst acc)) := fun y o z => by
    rw [upd_ne (ne_of_none z c)]
    exact z
  refine q (.ref D) _ H ⟨t.g.trans g4, t.k, st.pub a.s hD s3.s c d, fun b o e => ?_⟩ ⟨D, acc, rfl, t.g.free c, upd_same, l, fun j y z => Mon.mon g4 (r j y z)⟩
  by_cases hb : b = D
  · rw [hb]
    exact .inr (a.k.v D hD)
  · rw [upd_ne hb] at e
    exact t.n b o e
theorem lc_turn (st : Stab S) {R : Nat → HR} [∀ i, Mon (R i)] {G2 H2 J : Hp} {D : Addr} {j : Nat} {el : TE} {τ : L2.St} {Nx : Hp → Prop} (a : S n G2 H2) (hD : H2 D = none) (h : LcP S G2 H2 n c1 R D j J) (hj : j < 100000)
    (hs : ∀ G', Same G2 G' → Ev S (n + c1 * j) c1 el τ G' (R j)) (hN : ∀ J', LcP S G2 H2 n c1 R D (j + 1) J' → Nx J') :
    tYes τ J fun b H3 => if b = true then el τ H3 fun y H4 => ∃ acc, H4 D = some (.lst acc) ∧ acc.length < sizeLine ∧ Nx (upd H4 D (.lst (acc ++ [y]))) else Nx H3 := by
  obtain ⟨G3, acc, s3, c, d, l, r⟩ := h
  show if true = true then el τ J (fun y H4 => ∃ acc, H4 D = some (.lst acc) ∧ acc.length < sizeLine ∧ Nx (upd H4 D (.lst (acc ++ [y])))) else Nx J
  rw [if_pos rfl]
  refine hs G3 s3.g G3 J (Same.refl _) s3.s _ fun y G4 J4 s4 ry => ?_
  have d4 : J4 D = some (.lst acc) := s4.k.k D _ (st.fre a hD) d
  have c4 : G4 D = none := by
    cases e : G4 D with
    | none => rfl
    | some o =>
      rcases s4.n D o e with q | q
      · rw [c] at q
        cases q
      · rw [d] at q
        cases q
  have t := s3.trans s4
  refine ⟨acc, d4, Nat.lt_of_lt_of_le (show acc.length < 100000 by omega) (by decide), hN _ ⟨G4, acc ++ [y], ⟨t.g, ⟨fun b o hm e => ?_, fun b e => ?_⟩, ?_, t.n⟩, c4, upd_same, by rw [List.length_append, l]; rfl, fun i z hz => ?_⟩⟩
  · rw [upd_ne (ne_of_none e hD)]
    exact t.k.k b o hm e
  · by_cases hb : b = D
    · rw [hb]
      exact hD
    · rw [upd_ne hb] at e
      exact t.k.v b e
  · have z := st.chg (o := .lst (acc ++ [y])) a hD t.s c4
    rw [Nat.mul_succ, ← Nat.add_assoc]
    exact z
  · by_cases hi : i < acc.length
    · rw [List.getElem?_append_left hi] at hz
      exact Mon.mon s4.g (r i z hz)
    · rw [List.getElem?_append_right (by omega)] at hz
      by_cases h0 : i - acc.length = 0
      · rw [h0] at hz
        have e : y = z := Option.some.inj hz
        rw [← e, show i = j by omega]
        exact ry
      · rw [List.getElem?_eq_none (by show 1 ≤ i - acc.length; omega)] at hz
        cases hz
/-- [el for x in xs] -/
theorem ev_lcL (st : Stab S) (R : Nat → HR) [∀ i, Mon (R i)] (e : Ev S n k te σ G (IsV (.ref p))) (hq : SqL K G p xs) (hl : xs.length ≤ 100000)
    (hs : ∀ j x G', xs[j]? = some x → Same G G' → Ev S (n + k + c1 * j) c1 el ((wipe σ vs).set i (some x)) G' (R j)) (hw : ∀ x : V, wipe ((wipe σ vs).set i (some x)) vs = wipe σ vs) :
    Ev S n (k + c1 * xs.length) (tLc (iList K te) (gName i) tYes el vs) σ G (IsLN G xs.length R) := fun G1 H1 s0 s Q q =>
  e G1 H1 s0 s _ fun v G2 H2 s2 ev => ⟨p, ev, ⟨xs, Same.seq (s0.trans (s2.g.trans (st.sub s2.s))) hq⟩, fun D hD =>
    lc_list (K := K) (a := p) (xs := xs) (LcP S G2 H2 (n + k) c1 R D) (lc_start st s2.s hD) (fun j J _ ⟨G3, acc, a, _⟩ => ((s0.trans s2.g).trans (a.g.trans (st.sub a.s))).seq hq)
      (fun j x J hx h => ⟨hw x, lc_turn st s2.s hD h (by have := (List.getElem?_eq_some_iff.mp hx).1; omega) (fun G' g => hs j x G' hx ((s0.trans s2.g).trans g)) fun _ h => h⟩)
      fun J h => lc_end st s2 hD h fun v G' H' a b => q v G' H' (by rw [← Nat.add_assoc]; exact a) (b.wk s0)⟩
/-- [el for x in range(m)] -/
theorem ev_lcR {m : Int} {ta : TA} (st : Stab S) (R : Nat → HR) [∀ i, Mon (R i)] (e : EvA S n k ta σ G (IsVs [.int m])) (h1 : -(2 ^ 62) ≤ m) (hl : m ≤ 100000)
    (hs : ∀ (j : Nat) G', (j : Int) < m → Same G G' → Ev S (n + k + c1 * j) c1 el ((wipe σ vs).set i (some (.int j))) G' (R j)) (hw : ∀ x : V, wipe ((wipe σ vs).set i (some x)) vs = wipe σ vs) :
    Ev S n (k + c1 * m.toNat) (tLc (iRng1 ta) (gName i) tYes el vs) σ G (IsLN G m.toNat R) := fun G1 H1 s0 s Q q =>
  e G1 H1 s0 s _ fun v G2 H2 s2 ev => ⟨m, ev, h1, by omega, fun D hD =>
    lc_range (lo := 0) (n := m.toNat) (LcP S G2 H2 (n + k) c1 R D) (lc_start st s2.s hD)
      (fun j J hx h => by
        show wipe ((wipe σ vs).set i (some (.int (0 + j)))) vs = _ ∧ tYes ((wipe σ vs).set i (some (.int (0 + j)))) J _
        rw [Int.zero_add]
        exact ⟨hw _, lc_turn st s2.s hD h (by omega) (fun G' g => hs j G' (by omega) ((s0.trans s2.g).trans g)) fun _ h => h⟩)
      fun J h => lc_end st s2 hD h fun v G' H' a b => q v G' H' (by rw [← Nat.add_assoc]; exact a) (b.wk s0)⟩
end
end L2.DS
/-! The script's source: a dict with its list of cells; what a pick leaves. -/
namespace L2.DS
open PySem PySem.Spec PyProof.Rows
theorem tC_run {x : V} {σ : L2.St} {H : Hp} {Q : VK} (h : Q x H) : tC x σ H Q := h
theorem tVar_run {i : Nat} {x : V} {σ : L2.St} {H : Hp} {Q : VK} (e : σ[i]? = some (some x)) (h : Q x H) : tVar i σ H Q := ⟨x, e, h⟩
def srcK (cl : Addr) (l m t : Int) : List (Key × V) := [(.inr ("cells" : Str), .ref cl), (.inr ("left" : Str), .int l), (.inr ("mixed" : Str), .int m), (.inr ("turn" : Str), .int t)]
def srcD (cl : Addr) (l m t : Int) : HO := .dK (srcK cl l m t)
theorem ne_lc : ¬ (Sum.inr ("cells" : Str) : Key) = .inr ("left" : Str) := by decide +kernel
theorem ne_mc : ¬ (Sum.inr ("cells" : Str) : Key) = .inr ("mixed" : Str) := by decide +kernel
theorem ne_tc : ¬ (Sum.inr ("cells" : Str) : Key) = .inr ("turn" : Str) := by decide +kernel
theorem ne_ml : ¬ (Sum.inr ("left" : Str) : Key) = .inr ("mixed" : Str) := by decide +kernel
theorem ne_tl : ¬ (Sum.inr ("left" : Str) : Key) = .inr ("turn" : Str) := by decide +kernel
theorem ne_tm : ¬ (Sum.inr ("mixed" : Str) : Key) = .inr ("turn" : Str) := by decide +kernel
theorem src_c {cl : Addr} {l m t : Int} : valV (srcK cl l m t) (.inr ("cells" : Str)) = some (.ref cl) := valV_pos rfl
theorem src_l {cl : Addr} {l m t : Int} : valV (srcK cl l m t) (.inr ("left" : Str)) = some (.int l) := (valV_neg ne_lc).trans (valV_pos rfl)
theorem src_m {cl : Addr} {l m t : Int} : valV (srcK cl l m t) (.inr ("mixed" : Str)) = some (.int m) := (valV_neg ne_mc).trans ((valV_neg ne_ml).trans (valV_pos rfl))
theorem src_t {cl : Addr} {l m t : Int} : valV (srcK cl l m t) (.inr ("turn" : Str)) = some (.int t) := (valV_neg ne_tc).trans ((valV_neg ne_tl).trans ((valV_neg ne_tm).trans (valV_pos rfl)))
theorem put_l {cl : Addr} {l m t l' : Int} : putK (srcK cl l m t) (.inr ("left" : Str)) (.int l') = srcK cl l' m t := by
  unfold putK
  rw [if_pos (by rw [valV_any, src_l]; rfl)]
  unfold srcK
  simp only [List.map_cons, List.map_nil, if_neg ne_lc, if_neg (fun z => ne_ml (Eq.symm z)), if_neg (fun z => ne_tl (Eq.symm z)), if_true]
theorem put_t {cl : Addr} {l m t t' : Int} : putK (srcK cl l m t) (.inr ("turn" : Str)) (.int t') = srcK cl l m t' := by
  unfold putK
  rw [if_pos (by rw [valV_any, src_t]; rfl)]
  unfold srcK
  simp only [List.map_cons, List.map_nil, if_neg ne_tc, if_neg ne_tl, if_neg ne_tm, if_true]
theorem src_len {cl : Addr} {l m t : Int} : (srcK cl l m t).length < sizeLine := by rw [sizeLine_eq]; show 4 < _; decide
/-- the source stands in the heap, n picks behind it -/
def SrcAt (st cl : Addr) (n : Nat) (H : Hp) : Prop := ∃ (cs : List Int) (l m t : Int), H st = some (srcD cl l m t) ∧ H cl = some (.lst (cs.map V.int)) ∧ (∀ c ∈ cs, 0 ≤ c) ∧ 0 ≤ l ∧ 0 ≤ m ∧ m < 2147483629 ∧ 0 ≤ t ∧ t ≤ n
theorem SrcAt.same {st cl : Addr} {n m : Nat} {H H' : Hp} (h : SrcAt st cl n H) (s : Same H H') (hn : n ≤ m) : SrcAt st cl m H' := by
  obtain ⟨cs, l, x, t, a, b, c, d, e, f, g, i⟩ := h
  exact ⟨cs, l, x, t, s _ _ a, s _ _ b, c, d, e, f, g, by omega⟩
/-- what stands is G; the source may change -/
def Src (st cl : Addr) : SR := ⟨fun n G H => Same G H ∧ G st = none ∧ G cl = none ∧ SrcAt st cl n H, fun a => a = st ∨ a = cl⟩
theorem SrcAt.ne {st cl : Addr} {n : Nat} {H : Hp} {D : Addr} (h : SrcAt st cl n H) (d : H D = none) : st ≠ D ∧ cl ≠ D := by
  obtain ⟨cs, l, x, t, a, b, _⟩ := h
  exact ⟨ne_of_none a d, ne_of_none b d⟩
theorem none_upd {G : Hp} {a D : Addr} {o : HO} (h : G a = none) (n : a ≠ D) : upd G D o a = none := by rw [upd_ne n]; exact h
theorem srcAt_upd {st cl : Addr} {n : Nat} {H : Hp} {D : Addr} {o : HO} (h : SrcAt st cl n H) (n1 : st ≠ D) (n2 : cl ≠ D) : SrcAt st cl n (upd H D o) := by
  obtain ⟨cs, l, x, t, a, b, r⟩ := h
  exact ⟨cs, l, x, t, by rw [upd_ne n1]; exact a, by rw [upd_ne n2]; exact b, r⟩
theorem grow_none {G H G' H' : Hp} {a : Addr} (g : Grow G H G' H') (h : G a = none) {o : HO} (e : H a = some o) : G' a = none := by
  cases q : G' a with
  | none => rfl
  | some u =>
    rcases g.n a u q with z | z
    · rw [h] at z
      cases z
    · rw [e] at z
      cases z
theorem stabS (st cl : Addr) : Stab (Src st cl) where
  sub := fun h => h.1
  wk := fun h hn => ⟨h.1, h.2.1, h.2.2.1, h.2.2.2.same (Same.refl _) hn⟩
  grow := fun {n G H G' H'} h g => by
    obtain ⟨h1, h2, h3, h4⟩ := h
    obtain ⟨cs, l, x, t, a, b, r⟩ := id h4
    exact ⟨g.s, grow_none g h2 a, grow_none g h3 b, h4.same g.h (Nat.le_refl _)⟩
  anti := fun h h' s => ⟨s.trans h'.1, h.2.1, h.2.2.1, h'.2.2.2⟩
  chg := fun {n m G H G' H' D o} h d h' g => by
    obtain ⟨n1, n2⟩ := h.2.2.2.ne d
    exact ⟨fun b u e => by rw [upd_ne (ne_of_none e g)]; exact h'.1 b u e, h'.2.1, h'.2.2.1, srcAt_upd h'.2.2.2 n1 n2⟩
  pub := fun {n m G H G' H' D o} h d h' g e => by
    obtain ⟨n1, n2⟩ := h.2.2.2.ne d
    exact ⟨fun b u z => by
      by_cases hb : b = D
      · rw [hb, upd_same] at z
        rw [hb, ← z]
        exact e
      · rw [upd_ne hb] at z
        exact h'.1 b u z, none_upd h'.2.1 n1, none_upd h'.2.2.1 n2, h'.2.2.2⟩
  fre := fun h d z => by
    obtain ⟨n1, n2⟩ := h.2.2.2.ne d
    rcases z with rfl | rfl
    · exact n1 rfl
    · exact n2 rfl
/-- a def that draws of the source: P source arguments so-far picks what-stands result -/
def spS (P : Addr → List V → Nat → Nat → Hp → HR → Prop) : Sp := fun vs H Q _ => ∃ st cl n k G R, Src st cl n G H ∧ P st vs n k G R ∧ ∀ v G' H', Stp (Src st cl) (n + k) G H G' H' → R v G' → Q v H'
section
variable {st cl : Addr} {n k ka kb : Nat} {t : TA} {te : TE} {σ : L2.St} {G : Hp} {R : HR} {RA : HRs}
theorem ev_callS {P : Addr → List V → Nat → Nat → Hp → HR → Prop} {dvs : List V} {E : XK} (h : EvA (Src st cl) n ka t σ G RA) (hp : ∀ vs G', Same G G' → RA vs G' → P st (vs ++ dvs) (n + ka) kb G' R) : Ev (Src st cl) n (ka + kb) (tCall (spS P) dvs E t) σ G R := fun G1 H1 s0 s Q q =>
  h G1 H1 s0 s _ fun vs G2 H2 s2 e => ⟨st, cl, n + ka, kb, G2, R, s2.s, hp vs G2 (s0.trans s2.g) e, fun v G' H' g r => q v G' H' (s2.trans g).up r⟩
theorem ev_callSV {P : Addr → List V → Nat → Nat → Hp → HR → Prop} {dvs ws : List V} {E : XK} (h : EvA (Src st cl) n ka t σ G (IsVs ws)) (hp : ∀ G', Same G G' → P st (ws ++ dvs) (n + ka) kb G' R) : Ev (Src st cl) n (ka + kb) (tCall (spS P) dvs E t) σ G R :=
  ev_callS h fun vs G' s e => by
    rw [show vs = ws from e]
    exact hp G' s
end
/-- the n-th pick of many -/
def PPick : Addr → List V → Nat → Nat → Hp → HR → Prop := fun st vs n k _ R => ∃ many : Int, vs = [.ref st, .int many] ∧ many < 2 ^ 2000 ∧ (many > 10 ^ 7 → n < 2 ^ 60) ∧ k = 1 ∧ R = IsI fun r => 0 ≤ r ∧ (r < many ∨ (many < 2 ∧ r = 0))
def sp_pick : Sp := spS PPick
theorem ev_pick {st cl : Addr} {n ka : Nat} {t : TA} {σ : L2.St} {G : Hp} {many : Int} {E : XK} (h : EvA (Src st cl) n ka t σ G (IsVs [.ref st, .int many])) (h1 : 1 ≤ many) (h2 : many ≤ 10 ^ 7) : Ev (Src st cl) n (ka + 1) (tCall sp_pick [] E t) σ G (IsI fun r => 0 ≤ r ∧ r < many) :=
  ev_callSV h fun G' s => ⟨many, rfl, Int.lt_of_le_of_lt h2 (by decide +kernel), fun z => by omega, rfl, by
    have e : (fun r : Int => 0 ≤ r ∧ (r < many ∨ (many < 2 ∧ r = 0))) = fun r => 0 ≤ r ∧ r < many := by
      funext r
      exact propext ⟨fun ⟨a, b⟩ => ⟨a, by omega⟩, fun ⟨a, b⟩ => ⟨a, .inl b⟩⟩
    rw [e]⟩
/-- the source made of a list of whole numbers: what is new stands at st and cl -/
def sp_source (K : PySem.W.Frag) : Sp := fun vs H Q _ => ∃ (p : Addr) (ns : List Int), vs = [.ref p] ∧ SqL K H p (ns.map V.int) ∧ ns.length ≤ 100000 ∧ ∀ st cl H', Same H H' → H st = none → H cl = none → SrcAt st cl 0 H' → Q (.ref st) H'
/-! ### dicts by keys of text -/
section
variable {S : SR} {K : PySem.W.Frag} {G : Hp} {a : Addr} {kvs : List (Key × V)} {k : Key} {v : V}
theorem v_ixD (st : Stab S) (h : G a = some (.dK kvs)) (hv : valV kvs k = some v) : RV S (rIxA K) (.ref a) (kV k) G (IsV v) := rv_r (rv_val (fun H s Q q => ⟨a, v, rfl, by rw [← hv]; exact DGet.k (s _ _ h), q⟩) st)
theorem v_ixDs (st : Stab S) {x : Str} (h : G a = some (.dK kvs)) (hv : valV kvs (.inr x) = some v) : RV S (rIxA K) (.ref a) (.str x) G (IsV v) := v_ixD (k := .inr x) st h hv
end
/-- names that are built in -/
structure Bi (mg : Str → Option Value) : Prop where
  z_int : mg "int" = none
  z_abs : mg "abs" = none
  z_range : mg "range" = none
  z_len : mg "len" = none
  z_isinstance : mg "isinstance" = none
  z_bool : mg "bool" = none
  z_str : mg "str" = none
  z_list : mg "list" = none
  z_tuple : mg "tuple" = none
  z_dict : mg "dict" = none
  z_enumerate : mg "enumerate" = none
  z_zip : mg "zip" = none
  z_reversed : mg "reversed" = none
  z_ValueError : mg "ValueError" = none
  z_LookupError : mg "LookupError" = none
  z_KeyError : mg "KeyError" = none
  z_Exception : mg "Exception" = none
  z_super : mg "super" = none
  z_sum : mg "sum" = none
  z_any : mg "any" = none
  z_all : mg "all" = none
  z_sorted : mg "sorted" = none
  z_max : mg "max" = none
  z_min : mg "min" = none
  z_NotImplementedError : mg "NotImplementedError" = none
  z_set : mg "set" = none
  z_repr : mg "repr" = none
end L2.DS
/-! New lists that grow; isinstance of data; data that is alike. -/
namespace L2.DS
open PySem PySem.Spec PyProof.Rows
theorem kp_new {S : SR} {H0 H : Hp} {p : Addr} {o : HO} (k : Kp S H0 H) (h : H0 p = none) : Kp S H0 (upd H p o) := ⟨fun b u m e => by
  rw [upd_ne (ne_of_none e h)]
  exact k.k b u m e, fun b e => by
  by_cases hb : b = p
  · rw [hb]
    exact h
  · rw [upd_ne hb] at e
    exact k.v b e⟩
section
variable {S : SR} {n n0 k : Nat} {t : TA} {u : TS} {σ : L2.St} {G H G0 H0 : Hp} {nx bk ct : L2.St → Hp → Prop} {rt : VK} {i j : Nat} {K : PySem.W.Frag} {p : Addr} {vs xs : List V} {x : V}
/-- x = [..], a list that shall grow -/
theorem q_newL (st : Stab S) (s : S n G H) (e : EvA S n k t σ G (IsVs vs)) (hl : vs.length ≤ 100000) (h : ∀ p H', H p = none → G p = none → Kp S H H' → S (n + k) G H' → H' p = some (.lst vs) → u (Ends.mk nx rt bk ct) (σ.set i (some (.ref p))) H') :
    tSeq (tAsg (tLst t) (gName i)) u (Ends.mk nx rt bk ct) σ H := e G H (Same.refl _) s _ fun ws G1 H1 s1 ev => by
  obtain rfl : ws = vs := ev
  refine ⟨Nat.le_trans hl (by decide), fun p hp => ?_⟩
  have s2 := st.anti s s1.s s1.g
  have gp := (st.sub s2).free hp
  exact h p _ (s1.k.v p hp) gp (kp_new s1.k (s1.k.v p hp)) (st.chg s2 hp s2 gp) upd_same
/-- p.append(x), p new since H0 -/
theorem q_app (st : Stab S) (s0 : S n0 G0 H0) (hp0 : H0 p = none) (k0 : Kp S H0 H) (s : S n G H) (hG : G p = none) (hp : H p = some (.lst xs)) (hl : xs.length < 100000) (hv : σ[j]? = some (some (.ref p))) (e : EvA S n k t σ G (IsVs [x]))
    (h : ∀ H', Kp S H0 H' → S (n + k) G H' → H' p = some (.lst (xs ++ [x])) → u (Ends.mk nx rt bk ct) σ H') : tSeq (tDrop (tBM K "list" rAppend (tVar j) t)) u (Ends.mk nx rt bk ct) σ H := by
  refine ⟨_, hv, .inl ⟨rfl, _, SqL.of hp⟩, e G H (Same.refl _) s _ fun ws G1 H1 s1 ev => ?_⟩
  obtain rfl : ws = [x] := ev
  have hp1 := s1.k.k p _ (st.fre s0 hp0) hp
  exact ⟨p, xs, x, rfl, rfl, hp1, Nat.lt_of_lt_of_le hl (by decide), h _ (kp_new (k0.trans s1.k) hp0) (st.chg s0 hp0 (st.anti s s1.s s1.g) hG) upd_same⟩
theorem st_pub (st : Stab S) (s0 : S n0 G0 H0) (hp0 : H0 p = none) (s : S n G H) (hG : G p = none) {o : HO} (hp : H p = some o) : S n (upd G p o) H ∧ Same G (upd G p o) := ⟨st.pub s0 hp0 s hG hp, fun b u e => by
  rw [upd_ne (ne_of_none e hG)]
  exact e⟩
/-- a tuple, a list newly made -/
def IsNew (F : Hp) (o : HO) : HR := fun v G => ∃ p, v = .ref p ∧ F p = none ∧ G p = some o
instance (F o) : Mon (IsNew F o) := ⟨fun s ⟨p, e, f, h⟩ => ⟨p, e, f, s _ _ h⟩⟩
theorem ev_tupN (st : Stab S) (h : EvA S n k t σ G (IsVs vs)) (hl : vs.length ≤ 100000) : Ev S n k (tTup t) σ G (IsNew G (.tup vs)) := fun G1 H1 s0 s Q q =>
  h G1 H1 s0 s _ fun ws G2 H2 s2 e => by
    obtain rfl : ws = vs := e
    exact ⟨Nat.le_trans hl (by decide), fun p hp => q (.ref p) _ _ (s2.trans (st.new s2.s hp)) ⟨p, rfl, (s0.trans s2.g).free ((st.sub s2.s).free hp), upd_same⟩⟩
theorem ev_lstN (st : Stab S) (h : EvA S n k t σ G (IsVs vs)) (hl : vs.length ≤ 100000) : Ev S n k (tLst t) σ G (IsNew G (.lst vs)) := fun G1 H1 s0 s Q q =>
  h G1 H1 s0 s _ fun ws G2 H2 s2 e => by
    obtain rfl : ws = vs := e
    exact ⟨Nat.le_trans hl (by decide), fun p hp => q (.ref p) _ _ (s2.trans (st.new s2.s hp)) ⟨p, rfl, (s0.trans s2.g).free ((st.sub s2.s).free hp), upd_same⟩⟩
end
/-! ### isinstance of data -/
def tyS : PyData → String
  | .none => "NoneType" | .bool _ => "bool" | .int _ => "int" | .str _ => "str" | .list _ => "list" | .tuple _ => "tuple" | .dict _ => "dict"
theorem tyx_L {K : PySem.W.Frag} {G : Hp} {p : Addr} {xs : List V} (h : SqL K G p xs) : TyX K G (.ref p) (.type "list") := by
  rcases h with (h | ⟨o, h⟩) | ⟨o, its, n, h, c, _⟩
  · exact .base (.lst h)
  · exact .base (.frz h)
  · exact .kList h c
theorem tyx_T {K : PySem.W.Frag} {G : Hp} {p : Addr} {xs : List V} (h : SqT K G p xs) : TyX K G (.ref p) (.type "tuple") := by
  rcases h with (h | ⟨o, h⟩) | ⟨o, its, n, h, c, _⟩
  · exact .base (.tup h)
  · exact .fTuple h
  · exact .kTuple h c
theorem tyx_of {K : PySem.W.Frag} {G : Hp} : ∀ {v : V} {d : PyData}, Dp K G v d → TyX K G v (.type (tyS d))
  | _, _, .non => .base .non
  | _, _, .bl b => .base (.bl b)
  | _, _, .int i => .base (.int i)
  | _, _, .str s => .base (.str s)
  | _, _, .lst h _ => tyx_L h
  | _, _, .tup h _ => tyx_T h
theorem dp_nodict {K : PySem.W.Frag} {G : Hp} {v : V} {d : PyData} (h : Dp K G v d) : tyS d ∈ ["NoneType", "bool", "int", "str", "list", "tuple"] := by
  cases h <;> simp [tyS]
def isiB (T c : String) : Bool := (kitB T c).getD false
theorem kitB_all : ∀ T ∈ ["NoneType", "bool", "int", "str", "list", "tuple"], ∀ c ∈ ["bool", "str", "list", "tuple", "dict", "int"], kitB T c = some (isiB T c) := by decide +kernel
theorem kitB_d {K : PySem.W.Frag} {G : Hp} {v : V} {d : PyData} {c : String} (h : Dp K G v d) (hc : c ∈ ["bool", "str", "list", "tuple", "dict", "int"]) : kitB (tyS d) c = some (isiB (tyS d) c) := kitB_all _ (dp_nodict h) _ hc
theorem isi_dict {K : PySem.W.Frag} {G : Hp} {v : V} {d : PyData} (h : Dp K G v d) : isiB (tyS d) "dict" = false := by
  have e : ∀ T ∈ ["NoneType", "bool", "int", "str", "list", "tuple"], isiB T "dict" = false := by decide +kernel
  exact e _ (dp_nodict h)
theorem call_isiTA {X : Cx} (K : PySem.W.Frag) (hK : X.K = K := by rfl) : CallR X (.builtin "isinstance") (rIsiT K) := by
  subst hK
  exact call_isiT
section
variable {S : SR} {K : PySem.W.Frag} {G : Hp} {x : V} {d : PyData} {c : String}
theorem c_isiD (st : Stab S) (h : Dp K G x d) (hc : c ∈ ["bool", "str", "list", "tuple", "dict", "int"]) : RC S (rIsi K) [x, .ty c] G (IsV (.bl (isiB (tyS d) c))) :=
  rc_val (fun H s Q q => ⟨x, .ty c, .type (tyS d), .type c, _, rfl, .ty c, tyx_of (dp_mon s h), kit_ty (kitB_d h hc), q⟩) st
theorem c_isiLT (st : Stab S) {p : Addr} (h : Dp K G x d) (hp : G p = some (.tup [.ty "list", .ty "tuple"])) : RC S (rIsiT K) [x, .ref p] G (IsV (.bl (isiB (tyS d) "list" || isiB (tyS d) "tuple"))) :=
  rc_val (fun H s Q q => ⟨x, p, _, .type (tyS d), [.type "list", .type "tuple"], _, rfl, s _ _ hp, .cons (.ty _) (.cons (.ty _) .nil), tyx_of (dp_mon s h),
    kitAny_cons (b := isiB (tyS d) "list") (kit_ty (kitB_d h (by decide))) (fun z => by rw [z]; exact kitAny_cons (b := isiB (tyS d) "tuple") (kit_ty (kitB_d h (by decide))) (fun y => by rw [y]; rfl) (fun y => by rw [y]; rfl)) (fun z => by rw [z]; rfl), q⟩) st
/-- two values of the same scalar data are one value -/
theorem dp_scal (h : Dp K G x d) (hl : isiB (tyS d) "list" = false) (ht : isiB (tyS d) "tuple" = false) : (d = .none ∧ x = .non) ∨ (∃ b, d = .bool b ∧ x = .bl b) ∨ (∃ i, d = .int i ∧ x = .int i) ∨ ∃ s, d = .str s ∧ x = .str s := by
  cases h with
  | non => exact .inl ⟨rfl, rfl⟩
  | bl b => exact .inr (.inl ⟨b, rfl, rfl⟩)
  | int i => exact .inr (.inr (.inl ⟨i, rfl, rfl⟩))
  | str s => exact .inr (.inr (.inr ⟨s, rfl, rfl⟩))
  | lst h hs => exact absurd hl (show ¬ isiB "list" "list" = false by decide +kernel)
  | tup h hs => exact absurd ht (show ¬ isiB "tuple" "tuple" = false by decide +kernel)
theorem dpAll_len : ∀ {vs : List V} {ds : List PyData}, DpAll K G vs ds → vs.length = ds.length
  | _, _, .nil => rfl
  | _, _, .cons _ h => by rw [List.length_cons, List.length_cons, dpAll_len h]
theorem dpAll_get : ∀ {vs : List V} {ds : List PyData} {j : Nat} {d : PyData}, DpAll K G vs ds → ds[j]? = some d → ∃ v, vs[j]? = some v ∧ Dp K G v d
  | _, _, j, d, .nil, e => by simp at e
  | _, _, 0, d, .cons h _, e => by
    have e2 := Option.some.inj e
    subst e2
    exact ⟨_, rfl, h⟩
  | _, _, j + 1, d, .cons _ h, e => dpAll_get (j := j) h e
theorem depth_get : ∀ {ds : List PyData} {j : Nat} {d : PyData}, ds[j]? = some d → PyData.depth d ≤ PyData.depthAll ds
  | [], j, d, e => by simp at e
  | y :: ds, 0, d, e => by
    have e2 := Option.some.inj e
    subst e2
    unfold PyData.depthAll
    omega
  | y :: ds, j + 1, d, e => by
    have := depth_get (ds := ds) (j := j) e
    unfold PyData.depthAll
    omega
theorem atI_nat {xs : List V} {j : Nat} {v : V} (h : xs[j]? = some v) : atI xs (j : Int) = some v := by
  have hj := (List.getElem?_eq_some_iff.mp h).1
  have h1 : ixN xs.length ((j : Nat) : Int) = some j := by
    unfold ixN
    rw [if_pos (by omega), if_pos (by omega)]
    all_goals rfl
  unfold atI
  rw [h1]
  exact h
end
/-- a list or a tuple -/
def Sq (K : PySem.W.Frag) (G : Hp) (p : Addr) (xs : List V) : Prop := SqL K G p xs ∨ SqT K G p xs
theorem sq_mon {K : PySem.W.Frag} {G G' : Hp} {p : Addr} {xs : List V} (s : Same G G') (h : Sq K G p xs) : Sq K G' p xs := h.imp (fun h => s.seq h) (fun h => same_t s h)
section
variable {S : SR} {K : PySem.W.Frag} {G : Hp} {p : Addr} {xs : List V} {i : Int} {x : V} {d : PyData}
theorem c_lenQ (st : Stab S) (h : Sq K G p xs) : RC S (rLenA K) [.ref p] G (IsV (.int xs.length)) := h.elim (c_lenL st) (c_lenT st)
theorem v_ixQ (st : Stab S) (h : Sq K G p xs) (ha : atI xs i = some x) : RV S (rIxA K) (.ref p) (.int i) G (IsV x) := h.elim (fun h => v_ixL st h ha) (fun h => v_ixT st h ha)
theorem dp_seq (h : Dp K G x d) (hl : (isiB (tyS d) "list" || isiB (tyS d) "tuple") = true) : ∃ ds p xs, (d = .list ds ∨ d = .tuple ds) ∧ x = .ref p ∧ Sq K G p xs ∧ DpAll K G xs ds := by
  cases h with
  | non => exact absurd hl (by decide +kernel)
  | bl b => exact absurd hl (show ¬ (isiB "bool" "list" || isiB "bool" "tuple") = true by decide +kernel)
  | int i => exact absurd hl (show ¬ (isiB "int" "list" || isiB "int" "tuple") = true by decide +kernel)
  | str s => exact absurd hl (show ¬ (isiB "str" "list" || isiB "str" "tuple") = true by decide +kernel)
  | lst h hs => exact ⟨_, _, _, .inl rfl, rfl, .inl h, hs⟩
  | tup h hs => exact ⟨_, _, _, .inr rfl, rfl, .inr h, hs⟩
end
/-- no list or tuple in it is long -/
inductive Sml : PyData → Prop where
  | non : Sml .none
  | bl (b : Bool) : Sml (.bool b)
  | int (i : Int) : Sml (.int i)
  | str (s : Str) : Sml (.str s)
  | lst {ds : List PyData} (h : ds.length ≤ 100000) (a : ∀ d ∈ ds, Sml d) : Sml (.list ds)
  | tup {ds : List PyData} (h : ds.length ≤ 100000) (a : ∀ d ∈ ds, Sml d) : Sml (.tuple ds)
theorem Sml.len {d : PyData} {ds : List PyData} (h : Sml d) (e : d = .list ds ∨ d = .tuple ds) : ds.length ≤ 100000 ∧ ∀ x ∈ ds, Sml x := by
  rcases e with rfl | rfl
  · cases h with
    | lst h a => exact ⟨h, a⟩
  · cases h with
    | tup h a => exact ⟨h, a⟩
theorem depth_seq {d : PyData} {ds : List PyData} (e : d = .list ds ∨ d = .tuple ds) : PyData.depth d = PyData.depthAll ds + 1 := by
  rcases e with rfl | rfl <;> rfl
theorem inV_all {b : Bool} {ys : List V} (h : ∀ y ∈ ys, y = V.bl b) : inV (.bl (!b)) ys = false ∧ ys.all flatV = true := by
  refine ⟨?_, List.all_eq_true.mpr fun y hy => by rw [h y hy]; rfl⟩
  unfold inV
  rw [List.any_eq_false]
  intro y hy
  rw [h y hy]
  cases b <;> decide
/-- alike: both tell the same data of depth below n -/
def PLike (K : PySem.W.Frag) (n : Nat) : List V → Hp → HR → Prop := fun vs G R => ∃ x y d, vs = [x, y] ∧ PyData.depth d < n ∧ Sml d ∧ Dp K G x d ∧ Dp K G y d ∧ R = IsV (.bl true)
end L2.DS
/-! One object that is being made: all else stands. -/
namespace L2.DS
open PySem PySem.Spec PyProof.Rows
/-- all but x stays -/
def MX (x : Addr) : SR := ⟨fun _ _ _ => True, fun a => a = x⟩
/-- G stands, at x stands o; since the heap was H0, with G0 standing, all but x stayed -/
def Own (G0 H0 : Hp) (x : Addr) (o : HO) : SR := ⟨fun _ G H => Same G H ∧ G x = none ∧ H x = some o ∧ Kp (MX x) H0 H ∧ Same G0 G ∧ ∀ b u, G b = some u → G0 b = some u ∨ H0 b = none, fun _ => False⟩
theorem stabO (G0 H0 : Hp) (x : Addr) (o : HO) : Stab (Own G0 H0 x o) where
  sub := fun h => h.1
  wk := fun h _ => h
  grow := fun {n G H G' H'} h g => ⟨g.s, grow_none g h.2.1 h.2.2.1, g.h _ _ h.2.2.1, h.2.2.2.1.trans (Kp.of g.h), h.2.2.2.2.1.trans g.g, fun b u e => by
    rcases g.n b u e with z | z
    · exact h.2.2.2.2.2 b u z
    · exact .inr (h.2.2.2.1.v b z)⟩
  anti := fun h h' s => ⟨s.trans h'.1, h.2.1, h'.2.2.1, h'.2.2.2.1, h.2.2.2.2.1, h.2.2.2.2.2⟩
  chg := fun {n m G H G' H' D u} h d h' g => by
    have hx : x ≠ D := ne_of_none h.2.2.1 d
    refine ⟨fun b v e => by rw [upd_ne (ne_of_none e g)]; exact h'.1 b v e, h'.2.1, by rw [upd_ne hx]; exact h'.2.2.1, ⟨fun b v nb e => ?_, fun b e => ?_⟩, h'.2.2.2.2.1, h'.2.2.2.2.2⟩
    · rw [upd_ne (ne_of_none e (h.2.2.2.1.v D d))]
      exact h'.2.2.2.1.k b v nb e
    · by_cases hb : b = D
      · rw [hb]
        exact h.2.2.2.1.v D d
      · rw [upd_ne hb] at e
        exact h'.2.2.2.1.v b e
  pub := fun {n m G H G' H' D u} h d h' g e => by
    have hx : x ≠ D := ne_of_none h.2.2.1 d
    have hD0 := h.2.2.2.1.v D d
    refine ⟨fun b v z => ?_, none_upd h'.2.1 hx, h'.2.2.1, h'.2.2.2.1, fun b v z => ?_, fun b v z => ?_⟩
    · by_cases hb : b = D
      · rw [hb, upd_same] at z
        rw [hb, ← z]
        exact e
      · rw [upd_ne hb] at z
        exact h'.1 b v z
    · have := h'.2.2.2.2.1 b v z
      rw [upd_ne (ne_of_none this g)]
      exact this
    · by_cases hb : b = D
      · rw [hb]
        exact .inr hD0
      · rw [upd_ne hb] at z
        exact h'.2.2.2.2.2 b v z
  fre := fun _ _ z => z
theorem own_start {G H : Hp} {x : Addr} {o : HO} (s : Same G H) (g : G x = none) (h : H x = some o) (n : Nat) : Own G H x o n G H := ⟨s, g, h, Kp.refl H, Same.refl G, fun _ _ e => .inl e⟩
/-- the object changes -/
theorem own_upd {G0 H0 G H : Hp} {x : Addr} {o u : HO} {n m : Nat} (h : Own G0 H0 x o n G H) : Own G0 H0 x u m G (upd H x u) := ⟨fun b v e => by
  have hb : b ≠ x := fun z => by
    rw [z, h.2.1] at e
    cases e
  rw [upd_ne hb]
  exact h.1 b v e, h.2.1, upd_same, kp_upd' h.2.2.2.1, h.2.2.2.2.1, h.2.2.2.2.2⟩
where
  kp_upd' {H0 H : Hp} {x : Addr} {u : HO} (k : Kp (MX x) H0 H) : Kp (MX x) H0 (upd H x u) := ⟨fun b v nb e => by
    rw [upd_ne nb]
    exact k.k b v nb e, fun b e => by
    by_cases hb : b = x
    · rw [hb, upd_same] at e
      cases e
    · rw [upd_ne hb] at e
      exact k.v b e⟩
/-- what stands, without x -/
def del (G : Hp) (x : Addr) : Hp := fun b => if b = x then none else G b
theorem del_ne {G : Hp} {x b : Addr} (h : b ≠ x) : del G x b = G b := if_neg h
theorem del_x {G : Hp} {x : Addr} : del G x x = none := if_pos rfl
/-- nothing is known but what stands -/
def All : SR := ⟨fun _ G H => Same G H, fun _ => False⟩
theorem stabA : Stab All where
  sub := fun h => h
  wk := fun h _ => h
  grow := fun h g => g.s
  anti := fun h h' s => Same.trans s h'
  chg := fun {n m G H G' H' D o} h d h' g b u e => by
    rw [upd_ne (ne_of_none e g)]
    exact h' b u e
  pub := fun {n m G H G' H' D o} h d h' g e b u z => by
    by_cases hb : b = D
    · rw [hb, upd_same] at z
      rw [hb, ← z]
      exact e
    · rw [upd_ne hb] at z
      exact h' b u z
  fre := fun _ _ z => z
/-- the object as it stands now is looked at -/
theorem ev_look {G0 H0 : Hp} {x : Addr} {o : HO} {n k : Nat} {te : TE} {σ : L2.St} {G : Hp} {R R' : HR} (h : ∀ G1, Same G G1 → G1 x = none → Ev All n k te σ (upd G1 x o) R) (hR : ∀ v G2, R v G2 → G2 x = some o → R' v (del G2 x)) : Ev (Own G0 H0 x o) n k te σ G R' := by
  intro G1 H1 s0 s Q q
  obtain ⟨s1, s2, s3, s4, s5, s6⟩ := s
  have a : Same (upd G1 x o) H1 := fun b u e => by
    by_cases hb : b = x
    · rw [hb, upd_same] at e
      rw [hb, ← e]
      exact s3
    · rw [upd_ne hb] at e
      exact s1 b u e
  refine h G1 s0 s2 (upd G1 x o) H1 (Same.refl _) a Q fun v G2 H2 t r => ?_
  have g2 : G2 x = some o := t.g _ _ upd_same
  have gg : Same G1 (del G2 x) := fun b u e => by
    have hb : b ≠ x := fun z => by
      rw [z, s2] at e
      cases e
    rw [del_ne hb]
    exact t.g b u (by rw [upd_ne hb]; exact e)
  have gh : Same (del G2 x) H2 := fun b u e => by
    by_cases hb : b = x
    · rw [hb, del_x] at e
      cases e
    · rw [del_ne hb] at e
      exact t.s b u e
  have hh : Same H1 H2 := fun b u e => t.k.k b u (fun z => z) e
  have nn : ∀ b u, del G2 x b = some u → G1 b = some u ∨ H1 b = none := fun b u e => by
    by_cases hb : b = x
    · rw [hb, del_x] at e
      cases e
    · rw [del_ne hb] at e
      rcases t.n b u e with z | z
      · rw [upd_ne hb] at z
        exact .inl z
      · exact .inr z
  exact q v (del G2 x) H2 ⟨gg, Kp.of hh, ⟨gh, del_x, hh _ _ s3, s4.trans (Kp.of hh), s5.trans gg, fun b u e => by
    rcases nn b u e with z | z
    · exact s6 b u z
    · exact .inr (s4.v b z)⟩, nn⟩ (hR v G2 r g2)
/-- what a promise of a def that fills an object in tells: P class fields arguments what-stands result; the result: object class fields what-stands -/
abbrev OR := Addr → Addr → List (Str × V) → Hp → Prop
def spI (P : Addr → List (Str × V) → List V → Hp → OR → Prop) : Sp := fun vs H Q _ => ∃ x C dx fs rest G R, vs = .ref x :: rest ∧ H x = some (.ins C dx fs) ∧ Same G H ∧ G x = none ∧ P C fs rest G R ∧
  ∀ fs' G' H', Own G H x (.ins C dx fs') 0 G' H' → R x C fs' G' → Q .non H'
/-- an object as R tells -/
def IsO (C : Addr) (R : OR) : HR := fun v G => ∃ x dx fs G', v = .ref x ∧ G' x = none ∧ Same (upd G' x (.ins C dx fs)) G ∧ R x C fs G'
instance (C R) : Mon (IsO C R) := ⟨fun s ⟨x, dx, fs, G', e, h, t, r⟩ => ⟨x, dx, fs, G', e, h, t.trans s, r⟩⟩
section
variable {S : SR} {n k : Nat} {t tk : TA} {σ : L2.St} {G H : Hp} {R : OR} {RA : HRs} {C : Addr} {E : XK} {dvs : List V}
theorem made_stp (st : Stab S) {x dx : Addr} (s : S n G H) (hx : H x = none) (hd : H dx = none) (nd : dx ≠ x) {fs : List (Str × V)} {G' H' : Hp} (w : Own G (upd (upd H dx (.own x)) x (.ins C dx [])) x (.ins C dx fs) 0 G' H') : Stp S n G H (upd G' x (.ins C dx fs)) H' := by
  obtain ⟨w1, w2, w3, w4, w5, w6⟩ := w
  have hH : Same H H' := fun b o e => w4.k b o (ne_of_none e hx) (by rw [upd_ne (ne_of_none e hx), upd_ne (ne_of_none e hd)]; exact e)
  have hG : Same G (upd G' x (.ins C dx fs)) := fun b o e => by
    have e' := w5 b o e
    rw [upd_ne (ne_of_none e' w2)]
    exact e'
  have nn : ∀ b o, upd G' x (.ins C dx fs) b = some o → G b = some o ∨ H b = none := fun b o e => by
    by_cases hb : b = x
    · rw [hb]
      exact .inr hx
    · rw [upd_ne hb] at e
      rcases w6 b o e with z | z
      · exact .inl z
      · refine .inr ?_
        rw [upd_ne hb] at z
        by_cases hb2 : b = dx
        · rw [hb2]
          exact hd
        · rw [upd_ne hb2] at z
          exact z
  have hS : Same (upd G' x (.ins C dx fs)) H' := fun b o e => by
    by_cases hb : b = x
    · rw [hb, upd_same] at e
      rw [hb, ← e]
      exact w3
    · rw [upd_ne hb] at e
      exact w1 b o e
  exact ⟨hG, Kp.of hH, st.grow s ⟨hG, hH, hS, nn⟩, nn⟩
theorem made_start (st : Stab S) {x dx : Addr} (s : S n G H) (hx : H x = none) (hd : H dx = none) : Same G (upd (upd H dx (.own x)) x (.ins C dx [])) ∧ G x = none := by
  have sG := st.sub s
  exact ⟨fun b o e => by rw [upd_ne (ne_of_none (sG b o e) hx), upd_ne (ne_of_none (sG b o e) hd)]; exact sG b o e, sG.free hx⟩
/-- C(..) -/
theorem ev_make (st : Stab S) {P : Addr → List (Str × V) → List V → Hp → OR → Prop} (h : EvA S n k t σ G RA) (hp : ∀ vs G', Same G G' → RA vs G' → P C [] (vs ++ dvs) G' R) : Ev S n k (tMake C (spI P) dvs E t) σ G (IsO C R) := fun G1 H1 s0 s Q q =>
  h G1 H1 s0 s _ fun vs G2 H2 s2 e x dx hx hd nd => by
    obtain ⟨a, b⟩ := made_start (C := C) (x := x) (dx := dx) st s2.s hx hd
    refine ⟨x, C, dx, [], vs ++ dvs, G2, R, rfl, upd_same, a, b, hp vs G2 (s0.trans s2.g) e, fun fs' G' H' w r => ⟨rfl, ?_⟩⟩
    exact q (.ref x) _ H' (s2.trans (made_stp st s2.s hx hd nd w)) ⟨x, dx, fs', G', rfl, w.2.1, Same.refl _, r⟩
end
end L2.DS
/-! Defs with defaults; defs that say super().__init__, with defaults; how their arguments are bound. -/
namespace L2.DS
open PySem PySem.Spec PyProof.Rows
section
variable {P : Program} {w : World} {K : PySem.W.Frag} {mg : Str → Option Value} {base : Heap} {x qual : Str} {params : Arguments} {body : List Stmt} {scope : Scope} {dvs : List V} {kws : List (Str × V)} {f : Addr} {fd : FuncData}
/-- a def with defaults that lets nothing out -/
theorem okD {N ps : List Str} {k : Nat} {sp : Sp} (F : FunD K x qual params body scope dvs kws f fd) (S : FnScope N ps scope) (len : ∀ vs H Q E, sp vs H Q E → vs.length = ps.length)
    (hbody : ∀ (cdv : Value) (A : Around) (outer : List Env) (s : Shared) (H : Hp) (vs : List V) (Q : VK) (E : XK), Room k (A.deeper (envOfC qual scope s.heap.objs.size f cdv)) → sp vs H Q E →
      ∃ t, PSs (cxOf CX0 P w K mg base N qual scope f cdv A outer s H E).nox body t ∧ t { nx := fun _ H' => Q .non H', rt := Q } (start N vs) H) : FnOk P w K mg base CX0 (k + 1) f fd ps sp :=
  F.ok S len fun cdv A outer s H vs Q E hr hsp => by
    obtain ⟨t, h, q⟩ := hbody cdv A outer s H vs Q E hr hsp
    exact ⟨t, h.nox, q⟩
end
/-- a def that says super().__init__, its defaults dvs and kws -/
structure FunSD (prog : Program) (K : PySem.W.Frag) (x qual : Str) (st : Stmt) (dvs : List V) (kws : List (Str × V)) (f : Addr) (fd : FuncData) (D : Addr) : Prop where
  ex : ∃ (oc : Value) (od : Option Addr) (dV kV doc pm : Value) (an : Option Addr) (cda : Addr) (ct : Value) (osl : Array (Option Value)) (cc : Addr) (ol : Obj) (vs : Array Value) (file : Str) (tf : Tok) (ccl : Value) (ccd : Option Addr) (csl : Array (Option Value)),
    fd = PySem.W.fnX x qual (defArgs st) (defBody st) (defScope st) [("__class__", cc)] dV kV doc pm an (.ref cda) ct ∧ K.lookup f = some ⟨oc, od, .func fd, osl⟩ ∧ PySem.W.codeIn K (.ref cda) qual = true ∧
    K.lookup cda = some ol ∧ ol.data = .fields vs ∧ vs[2]? = some (.str file tf) ∧ ((prog.main.file : Str) == file) = true ∧ K.lookup cc = some ⟨ccl, ccd, .cell (some (.ref D)), csl⟩ ∧ DflV K dV dvs ∧ KwdV K kV kws
  cls : ∃ oD cd, K.lookup D = some oD ∧ oD.data = .cls cd
  kp : PySem.W.keepIn K (.ref f) = true
  fi : PySem.W.fnIn K f = true
  ty : PySem.W.typeIn K (.ref f) = some (.type "function")
section
variable {prog : Program} {K : PySem.W.Frag} {x qual : Str} {st : Stmt} {dvs : List V} {kws : List (Str × V)} {f D : Addr} {fd : FuncData} {ps : List Str}
theorem FunSD.toS (F : FunSD prog K x qual st dvs kws f fd D) : FunS prog K x qual st f fd D := by
  obtain ⟨oc, od, dV, kV, doc, pm, an, cda, ct, osl, cc, ol, vs, file, tf, ccl, ccd, csl, h1, h2, h3, h4, h5, h6, h7, h8, _⟩ := F.ex
  exact ⟨⟨oc, od, dV, kV, doc, pm, an, cda, ct, osl, cc, ol, vs, file, tf, ccl, ccd, csl, h1, h2, h3, h4, h5, h6, h7, h8⟩, F.cls, F.kp, F.fi, F.ty⟩
/-- every parameter is written -/
theorem FunSD.bindsN (F : FunSD prog K x qual st [] kws f fd D)
    (h : ∀ (cc : Addr) (kV doc pm : Value) (an : Option Addr) (cdv ct : Value) (us : List Value), us.length = ps.length → bindArgs (PySem.W.fnX x qual (defArgs st) (defBody st) (defScope st) [("__class__", cc)] .none kV doc pm an cdv ct) ⟨us, []⟩ = pure (ps.zip us)) : Binds K fd ps [] := by
  obtain ⟨oc, od, dV, kV, doc, pm, an, cda, ct, osl, cc, ol, vs, file, tf, ccl, ccd, csl, rfl, h2, h3, h4, h5, h6, h7, h8, hD, hK⟩ := F.ex
  rcases hD with ⟨_, rfl⟩ | ⟨e, _⟩
  · exact .all (h cc kV doc pm an (.ref cda) ct)
  · exact absurd rfl e
/-- C(e, .., k = v, ..), no positional defaults: ms the keyword-only parameters that lack -/
theorem FunSD.kbinds0 (F : FunSD prog K x qual st [] kws f fd D) (n : Nat) (ks : List Str) (ms : List (Str × V)) (g : {α : Type} → List α → List α → List α → List α) (hk : kws ≠ []) (hms : ∀ q ∈ ms, q ∈ kws)
    (hrel : ∀ {vs mz zs : List V} {us mv ws : List Value}, Vals vs us → Vals mz mv → Vals zs ws → Vals (g vs mz zs) (g us mv ws))
    (h : ∀ (cc D : Addr) (doc pm : Value) (an : Option Addr) (cdv ct : Value) (us mv ws : List Value), us.length = n → mv.length = ms.length → ws.length = ks.length →
      KwChain D ((ms.map (·.1)).zip mv) (bindArgs (PySem.W.fnX x qual (defArgs st) (defBody st) (defScope st) [("__class__", cc)] .none (.ref D) doc pm an cdv ct) ⟨us, ks.zip ws⟩) (ps.zip (g us mv ws))) :
    ∃ mv : List Value, KBn K fd ps n ks (fun us ws => g us mv ws) (fun vs zs => g vs (ms.map (·.2)) zs) := by
  obtain ⟨oc, od, dV, kV, doc, pm, an, cda, ct, osl, cc, ol, vs, file, tf, ccl, ccd, csl, rfl, h2, h3, h4, h5, h6, h7, h8, hD, hK⟩ := F.ex
  rcases hD with ⟨_, rfl⟩ | ⟨e, _⟩
  · rcases hK with e | ⟨D, rfl, hq⟩
    · exact absurd e hk
    · obtain ⟨mv, hl, rk, hks⟩ := kwd_vals (ms := ms) fun q hm => hq q (hms q hm)
      exact ⟨mv, ⟨fun s us ws X l1 l2 => BindsTo.of_looks fun M => KwChain.looks X hks (h cc D doc pm an (.ref cda) ct us mv ws l1 hl l2), fun r1 r2 => hrel r1 rk r2⟩⟩
  · exact absurd rfl e
/-- C(e, ..) with all keyword-only parameters lacking -/
theorem FunSD.binds0 (F : FunSD prog K x qual st [] kws f fd D) (n : Nat) (hk : kws ≠ []) (hn : n + kws.length = ps.length)
    (h : ∀ (cc D : Addr) (doc pm : Value) (an : Option Addr) (cdv ct : Value) (us ks : List Value), us.length = n → ks.length = kws.length →
      KwChain D ((kws.map (·.1)).zip ks) (bindArgs (PySem.W.fnX x qual (defArgs st) (defBody st) (defScope st) [("__class__", cc)] .none (.ref D) doc pm an cdv ct) ⟨us, []⟩) (ps.zip (us ++ ks))) : ∃ ds, Vals (kws.map (·.2)) ds ∧ Binds K fd ps ds := by
  obtain ⟨oc, od, dV, kV, doc, pm, an, cda, ct, osl, cc, ol, vs, file, tf, ccl, ccd, csl, rfl, h2, h3, h4, h5, h6, h7, h8, hD, hK⟩ := F.ex
  rcases hD with ⟨_, rfl⟩ | ⟨e, _⟩
  · rcases hK with e | ⟨D, rfl, hq⟩
    · exact absurd e hk
    · obtain ⟨ks, hl, rk, hks⟩ := kwd_vals hq
      refine ⟨ks, rk, fun s us X hlen => ?_⟩
      have l2 : us.length = n := by
        rw [List.length_append, hl] at hlen
        omega
      exact BindsTo.of_looks fun M => KwChain.looks X hks (h cc D doc pm an (.ref cda) ct us ks l2 hl)
  · exact absurd rfl e
end
/-- the def that super().__init__ finds -/
def SupC (P : Program) (w : World) (K : PySem.W.Frag) (mg : Str → Option Value) (base : Heap) (f2 : Addr) (CX : CXT) (k : Nat) (ps : List Str) (dvs : List V) (sp : Sp) : Prop :=
  ∃ (fd : FuncData) (ds : List Value), FnOk P w K mg base CX k f2 fd ps sp ∧ Binds K fd ps ds ∧ Vals dvs ds ∧ PySem.W.fnIn K f2 = true ∧ PySem.W.typeIn K (.ref f2) = some (.type "function")
section
variable {X : Cx} {body sts : List Stmt} {u : TS} {D : Addr} {ar : Str} {CX : CXT} {k : Nat} {f2 : Addr} {ps : List Str} {sp : Sp} {dvs : List V} {E : XK} {e : Expr} {es : List Expr} {ta : TA} {p0 p1 ap pos pos' : Pos} {pl : Sem Bool}
theorem psa_supC (S : SupAt X D ar) (hN : X.N[0]? = some ar) (hv : Own1 X.env.scope ar) (c : SupC X.prog X.w X.K X.mg X.base f2 CX k ps dvs sp) (hr : Room k X.A) (hx : Passes CX X E) (ha : PA X (e :: es) ta) (hr2 : PSA X body sts u)
    (he : eval (.Call (.Attribute (.Call (.Name "super" p0) [] [] p1) "__init__" ap) (e :: es) [] pos) X.env = (do
      let ov ← attributeBase (.Call (.Name "super" p0) [] [] p1) "__init__" X.env (eval (.Call (.Name "super" p0) [] [] p1) X.env)
      standAt ap.atName
      let (f, first) ← holding [ov] (getMethod ov "__init__" pl)
      callWith pos f first (backTo pos (starEach (e :: es) X.env)) []) := by rfl)
    (hst : starEach (e :: es) X.env = (false, eval e X.env) :: starEach es X.env := by rfl) (hpl : (backTo pos (starEach es X.env)).any (·.1) = false := by rfl)
    (hs : swapsWith (.Call (.Attribute (.Call (.Name "super" p0) [] [] p1) "__init__" ap) (e :: es) [] pos) none pos'.line X.env = pure false := by rfl) :
    PSA X body (.Expr (.Call (.Attribute (.Call (.Name "super" p0) [] [] p1) "__init__" ap) (e :: es) [] pos) pos' :: sts) (tSeq (tSup X.K D f2 sp dvs E ta) u) := by
  obtain ⟨fd, ds, F, hb, hd, hf, ht⟩ := c
  exact psa_sup S hN hv F hr hb hd hx hf ht ha hr2 he hst hpl hs
end
/-- a class made by its name with keywords -/
def MakerK (P : Program) (w : World) (K : PySem.W.Frag) (mg : Str → Option Value) (base : Heap) (x : Str) (C : Addr) (CX : CXT) (k : Nat) (ps : List Str) (n : Nat) (ks : List Str) (gV : List V → List V → List V) (sp : Sp) : Prop :=
  ∃ (f : Addr) (fd : FuncData) (g : List Value → List Value → List Value), mg x = some (.ref C) ∧ Mk K C f ∧ FnOk P w K mg base CX k f fd ps sp ∧ KBn K fd ps (n + 1) ks g gV
section
variable {X : Cx} {CX : CXT} {k n : Nat} {C : Addr} {ps ks : List Str} {gV : List V → List V → List V} {sp : Sp} {E : XK} {x : Str} {p pos : Pos} {e : Expr} {es : List Expr} {kws : List Keyword} {t tk : TA}
theorem pe_makeKC (c : MakerK X.prog X.w X.K X.mg X.base x C CX k ps n ks gV sp) (hr : Room (k + 1) X.A) (hx : Passes CX X E) (ha : PA X (e :: es) t) (hkw : PK X kws tk) (hg : Gl X x := by rfl)
    (hall : (backToKw pos (keywordEach kws X.env)).all (·.1.isSome) = true := by rfl) (hks : (backToKw pos (keywordEach kws X.env)).filterMap (·.1) = ks := by rfl) (hdb : (x == ("__debug__" : Str)) = false := by decide)
    (he : starEach (e :: es) X.env = (false, eval e X.env) :: starEach es X.env := by rfl) (hpl : ((backTo pos (starEach (e :: es) X.env)).any (·.1) || (backToKw pos (keywordEach kws X.env)).any (·.1.isNone)) = false := by rfl) :
    PE X (.Call (.Name x p) (e :: es) kws pos) (tMakeK C n ks.length sp gV E t tk) := by
  obtain ⟨f, fd, g, h1, h2, h3, h4⟩ := c
  exact pe_makeK h2 h3 hr hg h1 h4 hx ha hkw hall hks hdb he hpl
end
section
variable {S : SR} {n k ka kb : Nat} {t tk : TA} {σ : L2.St} {G H : Hp} {R : OR} {C : Addr} {E : XK} {ws zs : List V} {m1 m2 : Nat} {gV : List V → List V → List V}
/-- C(.., k = v) -/
theorem ev_makeK (st : Stab S) {P : Addr → List (Str × V) → List V → Hp → OR → Prop} (h : EvA S n ka t σ G (IsVs ws)) (hk : EvA S (n + ka) kb tk σ G (IsVs zs)) (l1 : ws.length = m1) (l2 : zs.length = m2) {rest : List V} (hg : ∀ x, gV (.ref x :: ws) zs = .ref x :: rest)
    (hp : ∀ G', Same G G' → P C [] rest G' R) : Ev S n (ka + kb) (tMakeK C m1 m2 (spI P) gV E t tk) σ G (IsO C R) := fun G1 H1 s0 s Q q =>
  h G1 H1 s0 s _ fun vs G2 H2 s2 e => hk G2 H2 (s0.trans s2.g) s2.s _ fun us G3 H3 s3 e' => by
    obtain rfl : vs = ws := e
    obtain rfl : us = zs := e'
    refine ⟨l1, l2, fun x dx hx hd nd => ?_⟩
    obtain ⟨a, b⟩ := made_start (C := C) (x := x) (dx := dx) st s3.s hx hd
    refine ⟨x, C, dx, [], rest, G3, R, hg x, upd_same, a, b, hp G3 ((s0.trans s2.g).trans s3.g), fun fs' G' H' w r => ⟨rfl, ?_⟩⟩
    exact q (.ref x) _ H' ((s2.trans s3).trans (made_stp st s3.s hx hd nd w)).up ⟨x, dx, fs', G', rfl, w.2.1, Same.refl _, r⟩
end
/-! ### statements on the object that is being made -/
section
variable {G0 H0 G H : Hp} {x C dx : Addr} {fs : List (Str × V)} {n k i : Nat} {te : TE} {u : TS} {σ : L2.St} {nx bk ct : L2.St → Hp → Prop} {rt : VK} {K : PySem.W.Frag} {f : Str} {R : HR} {v : V}
theorem q_fldO (s : Own G0 H0 x (.ins C dx fs) n G H) (e : Ev (Own G0 H0 x (.ins C dx fs)) n k te σ G R) (hx : σ[i]? = some (some (.ref x))) (hc : Cls K C) (hn : NoAttr K C f) (hl : fs.length < 1000)
    (h : ∀ v G' H', Same G G' → Own G0 H0 x (.ins C dx (putF f v fs)) (n + k) G' H' → R v G' → u (Ends.mk nx rt bk ct) σ H') : tSeq (sFld K (tVar i) te f) u (Ends.mk nx rt bk ct) σ H :=
  e G H (Same.refl _) s _ fun v G' H' s1 r => ⟨_, hx, x, C, dx, fs, rfl, s1.s.2.2.1, hc, hn, hl, h v G' _ s1.g (own_upd s1.s) r⟩
theorem q_fldV (s : Own G0 H0 x (.ins C dx fs) n G H) (e : Ev (Own G0 H0 x (.ins C dx fs)) n k te σ G (IsV v)) (hx : σ[i]? = some (some (.ref x))) (hc : Cls K C) (hn : NoAttr K C f) (hl : fs.length < 1000)
    (h : ∀ H', Own G0 H0 x (.ins C dx (putF f v fs)) (n + k) G H' → u (Ends.mk nx rt bk ct) σ H') : tSeq (sFld K (tVar i) te f) u (Ends.mk nx rt bk ct) σ H :=
  e G H (Same.refl _) s _ fun w G' H' s1 r => ⟨_, hx, x, C, dx, fs, rfl, s1.s.2.2.1, hc, hn, hl, by
    rw [show w = v from r]
    exact h _ (own_upd ((stabO _ _ _ _).anti s s1.s s1.g))⟩
theorem own_trans {G' H' : Hp} {o u : HO} {m m' : Nat} (a : Own G0 H0 x o m G H) (b : Own G H x u m' G' H') (l : Nat) : Own G0 H0 x u l G' H' := ⟨b.1, b.2.1, b.2.2.1, a.2.2.2.1.trans b.2.2.2.1, a.2.2.2.2.1.trans b.2.2.2.2.1, fun c w e => by
  rcases b.2.2.2.2.2 c w e with z | z
  · exact a.2.2.2.2.2 c w z
  · exact .inr (a.2.2.2.1.v c z)⟩
theorem own_n {o : HO} {m l : Nat} (a : Own G0 H0 x o m G H) : Own G0 H0 x o l G H := a
/-- super().__init__(..) -/
theorem q_supO {P : Addr → List (Str × V) → List V → Hp → OR → Prop} {D f2 : Addr} {dvs : List V} {E : XK} {ta : TA} {RA : HRs} {RO : OR} (s : Own G0 H0 x (.ins C dx fs) n G H) (h0 : σ[0]? = some (some (.ref x))) (hm : PySem.W.mroIn K C (.ref D) = some true) (hf : PySem.W.ks_superIn K C D "__init__" = some (some (.ref f2)))
    (h : EvA (Own G0 H0 x (.ins C dx fs)) n k ta σ G RA) (hp : ∀ vs G', Same G G' → RA vs G' → P C fs (vs ++ dvs) G' RO) (hq : ∀ fs' G' H', Same G G' → Own G0 H0 x (.ins C dx fs') 0 G' H' → RO x C fs' G' → u (Ends.mk nx rt bk ct) σ H') :
    tSeq (tSup K D f2 (spI P) dvs E ta) u (Ends.mk nx rt bk ct) σ H :=
  ⟨x, C, dx, fs, h0, s.2.2.1, hm, hf, h G H (Same.refl _) s _ fun vs G' H' s1 r => ⟨x, C, dx, fs, vs ++ dvs, G', RO, rfl, s1.s.2.2.1, s1.s.1, s1.s.2.1, hp vs G' s1.g r, fun fs' G2 H2 w ro => hq fs' G2 H2 (s1.g.trans w.2.2.2.2.1) (own_trans s1.s w 0) ro⟩⟩
end
end L2.DS
/-! Tuples with methods, starred displays, dicts by enumerate, texts in parts. -/
namespace L2.DS
open PySem PySem.Spec PyProof.Rows
/-- a new tuple whose object is known to be plain -/
def tTupF (t : TA) : TE := fun σ H Q => t σ H fun xs H1 => xs.length ≤ sizeLine ∧ ∀ (p : Addr) (o : Obj), H1 p = none → o.cls = .type "tuple" → o.dict = none → Q (.ref p) (upd H1 p (.frz o (.tup xs)))
theorem pe_tupF {X : Cx} {es : List Expr} {t : TA} {x1 : Nat} {pos : Pos} (h : PA X es t) : PE X (.Tuple es x1 pos) (tTupF t) := by
  refine ⟨fun pins s σ H Q I hq => ?_⟩
  refine wpAny_Tuple_spliced (thn (h.run pos pins s σ H _ I hq) fun us s1 ⟨xs, H1, I1, r, z, q⟩ => ⟨by rw [← r.length]; exact z, ?_⟩)
  have hf : H1 s1.heap.objs.size = none := I1.hok.fresh (Nat.le_refl _)
  have q2 := q _ { cls := .type "tuple", data := .seq us.toArray } hf rfl rfl
  refine ⟨.ref s1.heap.objs.size, _, I1.laid (t' := s1.toks) (fun b u e => Heap.get?_push_of_some _ e) (Nat.le_refl _) ?_, rfl, q2⟩
  exact (⟨Heap.get?_push_size _ rfl, z, us, r, IsTup.new _ _⟩ : ObjOk _ _ _ _ _ (.frz _ (.tup xs)))
/-- t.m(e, ..), t such a tuple -/
def tBMT (r : V → List V → Hp → VK → Prop) (to : TE) (t : TA) : TE := fun σ H Q => to σ H fun x H1 => (∃ p o xs, x = .ref p ∧ H1 p = some (.frz o (.tup xs)) ∧ o.dict = none) ∧ t σ H1 fun vs H2 => r x vs H2 Q
theorem pe_bmT {X : Cx} {o e : Expr} {es : List Expr} {to : TE} {t : TA} {name : Str} {apos cpos : Pos} {id : String} {r : V → List V → Hp → VK → Prop} (slot : Slot "tuple" name id) (hty : typeOf (.builtin id) = pure (.type "method_descriptor")) (hm : MtR X id r) (ho : PE X o to) (ha : PA X (e :: es) t)
    (hbase : attributeBase o name X.env (eval o X.env) = eval o X.env := by rfl)
    (hfew : ((backTo cpos (starEach (e :: es) X.env)).all (fun x => !x.1) && (backToKw cpos (keywordEach [] X.env)).all (fun x => x.1.isSome)
      && decide ((e :: es).length + ([] : List Keyword).length + (if ([] : List Keyword).isEmpty then 0 else 1) < 30)) = true := by rfl)
    (hline : (apos.endLine == cpos.line) = true := by rfl) (hs : starEach (e :: es) X.env = (false, eval e X.env) :: starEach es X.env := by rfl) (hplain : (backTo cpos (starEach es X.env)).any (·.1) = false := by rfl) :
    PE X (.Call (.Attribute o name apos) (e :: es) [] cpos) (tBMT r to t) := by
  refine ⟨fun pins s σ H Q I h => ?_⟩
  refine wpAny_Call_method_late hbase hfew hline rfl (thn (ho.run pins s σ H _ I h) fun v s1 ⟨x, H1, I1, r1, ⟨p, ob, xs, ex, hp, hd⟩, q1⟩ => ?_)
  subst ex
  obtain rfl : v = Value.ref p := r1
  obtain ⟨hg, z, its, rv, ob2, e2, hc, n, hdat⟩ := (show ObjOk X.prog X.w H1 s1.heap p (.frz ob (.tup xs)) from I1.hok p _ hp)
  rw [hg] at e2
  cases e2
  refine ⟨"tuple", id, PySem.F.plainAttrs_tuple, slot, hty, ⟨_, hg, hc⟩, fun a e => ?_, ?_⟩
  · cases e
    exact ⟨_, hg, hd⟩
  have hA := ha.run cpos pins s1 σ H1 _ I1 q1
  rw [hs] at hA ⊢
  refine Calls.callWith_builtin (by show (false || (backTo cpos (starEach es X.env)).any (·.1)) = false; rw [hplain] <;> rfl) (Calls.evalArgs_plain ?_)
  exact thn hA fun us s2 ⟨vs, H2, I2, r2, q2⟩ => hm pins s2 σ H2 (.ref p) vs (.ref p) us Q I2 rfl r2 q2
/-- t.index(x), flat items among which == is what = is -/
def rIndexT (K : PySem.W.Frag) : V → List V → Hp → VK → Prop := fun x xs H Q => ∃ (a : Addr) (ys : List V) (y : V), x = .ref a ∧ xs = [y] ∧ SqT K H a ys ∧ flatV y = true ∧ ys.all flatV = true ∧ (∀ z ∈ ys, eqV z y = decide (z = y)) ∧ y ∈ ys ∧ Q (.int (ys.idxOf y : Nat)) H
theorem vals_at : ∀ {ys : List V} {us : List Value}, Vals ys us → ∀ (j : Nat) (h1 : j < us.length) (h2 : j < ys.length), RelV ys[j] us[j]
  | _, _, .cons r _, 0, _, _ => r
  | _, _, .cons _ t, j + 1, h1, h2 => vals_at t j (Nat.lt_of_succ_lt_succ h1) (Nat.lt_of_succ_lt_succ h2)
theorem mt_indexT {X : Cx} (K : PySem.W.Frag) (hK : X.K = K := by rfl) : MtR X "tuple.index" (rIndexT K) := by
  subst hK
  intro pins s σ H x xs v us Q I rx rxs h
  obtain ⟨a, ys, y, rfl, rfl, hs, fy, fys, heq, hy, q⟩ := h
  cases rx
  cases rxs with
  | cons ry rt =>
    rename_i uy ut
    cases rt
    obtain ⟨its, rv, ⟨o, ho, hc, n, hd⟩, hlen⟩ := I.tuple hs
    refine SeqAt.call_tuple_index (vs := its) (ks := ys) (k := y) ⟨o, ho, hc, n, hd⟩ ⟨rv.length.symm, fun j h1 h2 => ?_⟩ hy ⟨.int (ys.idxOf y : Nat), H, I.tok _, ⟨_, rfl⟩, q⟩
    have hm := List.getElem_mem h2
    have e := eqAt_V (A := X.A.in1) (s := s) (vals_at rv j h1 h2) ry (List.all_eq_true.mp fys _ hm) fy
    rw [heq _ hm] at e
    exact e
/-- t.index(x), items and x data of small depth -/
def rIndexTD (K : PySem.W.Frag) : V → List V → Hp → VK → Prop := fun x xs H Q => ∃ (a : Addr) (y : V) (d : PyData) (ds : List PyData) (j : Nat) (z : PyData), x = V.ref a ∧ xs = [y] ∧ Dp K H (V.ref a) (.tuple ds) ∧ Dp K H y d ∧
  PyData.canLayAll0 ds = true ∧ SeqAt.shaped d = true ∧ ds[j]? = some z ∧ PyData.eqv z d = true ∧ (∀ (m : Nat) (z' : PyData), m < j → ds[m]? = some z' → PyData.eqv z' d = false) ∧ Q (.int (j : Nat)) H
theorem idx_true : ∀ {ks : List Bool} {j : Nat}, ks[j]? = some true → (∀ m, m < j → ks[m]? = some false) → ks.idxOf true = j
  | [], j, h, _ => by simp at h
  | b :: r, 0, h, _ => by
    cases h
    simp
  | b :: r, j + 1, h, hn => by
    have e : b = false := Option.some.inj (hn 0 (by omega))
    subst e
    have := idx_true (ks := r) (j := j) h fun m hm => hn (m + 1) (by omega)
    simp [List.idxOf_cons, this]
theorem mt_indexTD {X : Cx} (K : PySem.W.Frag) (hu : X.A.units + 66 < cLine) (hK : X.K = K := by rfl) : MtR X "tuple.index" (rIndexTD K) := by
  subst hK
  intro pins s σ H x xs v us Q I rx rxs h
  obtain ⟨a, y, d, ds, j, z, rfl, rfl, hl, hy, sl, sd, hz, hzj, hno, q⟩ := h
  cases rx
  cases rxs with
  | cons ry rt =>
    rename_i uy ut
    cases rt
    obtain ⟨bs, r1⟩ := Dp.reads I d y uy hy ry
    have hd := SeqAt.depth_of_shaped sd
    have hroom : X.A.in1.units + min (PyData.depthAll ds) d.depth < cLine := by
      have := Nat.min_le_right (PyData.depthAll ds) d.depth
      show X.A.units + 1 + min (PyData.depthAll ds) d.depth < cLine
      omega
    cases hl with
    | tup hs ha =>
      obtain ⟨its, rv, ⟨o, ho, hc, n, hdt⟩, hlen⟩ := I.tuple hs
      obtain ⟨as, h4⟩ := Dp.readsAll I ds _ its ha rv
      have hn : its.length = ds.length := SeqAt.ReadsAll.length ds its as h4
      have hmap : its.map (SeqAt.readOf s.heap) = ds := SeqAt.readsAll_map ds its as sl h4
      have hat := SeqAt.items_eqAt (A := X.A) (vs := its.toArray) (show ReadsAll s.heap its.toArray.toList ds as from h4) r1 sl (SeqAt.canLay_of_shaped sd) hroom
      have hj : (ds.map fun z => PyData.eqv z d).idxOf true = j := idx_true (by rw [List.getElem?_map, hz]; exact congrArg some hzj) fun m hm => by
        have hm2 : m < ds.length := by
          have := (List.getElem?_eq_some_iff.mp hz).1
          omega
        rw [List.getElem?_map, List.getElem?_eq_getElem hm2]
        exact congrArg some (hno m _ hm (List.getElem?_eq_getElem hm2))
      refine SeqAt.call_tuple_index (vs := its) (ks := ds.map fun z => PyData.eqv z d) (k := true) ⟨o, ho, hc, n, hdt⟩ ⟨by rw [List.length_map]; exact hn, fun i h1 h2 => ?_⟩ (List.mem_iff_getElem?.mpr ⟨j, by rw [List.getElem?_map, hz]; exact congrArg some hzj⟩) ⟨V.int (j : Nat), H, I.tok _, ⟨_, by rw [hj]⟩, q⟩
      have e := hat its[i] (by simp)
      have e2 : SeqAt.readOf s.heap its[i] = ds[i]'(by rw [List.length_map] at h2; exact h2) := by
        have := List.getElem_map (f := SeqAt.readOf s.heap) (l := its) (i := i) (h := by rw [List.length_map]; exact h1)
        rw [← this]
        exact List.getElem_of_eq hmap _
      rw [e2] at e
      have e3 : decide ((ds.map fun z => PyData.eqv z d)[i] = true) = PyData.eqv (ds[i]'(by rw [List.length_map] at h2; exact h2)) d := by
        rw [List.getElem_map]
        cases PyData.eqv _ d <;> rfl
      rw [e3]
      exact e
theorem hu2 {A : Around} {k : Nat} (hr : Room k A) : A.units + 66 < cLine := by
  have := hr.un
  omega
/-! ### what evaluates to what -/
/-- a tuple newly made, its object plain -/
def IsTF (F : Hp) (xs : List V) : HR := fun v G => ∃ p o, v = .ref p ∧ F p = none ∧ o.dict = none ∧ G p = some (.frz o (.tup xs))
instance (F xs) : Mon (IsTF F xs) := ⟨fun s ⟨p, o, e, f, d, h⟩ => ⟨p, o, e, f, d, s _ _ h⟩⟩
section
variable {S : SR} {n k ka kb : Nat} {t ta : TA} {te to : TE} {σ : L2.St} {G H : Hp} {K : PySem.W.Frag} {p : Addr} {vs xs ys : List V} {x : V} {i j : Nat}
theorem ev_tupF (st : Stab S) (h : EvA S n k t σ G (IsVs vs)) (hl : vs.length ≤ 100000) : Ev S n k (tTupF t) σ G (IsTF G vs) := fun G1 H1 s0 s Q q =>
  h G1 H1 s0 s _ fun ws G2 H2 s2 e => by
    obtain rfl : ws = vs := e
    exact ⟨Nat.le_trans hl (by decide), fun p o hp _ hd => q (.ref p) _ _ (s2.trans (st.new s2.s hp)) ⟨p, o, rfl, (s0.trans s2.g).free ((st.sub s2.s).free hp), hd, upd_same⟩⟩
theorem ea_star (st : Stab S) (h : Ev S n ka te σ G (IsV (.ref p))) (hq : Sq K G p xs) (hr : EvA S (n + ka) kb t σ G (IsVs ys)) : EvA S n (ka + kb) (StX.tStar K te t) σ G (IsVs (xs ++ ys)) := fun G1 H1 s0 s Q q =>
  h G1 H1 s0 s _ fun v G2 H2 s2 e => ⟨p, xs, e, (sq_mon (s0.trans (s2.g.trans (st.sub s2.s))) hq).symm, hr G2 H2 (s0.trans s2.g) s2.s _ fun ws G3 H3 s3 e' => by
    obtain rfl : ws = ys := e'
    exact q _ G3 H3 (s2.trans s3).up rfl⟩
theorem ev_bmT {r : V → List V → Hp → VK → Prop} {o : Obj} {R : HR} (st : Stab S) (h : Ev S n ka to σ G (IsV (.ref p))) (hp : G p = some (.frz o (.tup xs))) (hd : o.dict = none) (ha : EvA S (n + ka) kb t σ G (IsVs vs)) (hr : RC S (r (.ref p)) vs G R) : Ev S n (ka + kb) (tBMT r to t) σ G R := fun G1 H1 s0 s Q q =>
  h G1 H1 s0 s _ fun v G2 H2 s2 e => ⟨⟨p, o, xs, e, st.sub s2.s _ _ (s2.g _ _ (s0 _ _ hp)), hd⟩, ha G2 H2 (s0.trans s2.g) s2.s _ fun ws G3 H3 s3 e' => by
    obtain rfl : ws = vs := e'
    obtain rfl : v = .ref p := e
    exact hr _ G3 H3 ((s0.trans s2.g).trans s3.g) s3.s Q fun v G4 H4 s4 e => q v G4 H4 ((s2.trans s3).trans s4).up e⟩
theorem ev_bmTA {r : V → List V → Hp → VK → Prop} {o : Obj} {R : HR} {RA : HRs} (st : Stab S) (h : Ev S n ka to σ G (IsV (.ref p))) (hp : G p = some (.frz o (.tup xs))) (hd : o.dict = none) (ha : EvA S (n + ka) kb t σ G RA) (hr : ∀ vs G', Same G G' → RA vs G' → RC S (r (.ref p)) vs G' R) : Ev S n (ka + kb) (tBMT r to t) σ G R := fun G1 H1 s0 s Q q =>
  h G1 H1 s0 s _ fun v G2 H2 s2 e => ⟨⟨p, o, xs, e, st.sub s2.s _ _ (s2.g _ _ (s0 _ _ hp)), hd⟩, ha G2 H2 (s0.trans s2.g) s2.s _ fun ws G3 H3 s3 e' => by
    obtain rfl : v = .ref p := e
    exact hr ws G3 ((s0.trans s2.g).trans s3.g) e' _ G3 H3 (Same.refl _) s3.s Q fun v G4 H4 s4 e => q v G4 H4 ((s2.trans s3).trans s4).up e⟩
theorem c_indexT (st : Stab S) (hs : SqT K G p ys) (fy : flatV x = true) (fys : ys.all flatV = true) (he : ∀ z ∈ ys, eqV z x = decide (z = x)) (hm : x ∈ ys) : RC S (rIndexT K (.ref p)) [x] G (IsV (.int (ys.idxOf x : Nat))) :=
  rc_val (fun H s Q q => ⟨p, ys, x, rfl, rfl, same_t s hs, fy, fys, he, hm, q⟩) st
theorem c_indexTD (st : Stab S) {d z : PyData} {ds : List PyData} {j : Nat} (hs : Dp K G (.ref p) (.tuple ds)) (hx : Dp K G x d) (sl : PyData.canLayAll0 ds = true) (sd : SeqAt.shaped d = true) (hz : ds[j]? = some z) (he : PyData.eqv z d = true) (hno : ∀ (m : Nat) (z' : PyData), m < j → ds[m]? = some z' → PyData.eqv z' d = false) :
    RC S (rIndexTD K (.ref p)) [x] G (IsV (.int (j : Nat))) := rc_val (fun H s Q q => ⟨p, x, d, ds, j, z, rfl, rfl, dp_mon s hs, dp_mon s hx, sl, sd, hz, he, hno, q⟩) st
/-- list(range(m)) -/
theorem ev_listRg {m : Int} (st : Stab S) (h : Ev S n k te σ G (IsV (.int m))) (h0 : 0 ≤ m) (h1 : m ≤ 100000) : Ev S n k (tLstRg (tRg1 te)) σ G (IsNew G (.lst ((List.range m.toNat).map fun i => .int (i : Nat)))) := fun G1 H1 s0 s Q q =>
  h G1 H1 s0 s _ fun v G2 H2 s2 e => ⟨m, e, ⟨by omega, by omega, by omega, by omega, by show (m - 0).toNat ≤ 2 ^ 24; omega⟩, fun p hp => by
    have e : rgV 0 m = (List.range m.toNat).map fun i => V.int (i : Nat) := by
      unfold rgV
      rw [Int.sub_zero]
      exact List.map_congr_left fun i _ => by rw [Int.zero_add]
    rw [e]
    exact q (.ref p) _ _ (s2.trans (st.new s2.s hp)) ⟨p, rfl, (s0.trans s2.g).free ((st.sub s2.s).free hp), upd_same⟩⟩
/-- tuple(l) -/
theorem c_tupN (st : Stab S) (hq : SqL K G p xs) : RC S (rTupQ K) [.ref p] G (IsNew G (.tup xs)) := fun n G1 H1 s0 s Q q =>
  ⟨p, xs, rfl, .inl ⟨(s0.trans (st.sub s)).seq hq, fun l hl => q (.ref l) _ _ (st.new s hl) ⟨l, rfl, (s0.trans (st.sub s)).free hl, upd_same⟩⟩⟩
end
theorem tYes_run {σ : L2.St} {H : Hp} {Q : Bool → Hp → Prop} (h : Q true H) : tYes σ H Q := h
/-! ### a dict of places by enumerate -/
def plc : List Str → Nat → List (Key × V)
  | [], _ => []
  | a :: r, i => (.inr a, .int (i : Nat)) :: plc r (i + 1)
theorem plc_snoc : ∀ (xs : List Str) (a : Str) (i : Nat), plc (xs ++ [a]) i = plc xs i ++ [(.inr a, .int ((i + xs.length : Nat) : Int))]
  | [], a, i => rfl
  | b :: r, a, i => by
    show (_, _) :: plc (r ++ [a]) (i + 1) = _
    rw [plc_snoc r a (i + 1), List.length_cons, show i + (r.length + 1) = i + 1 + r.length by omega]
    rfl
theorem plc_len : ∀ (xs : List Str) (i : Nat), (plc xs i).length = xs.length
  | [], _ => rfl
  | a :: r, i => by rw [List.length_cons, ← plc_len r (i + 1)]; rfl
theorem plc_none : ∀ {xs : List Str} {a : Str} {i : Nat}, a ∉ xs → valV (plc xs i) (.inr a) = none
  | [], _, _, _ => rfl
  | b :: r, a, i, h => by
    have n : ¬ (Sum.inr b : Key) = .inr a := fun z => h (by cases z; exact List.mem_cons_self)
    exact (valV_neg (p := ((.inr b : Key), V.int (i : Nat))) n).trans (plc_none fun z => h (List.mem_cons_of_mem _ z))
theorem plc_some : ∀ {xs : List Str} {a : Str} {i j : Nat}, xs.Nodup → xs[j]? = some a → valV (plc xs i) (.inr a) = some (.int ((i + j : Nat) : Int))
  | [], _, _, _, _, e => by simp at e
  | b :: r, a, i, 0, _, e => by
    cases e
    exact valV_pos rfl
  | b :: r, a, i, j + 1, d, e => by
    have e' : r[j]? = some a := e
    have n : ¬ (Sum.inr b : Key) = .inr a := fun z => by
      cases z
      exact (List.nodup_cons.mp d).1 (List.mem_of_getElem? e')
    refine (valV_neg (p := ((.inr b : Key), V.int (i : Nat))) n).trans ?_
    rw [plc_some (List.nodup_cons.mp d).2 e', show i + 1 + j = i + (j + 1) by omega]
section
variable {S : SR} {n k : Nat} {ta : TA} {σ : L2.St} {G : Hp} {K : PySem.W.Frag} {p : Addr} {vs : List Nat} {i j : Nat} {names : List Str}
/-- {name: place for place, name in enumerate(names)} -/
theorem ev_dcE (st : Stab S) (h : EvA S n k ta σ G (IsVs [.ref p])) (hq : SqL K G p (names.map V.str)) (hl : names.length ≤ 100000) (hd : names.Nodup) (hij : i ≠ j) (hli : i < (wipe σ vs).length) (hlj : j < (wipe σ vs).length)
    (hw : ∀ x y : V, wipe (((wipe σ vs).set i (some x)).set j (some y)) vs = wipe σ vs) : Ev S n k (tDc (iEnum K ta) (gTup K 2 (gCons (gName i) (gCons (gName j) gNil))) tYes (tVar j) (tVar i) vs) σ G (IsNew G (.dK (plc names 0))) := fun G1 H1 s0 s Q q =>
  h G1 H1 s0 s _ fun ws G2 H2 s2 e => by
    obtain rfl : ws = [.ref p] := e
    refine ⟨p, names.map V.str, rfl, (s0.trans (s2.g.trans (st.sub s2.s))).seq hq, fun D hD => ?_⟩
    have gD := (st.sub s2.s).free hD
    refine ⟨fun t m J => m = names.length - t ∧ t ≤ names.length ∧ Kp S H2 J ∧ S (n + k) G2 J ∧ J D = some (.dK (plc (names.take t) 0)), ⟨names.length, by omega, by omega, kp_new (Kp.refl H2) hD, st.chg s2.s hD s2.s gD, upd_same⟩, ?_⟩
    rintro t m J ⟨rfl, ht, kJ, sJ, dJ⟩
    have w := walk_enum (K := K) (a := p) (xs := names.map V.str)
    have hqJ := (s0.trans (s2.g.trans (st.sub sJ))).seq hq
    have lm : (names.map V.str).length = names.length := List.length_map _
    by_cases hlt : t < names.length
    · refine .inr ⟨w.goes t J (by omega) hqJ, fun J' => names.length - (t + 1) = names.length - (t + 1) ∧ t + 1 ≤ names.length ∧ Kp S H2 J' ∧ S (n + k) G2 J' ∧ J' D = some (.dK (plc (names.take (t + 1)) 0)), fun J' z => ⟨_, by omega, z⟩, fun v J' y => ?_⟩
      obtain ⟨T, x, z, rfl, hT, rfl, ex, ez⟩ := w.yields t J v J' (by omega) hqJ y
      cases ex
      have ez' : z = V.str names[t] := by
        have e2 : (names.map V.str)[t]? = some z := ez
        rw [List.getElem?_map, List.getElem?_eq_getElem hlt] at e2
        exact (Option.some.inj e2).symm
      subst ez'
      have gr := Grow.hid (o := .tup [.int (t : Nat), .str names[t]]) (st.sub sJ) hT
      have sJ' := st.grow sJ gr
      have dJ' := gr.h _ _ dJ
      refine ⟨T, [.int (t : Nat), .str names[t]], rfl, SqT.of upd_same, rfl, _, _, rfl, _, _, rfl, rfl, hw _ _, ?_⟩
      refine tYes_run (iteT ?_)
      refine tVar_run (x := .str names[t]) ?_ (tVar_run (x := .int (t : Nat)) ?_ ⟨_, .inr names[t], rfl, dJ', ?_, rfl, by omega, ?_, ?_, ?_⟩)
      · rw [List.getElem?_set_self (by rw [List.length_set]; exact hlj)]
      · rw [List.getElem?_set_ne (Ne.symm hij), List.getElem?_set_self hli]
      · rw [plc_len, List.length_take]
        exact Nat.lt_of_le_of_lt (Nat.min_le_right _ _) (Nat.lt_of_le_of_lt hl (by decide))
      · exact kp_new (kJ.trans (Kp.of gr.h)) hD
      · exact st.chg s2.s hD sJ' gD
      · rw [upd_same]
        have nm : names[t] ∉ names.take t := fun z => by
          obtain ⟨a, ha, e⟩ := List.getElem_of_mem z
          rw [List.length_take] at ha
          rw [List.getElem_take] at e
          have := (List.getElem_inj hd).mp e
          omega
        rw [putK_new _ (plc_none nm), List.take_succ_eq_append_getElem hlt, plc_snoc, List.length_take, Nat.zero_add, Nat.min_eq_left (by omega)]
    · have ht' : t = names.length := by omega
      subst ht'
      rw [List.take_length] at dJ
      refine .inl ⟨by rw [← lm]; exact w.stops J hqJ, ?_⟩
      have g4 : Same G2 (upd G2 D (.dK (plc names 0))) := fun b o e => by
        rw [upd_ne (ne_of_none e gD)]
        exact e
      refine q (.ref D) (upd G2 D (.dK (plc names 0))) J ⟨s2.g.trans g4, s2.k.trans kJ, st.pub s2.s hD sJ gD dJ, fun b o e => ?_⟩ ⟨D, rfl, (s0.trans s2.g).free gD, upd_same⟩
      by_cases hb : b = D
      · rw [hb]
        exact .inr (s2.k.v D hD)
      · rw [upd_ne hb] at e
        exact s2.n b o e
end
/-! ### texts in parts -/
def EvJ (S : SR) (n : Nat) (ts : List TE) (acc : Str) (σ : L2.St) (G : Hp) (out : Str) : Prop := ∀ G1 H1, Same G G1 → S n G1 H1 → ∀ Q : Str → Hp → Prop, (∀ G2 H2, Stp S n G1 H1 G2 H2 → Q out H2) → tJs ts acc σ H1 Q
section
variable {S : SR} {n : Nat} {ts : List TE} {te : TE} {acc y out : Str} {σ : L2.St} {G : Hp} {i : Int}
theorem ej_nil : EvJ S n [] acc σ G acc := fun G1 H1 s0 s Q q => q G1 H1 (Stp.refl s)
theorem ej_cons (h : Ev S n 0 te σ G (IsV (.str y))) (hl : (acc ++ y).length ≤ sizeLine) (hr : EvJ S n ts (acc ++ y) σ G out) : EvJ S n (te :: ts) acc σ G out := fun G1 H1 s0 s Q q => by
  unfold tJs
  exact h G1 H1 s0 s _ fun v G2 H2 s2 e => ⟨y, e, hl, hr G2 H2 (s0.trans s2.g) s2.s _ fun G3 H3 s3 => q G3 H3 (s2.trans s3)⟩
theorem ev_fmtS (h : Ev S n 0 te σ G (IsV (.str y))) (hl : y.length ≤ sizeLine) : Ev S n 0 (tFmt te) σ G (IsV (.str y)) := fun G1 H1 s0 s Q q => h G1 H1 s0 s _ fun v G2 H2 s2 e => .inl ⟨y, e, hl, q _ G2 H2 s2 rfl⟩
theorem ev_fmtI (h : Ev S n 0 te σ G (IsV (.int i))) (hl : i.natAbs.log2 < 1920) : Ev S n 0 (tFmt te) σ G (IsV (.str (toString i))) := fun G1 H1 s0 s Q q => h G1 H1 s0 s _ fun v G2 H2 s2 e => .inr ⟨i, e, hl, q _ G2 H2 s2 rfl⟩
theorem ev_joined (h : EvJ S n ts Str.empty σ G out) : Ev S n 0 (fun σ H Q => tJs ts Str.empty σ H fun out H1 => Q (.str out) H1) σ G (IsV (.str out)) := fun G1 H1 s0 s Q q => h G1 H1 s0 s _ fun G2 H2 s2 => q _ G2 H2 s2 rfl
end
end L2.DS
/-! What a scale holds. -/
namespace L2.DS
open PySem PySem.Spec PyProof.Rows
def scF : List Str := ["label", "size", "never_at", "still_at", "depth", "worth_names", "worth_places", "product_table", "join_table"]
theorem lk_eq {f : Str} {v : V} {fs : List (Str × V)} : (putF f v fs).lookup f = some v := by rw [lookup_putF, if_pos rfl]
theorem lk_ne {f g : Str} {v : V} {fs : List (Str × V)} (h : ¬ g = f) : (putF f v fs).lookup g = fs.lookup g := by rw [lookup_putF, if_neg h]
theorem lk_off {f g : Str} {v : V} {fs : List (Str × V)} (h : f ∉ scF) (hg : g ∈ scF) : (putF g v fs).lookup f = fs.lookup f := lk_ne fun e => h (by rw [e]; exact hg)
theorem putF_len (f : Str) (v : V) : ∀ fs : List (Str × V), (putF f v fs).length ≤ fs.length + 1
  | [] => Nat.le_refl 1
  | (g, x) :: r => by
    unfold putF
    split
    · show r.length + 1 ≤ r.length + 1 + 1
      omega
    · have := putF_len f v r
      show (putF f v r).length + 1 ≤ r.length + 1 + 1
      omega
/-- a tuple of n things as R tells -/
def IsTN (m : Nat) (R : Nat → HR) : HR := fun v G => ∃ p ys, v = .ref p ∧ G p = some (.tup ys) ∧ ys.length = m ∧ ∀ i y, ys[i]? = some y → R i y G
instance (m) (R : Nat → HR) [∀ i, Mon (R i)] : Mon (IsTN m R) := ⟨fun s ⟨p, ys, e, h, l, r⟩ => ⟨p, ys, e, s _ _ h, l, fun i y z => Mon.mon s (r i y z)⟩⟩
theorem ev_tupLc {S : SR} {n k m : Nat} {te : TE} {σ : L2.St} {G F : Hp} {K : PySem.W.Frag} {R : Nat → HR} [∀ i, Mon (R i)] (st : Stab S) (h : Ev S n k te σ G (IsLN F m R)) : Ev S n (k + 0) (tCB (rTupQ K) (tCons te tNil)) σ G (IsTN m R) :=
  ev_cb (ea_cons h ea_nil) fun vs G2 s2 e => by
    obtain ⟨_, _, rfl, ⟨p, ys, rfl, _, hp, l, r⟩, e⟩ := e
    obtain rfl := (show _ = _ from e)
    intro n G1 H1 s0 s Q q
    refine c_tupN (K := K) st (SqL.of hp) n G1 H1 s0 s Q fun v G3 H3 s3 ⟨t, e, _, ht⟩ => ?_
    exact q v G3 H3 s3 ⟨t, ys, e, ht, l, fun i y z => Mon.mon (s0.trans s3.g) (r i y z)⟩
/-- a table of n rows of n places -/
def Tab (G : Hp) (p : Addr) (n : Nat) (th : Nat → Nat → Int) : Prop := IsTN n (fun i => IsTN n fun j => IsV (.int (th i j))) (.ref p) G
theorem Tab.mono {G G' : Hp} {p : Addr} {n : Nat} {th : Nat → Nat → Int} (h : Tab G p n th) (s : Same G G') : Tab G' p n th := Mon.mon s h
theorem tab_del {G : Hp} {v : V} {n : Nat} {th : Nat → Nat → Int} {x C dx : Addr} {fs : List (Str × V)} (h : IsTN n (fun i => IsTN n fun j => IsV (.int (th i j))) v G) (hx : G x = some (.ins C dx fs)) : IsTN n (fun i => IsTN n fun j => IsV (.int (th i j))) v (del G x) := by
  have k : ∀ {b : Addr} {ys : List V}, G b = some (.tup ys) → del G x b = some (.tup ys) := fun {b ys} e => by
    rw [del_ne (ne_of e hx (fun z => by cases z))]
    exact e
  obtain ⟨p, ys, e, hp, l, r⟩ := h
  refine ⟨p, ys, e, k hp, l, fun i y z => ?_⟩
  obtain ⟨q, zs, e2, hq, l2, r2⟩ := r i y z
  exact ⟨q, zs, e2, k hq, l2, r2⟩
/-- the row a of a table -/
theorem Tab.row {G : Hp} {p : Addr} {n : Nat} {th : Nat → Nat → Int} (h : Tab G p n th) : ∃ ys, G p = some (.tup ys) ∧ ys.length = n ∧ ∀ a < n, ∃ q zs, ys[a]? = some (.ref q) ∧ G q = some (.tup zs) ∧ zs.length = n ∧ ∀ b < n, zs[b]? = some (.int (th a b)) := by
  obtain ⟨p', ys, e, hp, l, r⟩ := h
  cases e
  refine ⟨ys, hp, l, fun a ha => ?_⟩
  have e1 : ys[a]? = some ys[a] := List.getElem?_eq_getElem (by omega)
  obtain ⟨q, zs, e2, hq, l2, r2⟩ := r a _ e1
  refine ⟨q, zs, by rw [e1, e2], hq, l2, fun b hb => ?_⟩
  have e3 : zs[b]? = some zs[b] := List.getElem?_eq_getElem (by omega)
  rw [e3, show zs[b] = V.int (th a b) from r2 b _ e3]
/-- the fields of a scale -/
structure ScIs (label : Str) (names : List Str) (nv sl dep : Int) (th jn : Nat → Nat → Int) (fs : List (Str × V)) (G : Hp) : Prop where
  lab : fs.lookup ("label" : Str) = some (.str label)
  siz : fs.lookup ("size" : Str) = some (.int (names.length : Nat))
  nev : fs.lookup ("never_at" : Str) = some (.int nv)
  sti : fs.lookup ("still_at" : Str) = some (.int sl)
  dep : fs.lookup ("depth" : Str) = some (.int dep)
  nam : ∃ p, fs.lookup ("worth_names" : Str) = some (.ref p) ∧ G p = some (.tup (names.map V.str))
  pla : ∃ p, fs.lookup ("worth_places" : Str) = some (.ref p) ∧ G p = some (.dK (plc names 0))
  pro : ∃ p, fs.lookup ("product_table" : Str) = some (.ref p) ∧ Tab G p names.length th
  joi : ∃ p, fs.lookup ("join_table" : Str) = some (.ref p) ∧ Tab G p names.length jn
theorem ScIs.mono {label : Str} {names : List Str} {nv sl dep : Int} {th jn : Nat → Nat → Int} {fs : List (Str × V)} {G G' : Hp} (h : ScIs label names nv sl dep th jn fs G) (s : Same G G') : ScIs label names nv sl dep th jn fs G' :=
  ⟨h.lab, h.siz, h.nev, h.sti, h.dep, let ⟨p, a, b⟩ := h.nam; ⟨p, a, s _ _ b⟩, let ⟨p, a, b⟩ := h.pla; ⟨p, a, s _ _ b⟩, let ⟨p, a, b⟩ := h.pro; ⟨p, a, b.mono s⟩, let ⟨p, a, b⟩ := h.joi; ⟨p, a, b.mono s⟩⟩
/-- what Scale.__init__ asks and leaves: PT, PJ tell of make_then, make_join -/
def PScI (K : PySem.W.Frag) (C0 : Addr) (PT PJ : List V → Hp → HR → Prop) : Addr → List (Str × V) → List V → Hp → OR → Prop := fun C fs rest G R => C = C0 ∧ ∃ (label : Str) (pn : Addr) (names : List Str) (nv sl dep : Int) (th jn : Nat → Nat → Int),
  rest = [.str label, .ref pn, .int nv, .int sl, .int dep] ∧ SqL K G pn (names.map V.str) ∧ names.length ≤ 100 ∧ names.Nodup ∧ fs.length ≤ 100 ∧ fs.lookup ("make_then" : Str) = none ∧ fs.lookup ("make_join" : Str) = none ∧
  (∀ x dx fs' G', Same G G' → G' x = some (.ins C dx fs') → (∀ f, f ∉ scF → fs'.lookup f = fs.lookup f) → ∀ a b : Nat, a < names.length → b < names.length → PT [.ref x, .int (a : Nat), .int (b : Nat)] G' (IsV (.int (th a b))) ∧ PJ [.ref x, .int (a : Nat), .int (b : Nat)] G' (IsV (.int (jn a b)))) ∧
  R = fun _ _ fs' G' => ScIs label names nv sl dep th jn fs' G' ∧ (∀ f, f ∉ scF → fs'.lookup f = fs.lookup f) ∧ fs'.length ≤ fs.length + 9
/-- tuple([tuple([self.m(a, b) for b in places]) for a in places]) -/
theorem ev_table {S : SR} (st : Stab S) {K : PySem.W.Frag} {x C dx pl : Addr} {fs : List (Str × V)} {nn n : Nat} {m : Str} {PX : List V → Hp → HR → Prop} {th : Nat → Nat → Int} {v1 v2 v3 v4 v5 u7 u8 u9 u10 : Option V} {G : Hp} {E : XK} (hx : G x = some (.ins C dx fs)) (hm : fs.lookup m = none)
    (hp : G pl = some (.lst ((List.range nn).map fun i => V.int (i : Nat)))) (hn : nn ≤ 100000) (hP : ∀ G', Same G G' → ∀ a b : Nat, a < nn → b < nn → PX [.ref x, .int (a : Nat), .int (b : Nat)] G' (IsV (.int (th a b)))) :
    Ev S n 0 (tCB (rTupQ K) (tCons (tLc (iList K (tVar 6)) (gName 9) tYes (tCB (rTupQ K) (tCons (tLc (iList K (tVar 6)) (gName 10) tYes (tMeth C m (spP PX) [] E (tVar 0) (tCons (tVar 9) (tCons (tVar 10) tNil))) [10]) tNil)) [9]) tNil))
      [some (.ref x), v1, v2, v3, v4, v5, some (.ref pl), u7, u8, u9, u10] G (IsTN nn fun i => IsTN nn fun j => IsV (.int (th i j))) := by
  have ll : ((List.range nn).map fun i => V.int (i : Nat)).length = nn := by rw [List.length_map, List.length_range]
  have at_ : ∀ {j : Nat} {v : V}, ((List.range nn).map fun i => V.int (i : Nat))[j]? = some v → j < nn ∧ v = .int (j : Nat) := fun {j v} e => by
    have hj : j < nn := by
      have := (List.getElem?_eq_some_iff.mp e).1
      omega
    rw [List.getElem?_map, List.getElem?_range hj] at e
    exact ⟨hj, (Option.some.inj e).symm⟩
  have h1 := ev_lcL (S := S) (n := n) (k := 0) (c1 := 0) (K := K) (i := 9) (vs := [9]) (el := tCB (rTupQ K) (tCons (tLc (iList K (tVar 6)) (gName 10) tYes (tMeth C m (spP PX) [] E (tVar 0) (tCons (tVar 9) (tCons (tVar 10) tNil))) [10]) tNil))
    (σ := [some (.ref x), v1, v2, v3, v4, v5, some (.ref pl), u7, u8, u9, u10]) (G := G) st (fun i => IsTN nn fun j => IsV (.int (th i j))) (ev_var (i := 6) rfl) (SqL.of hp) (by omega) (fun a y G2 ha s2 => ?_) (fun _ => rfl)
  · have h2 := ev_tupLc (K := K) st h1
    rw [ll] at h2
    exact Ev.wk st h2 (by simp)
  · obtain ⟨la, rfl⟩ := at_ ha
    have h3 := ev_lcL (S := S) (n := n + 0 + 0 * a) (k := 0) (c1 := 0) (K := K) (i := 10) (vs := [10]) (el := tMeth C m (spP PX) [] E (tVar 0) (tCons (tVar 9) (tCons (tVar 10) tNil)))
      (σ := (wipe [some (.ref x), v1, v2, v3, v4, v5, some (.ref pl), u7, u8, u9, u10] [9]).set 9 (some (.int (a : Nat)))) (G := G2) st (fun j => IsV (.int (th a j))) (ev_var (i := 6) rfl) (SqL.of (s2 _ _ hp)) (by omega) (fun b y G3 hb s3 => ?_) (fun _ => rfl)
    · have h4 := ev_tupLc (K := K) st h3
      rw [ll] at h4
      exact Ev.wk st h4 (by simp)
    · obtain ⟨lb, rfl⟩ := at_ hb
      exact ev_meth (RA := IsVs [.int (a : Nat), .int (b : Nat)]) st (ev_var rfl) ((s2.trans s3) _ _ hx) hm (ea_consV (ev_var rfl) (ea_consV (ev_var rfl) ea_nilV)) fun vs G4 s4 e => by
        obtain rfl : vs = _ := e
        exact hP G4 ((s2.trans s3).trans s4) a b la lb
/-- a scale stands at x -/
def ScAt (K : PySem.W.Frag) (label : Str) (names : List Str) (nv sl dep : Int) (th jn : Nat → Nat → Int) (x : Addr) (G : Hp) : Prop := ∃ C dx fs, G x = some (.ins C dx fs) ∧ Cls K C ∧ (∀ f ∈ scF, NoAttr K C f) ∧ ScIs label names nv sl dep th jn fs G
theorem ScAt.mono {K : PySem.W.Frag} {label : Str} {names : List Str} {nv sl dep : Int} {th jn : Nat → Nat → Int} {x : Addr} {G G' : Hp} (h : ScAt K label names nv sl dep th jn x G) (s : Same G G') : ScAt K label names nv sl dep th jn x G' :=
  let ⟨C, dx, fs, a, b, c, d⟩ := h
  ⟨C, dx, fs, s _ _ a, b, c, d.mono s⟩
/-- a product, a join of two places; whether a place lies within another; the name of a place -/
def PAt (K : PySem.W.Frag) (pick : (Nat → Nat → Int) → (Nat → Nat → Int) → Nat → Nat → V) : List V → Hp → HR → Prop := fun vs G R => ∃ (label : Str) (names : List Str) (nv sl dep : Int) (th jn : Nat → Nat → Int) (x : Addr) (a b : Nat), vs = [.ref x, .int (a : Nat), .int (b : Nat)] ∧ ScAt K label names nv sl dep th jn x G ∧ a < names.length ∧ b < names.length ∧ R = IsV (pick th jn a b)
def PName (K : PySem.W.Frag) : List V → Hp → HR → Prop := fun vs G R => ∃ (label : Str) (names : List Str) (nv sl dep : Int) (th jn : Nat → Nat → Int) (x : Addr) (a : Nat) (nm : Str), vs = [.ref x, .int (a : Nat)] ∧ ScAt K label names nv sl dep th jn x G ∧ names[a]? = some nm ∧ R = IsV (.str nm)
/-- the place of a name, or the error U -/
def sp_at_name (K : PySem.W.Frag) (U : Addr) : Sp := fun vs H Q E => ∃ (label : Str) (names : List Str) (nv sl dep : Int) (th jn : Nat → Nat → Int) (x : Addr) (nm : Str) (G : Hp), vs = [.ref x, .str nm] ∧ Same G H ∧ ScAt K label names nv sl dep th jn x G ∧ names.Nodup ∧
  (∀ (j : Nat) H', names[j]? = some nm → Grow G H G H' → Q (.int (j : Nat)) H') ∧ (nm ∉ names → ∀ d H' H2, Grow G H G H' → H' d = none → H2 = upd H' d (.xd [(("name" : Str), .str nm)]) → E (.ref U) (some d) H2)
section
variable {S : SR} {K : PySem.W.Frag} {G : Hp} {σ : L2.St} {n k : Nat} {te : TE} {x C dx p : Addr} {fs : List (Str × V)} {nn : Nat} {th : Nat → Nat → Int} {a b i j : Nat}
theorem ev_tab (st : Stab S) (h : Ev S n k te σ G (IsV (.ref p))) (ht : Tab G p nn th) (ha : a < nn) (hb : b < nn) (e1 : σ[i]? = some (some (.int (a : Nat)))) (e2 : σ[j]? = some (some (.int (b : Nat)))) : Ev S n (k + 0 + 0) (tOp (rIxA K) (tOp (rIxA K) te (tVar i)) (tVar j)) σ G (IsV (.int (th a b))) := by
  obtain ⟨ys, hp, _, hr⟩ := ht.row
  obtain ⟨q, zs, e3, hq, _, hz⟩ := hr a ha
  exact ev_opV (ev_opV h (ev_var e1) (v_ixT st (SqT.of hp) (atI_nat e3))) (ev_var e2) (v_ixT st (SqT.of hq) (atI_nat (hz b hb)))
end
/-- a <= b <= c and the like -/
theorem ev_chain {S : SR} (st : Stab S) {n ka kb kc : Nat} {ta tb tc : TE} {r r' : R2} {σ : L2.St} {G : Hp} {x y z : V} {c d : Bool} (ha : Ev S n ka ta σ G (IsV x)) (hb : Ev S (n + ka) kb tb σ G (IsV y)) (hr : RV S r x y G (IsV (.bl c))) (hc : Ev S (n + ka + kb) kc tc σ G (IsV z)) (hr' : RV S r' y z G (IsV (.bl d))) :
    Ev S n (ka + kb + kc) (tChain r r' ta tb tc) σ G (IsV (.bl (c && d))) := fun G1 H1 s0 s Q q =>
  ha G1 H1 s0 s _ fun v G2 H2 s2 e => hb G2 H2 (s0.trans s2.g) s2.s _ fun w G3 H3 s3 e' => by
    obtain rfl : v = x := e
    obtain rfl : w = y := e'
    refine hr _ G3 H3 ((s0.trans s2.g).trans s3.g) s3.s _ fun u G4 H4 s4 e4 => ⟨c, e4, ?_⟩
    have t := (s2.trans s3).trans s4
    cases c with
    | false => exact iteF (q _ G4 H4 (t.wk st (by omega)) rfl)
    | true =>
      refine iteT (hc G4 H4 (s0.trans t.g) s4.s _ fun u2 G5 H5 s5 e5 => ?_)
      obtain rfl : u2 = z := e5
      exact hr' _ G5 H5 ((s0.trans t.g).trans s5.g) s5.s _ fun u3 G6 H6 s6 e6 => q u3 G6 H6 (((t.trans s5).trans s6).wk st (by omega)) e6
/-- raise C(e) -/
theorem q_raiseX {S : SR} {n k : Nat} {C : Addr} {nm : Str} {W : WX} {t : TA} {u : TS} {σ : L2.St} {G H : Hp} {v : V} {nx bk ct : L2.St → Hp → Prop} {rt : VK} (s : S n G H) (e : EvA S n k t σ G (IsVs [v])) (h : ∀ G' H' d, Stp S (n + k) G H G' H' → H' d = none → W (.ref C) (some d) σ (upd H' d (.xd [(nm, v)]))) :
    tSeq (tRaiseX C nm W t) u (Ends.mk nx rt bk ct) σ H := e G H (Same.refl _) s _ fun _ G' H' s1 ev => ⟨v, ev, fun d hd => h G' H' d s1 hd⟩
/-- d.get(k), the key there or not -/
theorem ev_dget {S : SR} (st : Stab S) {n ka kb : Nat} {td ty : TE} {σ : L2.St} {G : Hp} {a : Addr} {kvs : List (Key × V)} {k : Key} (h : Ev S n ka td σ G (IsV (.ref a))) (ha : G a = some (.dK kvs)) (hy : Ev S (n + ka) kb ty σ G (IsV (kV k))) : Ev S n (ka + kb) (tDGet1 td ty) σ G (IsV ((valV kvs k).getD .non)) := fun G1 H1 s0 s Q q =>
  h G1 H1 s0 s _ fun v G2 H2 s2 e => ⟨a, e, .inl ⟨kvs, .inl (st.sub s2.s _ _ (s2.g _ _ (s0 _ _ ha)))⟩, hy G2 H2 (s0.trans s2.g) s2.s _ fun w G3 H3 s3 e' => by
    obtain rfl : w = kV k := e'
    exact ⟨_, DGet.k (st.sub s3.s _ _ (s3.g _ _ (s2.g _ _ (s0 _ _ ha)))), q _ G3 H3 (s2.trans s3).up rfl⟩⟩
end L2.DS
/-! Scales of contents behind never. -/
namespace L2.DS
open PySem PySem.Spec PyProof.Rows
/-- the place that t.index(y) tells is k -/
def IdxOk (K : PySem.W.Frag) (G : Hp) (pt : Addr) (y : V) (k : Nat) : Prop := ∀ S, Stab S → RC S (rIndexTD K (.ref pt)) [y] G (IsV (.int (k : Nat)))
/-- make_then, make_join of such a scale: B tells what the two contents give, z what never gives -/
def PMk (K : PySem.W.Frag) (C0 : Addr) (m : Str) (B : List V → Hp → HR → Prop) (z : Nat → Nat → Int) : List V → Hp → HR → Prop := fun vs G R => ∃ (x dx pt : Addr) (fs : List (Str × V)) (o : Obj) (ws : List V) (a b : Nat), vs = [.ref x, .int (a : Nat), .int (b : Nat)] ∧
  G x = some (.ins C0 dx fs) ∧ fs.lookup ("contents" : Str) = some (.ref pt) ∧ fs.lookup m = none ∧ G pt = some (.frz o (.tup (.non :: ws))) ∧ o.dict = none ∧
  ((a = 0 ∨ b = 0) → R = IsV (.int (z a b))) ∧ (a ≠ 0 → b ≠ 0 → ∃ va vb Ry k, ws[a - 1]? = some va ∧ ws[b - 1]? = some vb ∧ Mon Ry ∧ (∀ G', Same G G' → B [.ref x, va, vb] G' Ry) ∧ (∀ y G', Same G G' → Ry y G' → IdxOk K G' pt y k) ∧ R = IsV (.int (k : Nat)))
def wnF : List Str := "contents" :: scF
/-- what WithNever.__init__ asks and leaves -/
def PWnI (K : PySem.W.Frag) (C0 : Addr) (PT PJ : List V → Hp → HR → Prop) : Addr → List (Str × V) → List V → Hp → OR → Prop := fun C fs rest G R => C = C0 ∧ ∃ (label : Str) (pc pw : Addr) (ws : List V) (words : List Str) (th jn : Nat → Nat → Int),
  rest = [.str label, .ref pc, .ref pw] ∧ Sq K G pc ws ∧ SqL K G pw (words.map V.str) ∧ words.length ≤ 99 ∧ ws.length ≤ 99 ∧ (("never" : Str) :: words).Nodup ∧ fs.length ≤ 90 ∧ fs.lookup ("make_then" : Str) = none ∧ fs.lookup ("make_join" : Str) = none ∧
  (∀ x dx pt o fs' G', Same G G' → G' x = some (.ins C dx fs') → (∀ f, f ∉ wnF → fs'.lookup f = fs.lookup f) → fs'.lookup ("contents" : Str) = some (.ref pt) → G' pt = some (.frz o (.tup (.non :: ws))) → o.dict = none → ∀ a b : Nat, a < words.length + 1 → b < words.length + 1 →
    PT [.ref x, .int (a : Nat), .int (b : Nat)] G' (IsV (.int (th a b))) ∧ PJ [.ref x, .int (a : Nat), .int (b : Nat)] G' (IsV (.int (jn a b)))) ∧
  R = fun _ _ fs' G' => ScIs label (("never" : Str) :: words) 0 1 1 th jn fs' G' ∧ (∀ f, f ∉ wnF → fs'.lookup f = fs.lookup f) ∧ fs'.length ≤ fs.length + 10
theorem wn_sc {f : Str} (h : f ∉ wnF) : f ∉ scF := fun z => h (List.mem_cons_of_mem _ z)
end L2.DS
/-! Scales of integers. -/
namespace L2.DS
open PySem PySem.Spec PyProof.Rows
def ordS (up : Bool) : Str := if up then "up" else "down"
def cthen (m i j : Int) : Int := if i + j > m then m else i + j
def ceit (up : Bool) (i j : Int) : Int := if decide (j < i) = up then i else j
def cth (m : Int) (a b : Nat) : Int := if a = 0 ∨ b = 0 then 0 else cthen m ((a : Int) - 1) ((b : Int) - 1) + 1
def cjn (up : Bool) (a b : Nat) : Int := if a = 0 ∨ b = 0 then (a : Int) + b else ceit up ((a : Int) - 1) ((b : Int) - 1) + 1
def cword (m i : Int) : Str := if i = m then "many" else toString i
def cwords (m : Nat) : List Str := (List.range (m + 1)).map fun i => cword (m : Nat) (i : Nat)
def clabel (m : Int) (up : Bool) : Str := ((((("(count " : Str) ++ (toString m : Str)) ++ (" " : Str)) ++ ordS up) ++ (")" : Str))
theorem cwords_nodup : ∀ m, m < 63 → (("never" : Str) :: cwords m).Nodup := by decide +kernel
theorem clabel_len : ∀ m : Nat, m < 63 → ∀ up, (clabel (m : Nat) up).length ≤ 100 ∧ (("(count " : Str) ++ (toString ((m : Nat) : Int) : Str)).length ≤ 100 ∧ ((("(count " : Str) ++ (toString ((m : Nat) : Int) : Str)) ++ (" " : Str)).length ≤ 100 ∧ (((("(count " : Str) ++ (toString ((m : Nat) : Int) : Str)) ++ (" " : Str)) ++ ordS up).length ≤ 100 := by decide +kernel
def PCut : List V → Hp → HR → Prop := fun vs _ R => ∃ n m : Int, vs = [.int n, .int m] ∧ R = IsV (.int (if n > m then m else n))
def PNum : List V → Hp → HR → Prop := fun vs _ R => ∃ n m : Int, vs = [.int n, .int m] ∧ n.natAbs.log2 < 1920 ∧ R = IsV (.str (cword m n))
def PBeh (C0 : Addr) : List V → Hp → HR → Prop := fun vs G R => ∃ (x dx : Addr) (fs : List (Str × V)) (m i j : Int), vs = [.ref x, .int i, .int j] ∧ G x = some (.ins C0 dx fs) ∧ fs.lookup ("most" : Str) = some (.int m) ∧ R = IsV (.int (cthen m i j))
def PEit (C0 : Addr) : List V → Hp → HR → Prop := fun vs G R => ∃ (x dx : Addr) (fs : List (Str × V)) (up : Bool) (i j : Int), vs = [.ref x, .int i, .int j] ∧ G x = some (.ins C0 dx fs) ∧ fs.lookup ("rising" : Str) = some (.bl up) ∧ R = IsV (.int (ceit up i j))
/-- what CountScale.__init__ asks and leaves -/
def PCsI (C0 : Addr) : Addr → List (Str × V) → List V → Hp → OR → Prop := fun C fs rest _ R => C = C0 ∧ fs = [] ∧ ∃ (m : Nat) (up : Bool), m < 63 ∧ rest = [.int (m : Nat), .str (ordS up)] ∧ R = fun _ _ fs' G' => ScIs (clabel (m : Nat) up) (("never" : Str) :: cwords m) 0 1 1 (cth (m : Nat)) (cjn up) fs' G' ∧ (∀ f, f ∉ wnF → f ≠ ("most" : Str) → f ≠ ("rising" : Str) → fs'.lookup f = none)
theorem dpAll_ints {K : PySem.W.Frag} {G : Hp} : ∀ l : List Int, DpAll K G (l.map V.int) (l.map PyData.int)
  | [] => .nil
  | i :: r => .cons (.int i) (dpAll_ints r)
theorem lay_ints : ∀ l : List Int, PyData.canLayAll0 (l.map PyData.int) = true
  | [] => by simp [PyData.canLayAll0]
  | i :: r => by simp [PyData.canLayAll0, PyData.canLay0, lay_ints r]
theorem lay_nones (l : List Int) : PyData.canLayAll0 (.none :: l.map PyData.int) = true := by simp [PyData.canLayAll0, PyData.canLay0, lay_ints l]
/-- the place of i in (None, 0, .., m) -/
theorem idx_count {K : PySem.W.Frag} {G : Hp} {pt : Addr} {o : Obj} {m i : Nat} (h : G pt = some (.frz o (.tup (.non :: ((List.range (m + 1)).map fun i => V.int (i : Nat)))))) (hi : i ≤ m) : IdxOk K G pt (.int (i : Nat)) (i + 1) := by
  intro S st
  have e : ((List.range (m + 1)).map fun i => V.int (i : Nat)) = ((List.range (m + 1)).map fun i => ((i : Nat) : Int)).map V.int := by rw [List.map_map]; rfl
  rw [e] at h
  refine c_indexTD (z := .int (i : Nat)) (d := .int (i : Nat)) (ds := .none :: ((List.range (m + 1)).map fun i => ((i : Nat) : Int)).map PyData.int) st (.tup (.inl (.inr ⟨o, h⟩)) (.cons .non (dpAll_ints _))) (.int _) (lay_nones _) (by simp [SeqAt.shaped, PyData.canLay0, PyData.depth]) ?_ (by simp [PyData.eqv]) (fun k z hk hz => ?_)
  · show (((List.range (m + 1)).map fun i => ((i : Nat) : Int)).map PyData.int)[i]? = _
    rw [List.getElem?_map, List.getElem?_map, List.getElem?_range (by omega)]
    rfl
  · cases k with
    | zero =>
      cases hz
      simp [PyData.eqv]
    | succ k =>
      have hz' : (((List.range (m + 1)).map fun i => ((i : Nat) : Int)).map PyData.int)[k]? = some z := hz
      rw [List.getElem?_map, List.getElem?_map, List.getElem?_range (by omega)] at hz'
      cases hz'
      simp [PyData.eqv]
      omega
end L2.DS
/-! isinstance of an own error that has fields; methods whose errors a try takes. -/
namespace L2.DS
open PySem PySem.Spec PySem.Calls PyProof.Rows
open PySem.W (Frag findIn specialIn subIn mroIn hasDictIn takesIn clsIn findObj InstAt)
section
variable {prog : Program} {w : World} {A : Around} {E : Value → Shared → Prop} {s : Shared} {K : Frag} {x D od : Addr} {ox oc : Obj}
theorem data_found {C : Addr} {name : Str} {a g : Value} {dd : Option Obj} (h1 : (clsIn K C).isSome = true) (h2 : findIn K (.ref C) name = some (some a)) (h3 : specialIn K a "__get__" = some (some g)) (h4 : takesIn K a = some true) : findObj K C dd name = some (.bind g a) := by
  obtain ⟨cd, h1⟩ := Option.isSome_iff_exists.mp h1
  unfold findObj
  rw [h1, Option.bind_some, h2, Option.bind_some]
  simp [h3, h4]
/-- x.__class__, x an error of the class D that has a dict or none -/
theorem class_of_err {dd : Option Obj} {Q : Option Value → Shared → Prop} (C : L2.ExcC K D) (X : K.In s.heap) (I : InstAt s.heap x ox D dd) (done : Q (some (.ref D)) { s with toks := s.toks + 1 }) : wpAny (model prog w) A (getAttr? (.ref x) "__class__") Q E s := by
  have cD : (clsIn K D).isSome = true := by
    obtain ⟨cd, hc, _⟩ := PySem.W.any_some C.hd
    rw [hc]
    rfl
  have hfind : findObj K D dd "__class__" = some (.bind (.builtin "getset_descriptor.__get__") (.builtin "object.__class__")) := data_found cD C.ha C.hn C.ht
  obtain ⟨heap0, gens0, drawn0, toks0, os0⟩ := s
  have T0 := I.type (M := model prog w)
  have T1 := PySem.W.looks_findIn (M := model prog w) X C.hg
  have T2 := PySem.W.looks_findIn (M := model prog w) X C.hk
  have T3 := PySem.W.looks_find (M := model prog w) X I hfind
  have isErr : PySem.W.Looks (model prog w) heap0 (isInstance (.ref x) (.type "BaseException")) true := T0.andThen (PySem.W.looks_subIn X C.hs)
  have b0 : (false && onTheHeap (Value.builtin "BaseException.__getattribute__")) = false := rfl
  have b2 : (Value.builtin "BaseException.__getattribute__" == Value.builtin "object.__getattribute__") = false := by decide +kernel
  have b1 : (onTheHeap (Value.ref D) && Value.builtin "BaseException.__getattribute__" == Value.builtin "object.__getattribute__") = false := by
    rw [b2]
    rfl
  unfold getAttr? getAttrBy? getAttrBy
  refine wpAny_bind (wpAny_mkText (wpAny_bind (wpAny_attempt (wpAny_holding (wpAny_bind (T0.at (wpAny_bind (T1.at ?_))))))))
  show wpAny _ _ (if (onTheHeap (Value.ref D) && Value.builtin "BaseException.__getattribute__" == Value.builtin "object.__getattribute__") = true then _ else _) _ _ _
  rw [b1, if_neg Bool.false_ne_true]
  unfold getAttrByItsOwn hookBefore
  refine wpAny_bind ?_
  rw [if_pos (show onTheHeap (Value.ref D) = true by rfl)]
  refine T2.at ?_
  refine wpAny_bind (wpAny_attempt (wpAny_holding ?_))
  unfold callGetattribute
  rw [b0, if_neg Bool.false_ne_true]
  unfold boundAndCalled
  rw [PySem.F.excAttr_ValueError.ga.bind (.ref x)]
  refine wpAny_bind (wpAny_pure ?_)
  show wpAny _ _ (call (.builtin "BaseException.__getattribute__") [.ref x, .str "__class__" toks0]) _ _ _
  refine wpAny_call (codeAny_call_builtin PySem.F.excAttr_ValueError.ga.plain PySem.F.entry_bexc_ga ?_)
  refine @PySem.W.check_slot (model prog w) _ _ ⟨heap0, gens0, drawn0, toks0 + 1, os0⟩ "BaseException.__getattribute__" "BaseException" "__getattribute__" (.ref x) [.str "__class__" toks0] [] _ (by decide +kernel) (by decide +kernel) isErr (PySem.F.args_bexc_ga (.ref x) (.str "__class__" toks0)) ?_
  unfold Builtin.«object.__getattribute__»
  refine wpAny_bind (wpAny_of_eq (a := ((Value.ref x : Value), [Value.str "__class__" toks0])) (by first | rfl | (simp only [slotArgs]; rfl)) ?_)
  refine wpAny_bind (wpAny_pure (wpAny_bind (T0.at (wpAny_bind (T3.at ?_)))))
  show wpAny _ _ (holding [Value.builtin "object.__class__"] (call (.builtin "getset_descriptor.__get__") [.builtin "object.__class__", .ref x, .ref D]) >>= ret) _ _ _
  refine wpAny_bind (wpAny_holding (wpAny_call (PySem.W.class_get (s := ⟨heap0, gens0, drawn0, toks0 + 1, os0⟩) (ox := ox) (od := dd) X I C.hm ?_)))
  refine wpAny_pure ?_
  show wpAny _ _ (handedOut (.ref D)) _ _ _
  rw [PySem.W.handedOut_of (v := .ref D) rfl]
  first
    | exact wpAny_pure (wpAny_pure done)
    | exact wpAny_pure done
    | exact wpAny_pure (wpAny_bind (wpAny_pure (wpAny_pure done)))
/-- isinstance asks such an error so -/
theorem kit_err {dd : Option Obj} (C : L2.ExcC K D) : PySem.W.KitX K (.ref x) (.ref D) (fun h => InstAt h x ox D dd) := by
  obtain ⟨cdD, hcD, _⟩ := PySem.W.any_some C.hd
  have hcls : ∃ c' d' cd' sl', K.lookup D = some (⟨c', d', .cls cd', sl'⟩ : Obj) := by
    unfold clsIn at hcD
    split at hcD
    · rename_i c' d' cd' sl' ho
      exact ⟨c', d', cd', sl', ho⟩
    · cases hcD
  obtain ⟨c', d', cd', sl', ho⟩ := hcls
  refine ⟨fun _ _ _ I => I.type, fun M h X _ => ?_, fun h tp td its n sl X htp => Bool.eq_false_iff.mpr fun z => ?_, fun X I k => class_of_err C X I k⟩
  · intro A' Q' E' s' k q
    unfold isType loadHead
    exact wpAny_bind (wpAny_loadPart (k _ _ (X _ _ ho)) (wpAny_pure q))
  · have e : D = tp := Value.ref.inj (beq_iff_eq.mp z)
    rw [← e] at htp
    cases (X _ _ ho).symm.trans htp
end
end L2.DS
namespace L2.DS
open PySem PySem.Spec PyProof.Rows
/-- isinstance(e, c), e the error with fields that the suite holds -/
def rIsX (K : PySem.W.Frag) (D a : Addr) (d : Option Addr) : List V → Hp → VK → Prop := fun xs H Q => ∃ (c : V) (cv : Value) (b : Bool) (dd : Addr) (fs : List (Str × V)), xs = [.ref a, c] ∧ (∀ u, RelV c u → u = cv) ∧ PySem.W.kitOne K (.ref D) cv = some b ∧ d = some dd ∧ H dd = some (.xd fs) ∧ Q (.bl b) H
theorem call_isX {X : Cx} {K : PySem.W.Frag} {a D : Addr} {cls : Value} {d : Option Addr} {oe : Obj} {pn : List (Addr × Obj)} (hK : X.K = K) (C : ExcC K D) (hz : Zc cls d oe) (hf : ∃ vs, oe.data = .fields vs) :
    CallR (X.suite a ((a, oe) :: pn)) (.builtin "isinstance") (fun xs H Q => cls = .ref D ∧ rIsX K D a d xs H Q) := by
  subst hK
  intro pins s σ H xs us Q I r h
  obtain ⟨ec, c, cv, b, dd, fs, rfl, hcv, e, rfl, hH, q⟩ := h
  subst ec
  cases r with
  | cons rx rr =>
    cases rr with
    | cons rt rr =>
      cases rr
      cases rx
      have ec := hcv _ rt
      subst ec
      obtain ⟨hget, _⟩ := I.pin (a, oe) (List.mem_append.mpr (.inl List.mem_cons_self))
      obtain ⟨vs, hv⟩ := hf
      have hx : ObjOk X.prog X.w H s.heap dd (.xd fs) := I.hok dd _ hH
      obtain ⟨mA, hns, _⟩ := hx
      obtain ⟨od, ho, _⟩ := lookIn_ns hns
      have J : PySem.W.InstAt s.heap a oe D (some od) := ⟨hget, hz.1, by unfold PySem.W.notCls; rw [hv] <;> rfl, by rw [hz.2]; exact ho⟩
      exact PySem.W.kia_one (kit_err C) I.kIn J e (fun z => nomatch z) fun tk => ⟨.bl b, H, I.kept (t' := tk) fun _ _ z => z, rfl, q⟩
/-- o.m(e, ..) whose errors E tells by the slots -/
def tMethS (C : Addr) (m : Str) (sp : Sp) (E : L2.St → XK) (ta : TE) (t : TA) : TE := fun σ H Q => ta σ H fun x H1 => ∃ a dx fs, x = .ref a ∧ H1 a = some (.ins C dx fs) ∧ fs.lookup m = none ∧ t σ H1 fun vs H2 => sp (x :: vs) H2 Q (E σ)
section
variable {X : Cx} {CX : CXT} {k : Nat} {ps : List Str} {sp : Sp} {E : L2.St → XK} {m : Str} {C : Addr} {e o : Expr} {es : List Expr} {t : TA} {ta : TE} {pos apos : Pos}
theorem pe_methSC {pl : Sem Bool} (c : Method X.prog X.w X.K X.mg X.base C m CX k ps [] sp) (hr : Room k X.A) (hx : ∀ σ, PassesAt CX X σ (E σ)) (ho : PE X o ta) (ha : PA X (e :: es) t)
    (hst : starEach (e :: es) X.env = (false, eval e X.env) :: starEach es X.env := by rfl) (hpl : (backTo pos (starEach es X.env)).any (·.1) = false := by rfl)
    (ht : eval (.Call (.Attribute o m apos) (e :: es) [] pos) X.env = (do
      let ov ← eval o X.env
      standAt apos.atName
      let (f, first) ← holding [ov] (getMethod ov m pl)
      callWith pos f first (backTo pos (starEach (e :: es) X.env)) (backToKw pos (keywordEach [] X.env))) := by rfl) :
    PE X (.Call (.Attribute o m apos) (e :: es) [] pos) (tMethS C m sp E ta t) := by
  obtain ⟨f, fd, ds, hC, hm, F, hb, hd⟩ := c
  obtain rfl : ds = [] := by cases hd; rfl
  refine ⟨fun pins s σ H Q I h => ?_⟩
  refine PySem.W.methodCall_KW (pl := pl) (thn (ho.run pins s σ H _ I h) fun u s1 hh => ?_) ht
  obtain ⟨x, H1, I1, rx, a, dx, fs, ex, ea, l, q⟩ := hh
  subst ex
  obtain rfl : u = Value.ref a := rx
  refine getmeth_ok I1 ea hC hm l ?_
  refine PySem.W.callWith_K (first := [.ref a]) (h₀ := X.base) I.ok.mod.kin hm.kp (thn (ha.run pos pins s1 σ H1 _ I1 q) fun us s2 hh => ?_) hst hpl
  obtain ⟨vs, H2, I2, r, q2⟩ := hh
  exact ⟨I2.kIn, run_fnS (us := .ref a :: us) (vs := .ref a :: vs) F hr hb (hx σ) I2 (.cons rfl r) q2⟩
end
section
variable {S : SR} {n k ka kb : Nat} {te : TE} {t : TA} {σ : L2.St} {G H : Hp} {K : PySem.W.Frag} {a dd D C : Addr} {nm m : Str} {v : V} {fs : List (Str × V)} {c : V} {cv : Value} {b : Bool} {u : TS} {nx bk ct : L2.St → Hp → Prop} {rt : VK}
theorem ev_fldX (st : Stab S) (h : Ev S n k te σ G (IsV (.ref a))) (hd : G dd = some (.xd [(nm, v)])) : Ev S n k (tFldX C nm a (.ref C) (some dd) te) σ G (IsV v) := fun G1 H1 s0 s Q q =>
  h G1 H1 s0 s _ fun x G2 H2 s2 e => ⟨e, rfl, dd, v, rfl, st.sub s2.s _ _ (s2.g _ _ (s0 _ _ hd)), q v G2 H2 s2 rfl⟩
theorem c_isX (st : Stab S) (hd : G dd = some (.xd fs)) (hc : ∀ w, RelV c w → w = cv) (hk : PySem.W.kitOne K (.ref D) cv = some b) : RC S (fun xs H Q => (Value.ref D) = .ref D ∧ rIsX K D a (some dd) xs H Q) [.ref a, c] G (IsV (.bl b)) :=
  rc_val (fun H s Q q => ⟨rfl, c, cv, b, dd, fs, rfl, hc, hk, rfl, s _ _ hd, q⟩) st
/-- o.m(..) as a statement, its value dropped, its errors told by E -/
theorem q_dropS {x dx : Addr} {sp : Sp} {E : L2.St → XK} {ws : List V} (st : Stab S) (s : S n G H) (ho : Ev S n ka te σ G (IsV (.ref x))) (hx : G x = some (.ins C dx fs)) (hm : fs.lookup m = none) (h : EvA S (n + ka) kb t σ G (IsVs ws))
    (hp : ∀ G' H', Stp S (n + ka + kb) G H G' H' → sp (.ref x :: ws) H' (fun _ H2 => nx σ H2) (E σ)) : tDrop (tMethS C m sp E te t) (Ends.mk nx rt bk ct) σ H :=
  ho G H (Same.refl _) s _ fun v G1 H1 s1 e => ⟨x, dx, fs, e, st.sub s1.s _ _ (s1.g _ _ hx), hm, h G1 H1 s1.g s1.s _ fun vs G2 H2 s2 e2 => by
    obtain rfl : v = .ref x := e
    obtain rfl : vs = ws := e2
    exact hp G2 H2 (s1.trans s2)⟩
end
/-- an odd name asked of a scale of the class at C -/
def PUnk (K : PySem.W.Frag) (C : Addr) : List V → Hp → HR → Prop := fun vs G R => ∃ (label : Str) (names : List Str) (nv sl dep : Int) (th jn : Nat → Nat → Int) (x dx : Addr) (fs : List (Str × V)) (nm : Str), vs = [.ref x, .str nm] ∧ G x = some (.ins C dx fs) ∧ fs.lookup ("at_name" : Str) = none ∧
  ScAt K label names nv sl dep th jn x G ∧ names.Nodup ∧ nm ∉ names ∧ R = IsV (.bl true)
end L2.DS
/-! Names of worths and odd words. -/
namespace L2.DS
open PySem PySem.Spec PyProof.Rows
/-- what a stretch of statements leaves as it was -/
structure Fr (S : SR) (G H G' H' : Hp) : Prop where
  g : Same G G'
  k : Kp S H H'
  n : ∀ b o, G' b = some o → G b = some o ∨ H b = none
theorem Fr.refl {S : SR} (G H : Hp) : Fr S G H G H := ⟨Same.refl _, Kp.refl _, fun _ _ e => .inl e⟩
theorem Fr.trans {S : SR} {G H G1 H1 G2 H2 : Hp} (a : Fr S G H G1 H1) (b : Fr S G1 H1 G2 H2) : Fr S G H G2 H2 := ⟨a.g.trans b.g, a.k.trans b.k, fun c o e => by
  rcases b.n c o e with z | z
  · exact a.n c o z
  · exact .inr (a.k.v c z)⟩
theorem Fr.kp {S : SR} {G H G1 H1 H2 : Hp} (a : Fr S G H G1 H1) (b : Kp S H1 H2) : Fr S G H G1 H2 := ⟨a.g, a.k.trans b, a.n⟩
theorem Stp.fr {S : SR} {n : Nat} {G H G1 H1 : Hp} (s : Stp S n G H G1 H1) : Fr S G H G1 H1 := ⟨s.g, s.k, s.n⟩
theorem Fr.stp {S : SR} {n : Nat} {G H G1 H1 : Hp} (f : Fr S G H G1 H1) (s : S n G1 H1) : Stp S n G H G1 H1 := ⟨f.g, f.k, s, f.n⟩
def EvO (S : SR) (n k : Nat) (t : TO) (σ : L2.St) (G : Hp) (o : Option Int) : Prop := ∀ G1 H1, Same G G1 → S n G1 H1 → ∀ Q : Option Int → Hp → Prop, (∀ G2 H2, Stp S (n + k) G1 H1 G2 H2 → Q o H2) → t σ H1 Q
section
variable {S : SR} {n k ka kb kc : Nat} {te ta : TE} {t : TA} {tl th : TO} {σ : L2.St} {G : Hp} {K : PySem.W.Frag} {i : Int} {z : Str} {lo hi : Option Int} {p q : Addr} {xs ys : List V}
theorem eo_none : EvO S n 0 tNoPart σ G none := fun G1 H1 s0 s Q q => q G1 H1 (Stp.refl s)
theorem eo_some (h : Ev S n k te σ G (IsV (.int i))) : EvO S n k (tPart te) σ G (some i) := fun G1 H1 s0 s Q q => h G1 H1 s0 s _ fun v G2 H2 s2 e => ⟨i, e, q G2 H2 s2⟩
theorem rv_imp {r : R2} {x y : V} {R R' : HR} (h : RV S r x y G R) (i : ∀ v G', Same G G' → R v G' → R' v G') : RV S r x y G R' := fun n G1 H1 s0 s Q q => h n G1 H1 s0 s Q fun v G2 H2 s2 r => q v G2 H2 s2 (i v G2 (s0.trans s2.g) r)
theorem ev_in {x : V} {r : R2} {b : Bool} (h : Ev S n ka te σ G (IsV x)) (h2 : Ev S (n + ka) kb ta σ G (IsV (.ref p))) (hr : RV S r x (.ref p) G (IsV (.bl b))) : EvT S n (ka + kb) (tTest (tOp r te ta)) σ G (fun c => c = b) := et_testV (ev_opV h h2 hr)
/-- z[lo:hi] -/
theorem ev_slS (h : Ev S n ka te σ G (IsV (.str z))) (hl : z.length ≤ sizeLine) (h1 : EvO S (n + ka) kb tl σ G lo) (h2 : EvO S (n + ka + kb) kc th σ G hi) : Ev S n (ka + kb + kc) (tSl rSlS te tl th) σ G (IsV (.str (cutS z lo hi))) := fun G1 H1 s0 s Q q =>
  h G1 H1 s0 s _ fun v G2 H2 s2 e => h1 G2 H2 (s0.trans s2.g) s2.s _ fun G3 H3 s3 => h2 G3 H3 ((s0.trans s2.g).trans s3.g) s3.s _ fun G4 H4 s4 => ⟨z, e, hl, q _ G4 H4 (by
    have t := (s2.trans s3).trans s4
    rw [show n + (ka + kb + kc) = n + ka + kb + kc by omega]
    exact t) rfl⟩
/-- a + b, two lists -/
theorem v_cat (st : Stab S) (h1 : G p = some (.lst xs)) (h2 : G q = some (.lst ys)) (hl : xs.length + ys.length ≤ 100000) : RV S rAddA (.ref p) (.ref q) G (IsNew G (.lst (xs ++ ys))) := fun n G1 H1 s0 s Q k =>
  .inr ⟨p, q, xs, ys, rfl, rfl, st.sub s _ _ (s0 _ _ h1), st.sub s _ _ (s0 _ _ h2), Nat.le_trans hl (by decide), fun l hl => k (.ref l) _ _ (st.new s hl) ⟨l, rfl, s0.free ((st.sub s).free hl), upd_same⟩⟩
/-- the place of a name that stands there -/
theorem ev_at_name (st : Stab S) {C U x dx : Addr} {fs : List (Str × V)} {label nm : Str} {names : List Str} {nv sl dep : Int} {th' jn : Nat → Nat → Int} {j : Nat} {E : XK} (ho : Ev S n ka ta σ G (IsV (.ref x))) (hx : G x = some (.ins C dx fs)) (hm : fs.lookup ("at_name" : Str) = none) (hS : ScAt K label names nv sl dep th' jn x G)
    (hnd : names.Nodup) (hj : names[j]? = some nm) (h : EvA S (n + ka) kb t σ G (IsVs [.str nm])) : Ev S n (ka + kb) (tMeth C "at_name" (sp_at_name K U) [] E ta t) σ G (IsV (.int (j : Nat))) := fun G1 H1 s0 s Q q =>
  ho G1 H1 s0 s _ fun v G2 H2 s2 e => ⟨x, dx, fs, e, st.sub s2.s _ _ (s2.g _ _ (s0 _ _ hx)), hm, h G2 H2 (s0.trans s2.g) s2.s _ fun vs G3 H3 s3 e2 => by
    obtain rfl : v = .ref x := e
    obtain rfl : vs = [.str nm] := e2
    refine ⟨label, names, nv, sl, dep, th', jn, x, nm, G3, rfl, st.sub s3.s, hS.mono ((s0.trans s2.g).trans s3.g), hnd, fun i H4 hi g => ?_, fun hno => absurd (List.mem_of_getElem? hj) hno⟩
    have e : i = j := by
      have h1 := (List.getElem?_eq_some_iff.mp hi).1
      have h2 := (List.getElem?_eq_some_iff.mp hj).1
      have e1 := (List.getElem?_eq_some_iff.mp hi).2
      have e2 := (List.getElem?_eq_some_iff.mp hj).2
      exact (List.getElem_inj hnd).mp (e1.trans e2.symm)
    subst e
    exact q _ G3 H4 ((s2.trans s3).trans (st.gro s3.s g)).up rfl⟩
end
theorem inV_strs {w : Str} : ∀ {names : List Str}, inV (.str w) (names.map V.str) = decide (w ∈ names)
  | [] => rfl
  | a :: r => by
    have ih := inV_strs (w := w) (names := r)
    unfold inV at ih ⊢
    rw [List.map_cons, List.any_cons, ih]
    show (a == w || decide (w ∈ r)) = _
    by_cases h : a = w
    · subst h
      simp
    · have h2 : ¬ w = a := fun z => h z.symm
      simp [h, h2]
theorem flat_strs (names : List Str) : (names.map V.str).all flatV = true := by
  rw [List.all_map, List.all_eq_true]
  exact fun _ _ => rfl
/-- names and odd words of a scale of the class at C -/
def PWords (K : PySem.W.Frag) (C : Addr) : Addr → List V → Nat → Nat → Hp → HR → Prop := fun st vs _ k G R => ∃ (label : Str) (names : List Str) (nv sl dep : Int) (th jn : Nat → Nat → Int) (x dx pn : Addr) (fs : List (Str × V)), vs = [.ref st, .ref x, .ref pn] ∧ G x = some (.ins C dx fs) ∧ fs.lookup ("at_name" : Str) = none ∧ fs.lookup ("name_at" : Str) = none ∧
  ScAt K label names nv sl dep th jn x G ∧ names.Nodup ∧ SqL K G pn (names.map V.str) ∧ 1 ≤ names.length ∧ names.length ≤ 1000 ∧ (∀ nm ∈ names, nm.length ≤ 1000) ∧ k = 4 ∧ R = IsV (.bl true)
end L2.DS
/-! What the laws' own defs need. -/
namespace L2.DS
open PySem PySem.Spec PyProof.Rows
section
variable {S : SR} {n k : Nat} {te : TE} {tt : TT} {ts t1 t2 u tb : TS} {σ : L2.St} {G H : Hp} {R : HR} {P : Bool → Prop} {x : V} {nx bk ct : L2.St → Hp → Prop} {rt : VK} {i : Nat} {K : PySem.W.Frag}
/-- if, the branches meet again at M -/
theorem q_ifM (st : Stab S) (M : L2.St → Hp → Prop) (s : S n G H) (e : EvT S n k tt σ G P) (rest : ∀ σ' H', M σ' H' → u (Ends.mk nx rt bk ct) σ' H')
    (h1 : ∀ nx', (∀ σ' H', M σ' H' → nx' σ' H') → ∀ H', P true → Kp S H H' → S (n + k) G H' → t1 (Ends.mk nx' rt bk ct) σ H') (h2 : ∀ nx', (∀ σ' H', M σ' H' → nx' σ' H') → ∀ H', P false → Kp S H H' → S (n + k) G H' → t2 (Ends.mk nx' rt bk ct) σ H') :
    tSeq (tIfS tt t1 t2) u (Ends.mk nx rt bk ct) σ H := q_if st s e (h1 _ rest) (h2 _ rest)
/-- for x in range(m), m as Pm tells -/
theorem q_forRI {Pm : Int → Prop} {ta : TA} (st : Stab S) (s : S n G H) (e : EvA S n k ta σ G (RCons (IsI Pm) RNil)) (c : Nat → Nat) (P : Nat → L2.St → Hp → Hp → Prop) (hc : c 0 = 0) (hm : ∀ m, Pm m → 0 ≤ m ∧ m ≤ 100000) (h0 : ∀ H', Kp S H H' → S (n + k) G H' → P 0 σ G H')
    (hs : ∀ (j : Nat) σ' G' H', Same G G' → S (n + k + c j) G' H' → P j σ' G' H' →
      tb (Ends.mk (fun τ J => ∃ G2, Same G G2 ∧ S (n + k + c (j + 1)) G2 J ∧ P (j + 1) τ G2 J) rt (u (Ends.mk nx rt bk ct)) (fun τ J => ∃ G2, Same G G2 ∧ S (n + k + c (j + 1)) G2 J ∧ P (j + 1) τ G2 J)) (σ'.set i (some (.int j))) H')
    (hd : ∀ m σ' G' H', Same G G' → S (n + k + c m) G' H' → P m σ' G' H' → u (Ends.mk nx rt bk ct) σ' H') : tSeq (tFor (iRng1 ta) (gName i) tb) u (Ends.mk nx rt bk ct) σ H := by
  refine e G H (Same.refl _) s _ fun v G1 H1 s1 ev => ?_
  obtain ⟨_, _, rfl, ⟨m, pm, rfl⟩, ev⟩ := ev
  obtain rfl := (show _ = _ from ev)
  obtain ⟨m0, m1⟩ := hm m pm
  have hs2 := st.anti s s1.s s1.g
  refine ⟨m, rfl, by omega, by omega, for_range (lo := 0) (n := m.toNat) (fun j τ J => ∃ G2, Same G G2 ∧ S (n + k + c j) G2 J ∧ P j τ G2 J) ⟨G, Same.refl _, by rw [hc]; exact hs2, h0 H1 s1.k hs2⟩ (fun j τ J hx ⟨G2, a, b, d⟩ => ?_) fun τ J ⟨G2, a, b, d⟩ => hd _ τ G2 J a b d⟩
  show tb _ (τ.set i (some (.int (0 + j)))) J
  rw [Int.zero_add]
  exact hs j τ G2 J a b d
/-- state = _law_source(script) -/
theorem q_source {p : Addr} {ns : List Int} {t : TA} {E : XK} {H0 : Hp} (h : ∀ Q : List V → Hp → Prop, Q [.ref p] H0 → t σ H0 Q) (hq : SqL K H0 p (ns.map V.int)) (hl : ns.length ≤ 100000)
    (hr : ∀ sa cl H', Src sa cl 0 H0 H' → u (Ends.mk nx rt bk ct) (σ.set i (some (.ref sa))) H') : tSeq (tAsg (tCall (sp_source K) [] E t) (gName i)) u (Ends.mk nx rt bk ct) σ H0 :=
  h _ ⟨p, ns, rfl, hq, hl, fun sa cl H' s a b c => hr sa cl H' ⟨s, a, b, c⟩⟩
theorem et_andL {ka kb : Nat} {tu : TT} {a : Bool} {P2 : Bool → Prop} (st : Stab S) (h1 : EvT S n ka tt σ G (fun c => c = a)) (h2 : a = true → EvT S (n + ka) kb tu σ G P2) : EvT S n (ka + kb) (tAnd tt tu) σ G (fun c => c = true → a = true) := fun G1 H1 s0 s Q q =>
  h1 G1 H1 s0 s _ fun c G2 H2 s2 e => by
    subst e
    cases c with
    | true => exact iteT (h2 rfl G2 H2 (s0.trans s2.g) s2.s Q fun d G3 H3 s3 e => q d G3 H3 (s2.trans s3).up fun _ => rfl)
    | false => exact iteF (q false G2 H2 (s2.wk st (by omega)) fun z => by cases z)
theorem et_any {ka kb : Nat} {ta tb : TE} {r : R2} {Ra Rb : HR} [Mon Ra] (st : Stab S) (ha : Ev S n ka ta σ G Ra) (hb : Ev S (n + ka) kb tb σ G Rb) (hr : ∀ x y G', Same G G' → Ra x G' → Rb y G' → ∃ b, RV S r x y G' (IsV (.bl b))) : EvT S n (ka + kb) (tTest (tOp r ta tb)) σ G (fun _ => True) :=
  et_test (P := fun _ => True) (ev_op ha hb fun x y G' s rx ry => by
    obtain ⟨b, hb⟩ := hr x y G' s rx ry
    exact fun n G1 H1 s0 s Q q => hb n G1 H1 s0 s Q fun v G2 H2 s2 e => q v G2 H2 s2 ⟨b, trivial, e⟩)
theorem ev_impI {P1 P2 : Int → Prop} (h : Ev S n k te σ G (IsI P1)) (i : ∀ j, P1 j → P2 j) : Ev S n k te σ G (IsI P2) := h.imp fun v G' s ⟨j, p, e⟩ => ⟨j, i j p, e⟩
end
/-- flat values as data -/
def dOf : V → PyData
  | .bl b => .bool b | .int i => .int i | .str s => .str s | _ => .none
theorem dp_flat {K : PySem.W.Frag} {G : Hp} : ∀ {vs : List V}, vs.all flatV = true → DpAll K G vs (vs.map dOf)
  | [], _ => .nil
  | v :: r, h => by
    rw [List.all_cons, Bool.and_eq_true] at h
    refine .cons ?_ (dp_flat h.2)
    cases v with
    | non => exact .non
    | bl b => exact .bl b
    | int i => exact .int i
    | str x => exact .str x
    | _ => exact absurd h.1 (by simp [flatV])
theorem sml_flat (v : V) : Sml (dOf v) := by
  cases v <;> first | exact .non | exact .bl _ | exact .int _ | exact .str _
theorem depth_flat (v : V) : PyData.depth (dOf v) = 0 := by
  cases v <;> rfl
theorem depth_flats : ∀ vs : List V, PyData.depthAll (vs.map dOf) = 0
  | [] => rfl
  | v :: r => by
    show max (PyData.depth (dOf v)) (PyData.depthAll (r.map dOf)) = 0
    rw [depth_flat, depth_flats r]
    rfl
/-- two lists of the same flat values are alike -/
theorem like_flat {K : PySem.W.Frag} {G : Hp} {N : Nat} {p q : Addr} {vs : List V} (hp : SqL K G p vs) (hq : SqL K G q vs) (hf : vs.all flatV = true) (hl : vs.length ≤ 100000) (hN : 2 ≤ N) : PLike K N [.ref p, .ref q] G (IsV (.bl true)) := by
  refine ⟨.ref p, .ref q, .list (vs.map dOf), rfl, ?_, .lst (by rw [List.length_map]; exact hl) fun d hd => ?_, .lst hp (dp_flat hf), .lst hq (dp_flat hf), rfl⟩
  · show PyData.depthAll (vs.map dOf) + 1 < N
    rw [depth_flats]
    omega
  · obtain ⟨v, _, rfl⟩ := List.mem_map.mp hd
    exact sml_flat v
section
variable {S : SR} {n k : Nat} {te : TE} {σ : L2.St} {G : Hp} {K : PySem.W.Frag} {i : Nat} {E : XK} {ws vs : List V} {t : TA} {p : Addr}
/-- not like(x, [..]), x a list of the same values -/
theorem et_notlike (st : Stab S) {N : Nat} (hv : σ[i]? = some (some (.ref p))) (hp : SqL K G p vs) (h : EvA S n k t σ G (IsVs ws)) (e : vs = ws) (hf : vs.all flatV = true) (hl : vs.length ≤ 100000) (hN : 2 ≤ N) :
    EvT S n (0 + (k + 0)) (tNot (tB (tCall (spP (PLike K N)) [] E (tCons (tVar i) (tCons (tLst t) tNil))))) σ G (fun c => c = false) :=
  et_not (a := true) (et_B (ev_call st (ea_cons (ev_var hv) (ea_cons (ev_lstN st h (by rw [← e]; exact hl)) ea_nil)) fun us G2 s2 r => by
    obtain ⟨_, _, rfl, e1, _, _, rfl, ⟨q, rfl, _, g⟩, e3⟩ := r
    obtain rfl := (show _ = _ from e1)
    obtain rfl := (show _ = _ from e3)
    subst e
    exact like_flat (s2.seq hp) (SqL.of g) hf hl hN))
end
theorem clabel_add : ∀ m : Nat, m < 63 → ∀ up, ("(count " : Str).length + (toString ((m : Nat) : Int) : Str).length ≤ 100 ∧ (("(count " : Str) ++ (toString ((m : Nat) : Int) : Str)).length + (" " : Str).length ≤ 100 ∧ ((("(count " : Str) ++ (toString ((m : Nat) : Int) : Str)) ++ (" " : Str)).length + (ordS up).length ≤ 100 ∧
  (((("(count " : Str) ++ (toString ((m : Nat) : Int) : Str)) ++ (" " : Str)) ++ ordS up).length + (")" : Str).length ≤ 100 := by decide +kernel
/-- a scale of integers stands at x, of the class at C -/
def CsAt (C x : Addr) (t : Nat) (up : Bool) (G : Hp) : Prop := ∃ dx fs, G x = some (.ins C dx fs) ∧ ScIs (clabel (t : Nat) up) (("never" : Str) :: cwords t) 0 1 1 (cth (t : Nat)) (cjn up) fs G ∧ ∀ f, f ∉ wnF → f ≠ ("most" : Str) → f ≠ ("rising" : Str) → fs.lookup f = none
theorem CsAt.mono {C x : Addr} {t : Nat} {up : Bool} {G G' : Hp} (h : CsAt C x t up G) (s : Same G G') : CsAt C x t up G' :=
  let ⟨dx, fs, a, b, c⟩ := h
  ⟨dx, fs, s _ _ a, b.mono s, c⟩
abbrev CsR (t : Nat) (up : Bool) : OR := fun _ _ fs' G' => ScIs (clabel (t : Nat) up) (("never" : Str) :: cwords t) 0 1 1 (cth (t : Nat)) (cjn up) fs' G' ∧ (∀ f, f ∉ wnF → f ≠ ("most" : Str) → f ≠ ("rising" : Str) → fs'.lookup f = none)
theorem CsAt.of {C : Addr} {t : Nat} {up : Bool} {v : V} {G : Hp} (h : IsO C (fun _ _ fs' G' => ScIs (clabel (t : Nat) up) (("never" : Str) :: cwords t) 0 1 1 (cth (t : Nat)) (cjn up) fs' G' ∧ (∀ f, f ∉ wnF → f ≠ ("most" : Str) → f ≠ ("rising" : Str) → fs'.lookup f = none)) v G) : ∃ x, v = .ref x ∧ CsAt C x t up G := by
  obtain ⟨x, dx, fs, G', rfl, gx, s, a, b⟩ := h
  have s' : Same G' G := fun c o e => s c o (by rw [upd_ne (ne_of_none e gx)]; exact e)
  exact ⟨x, rfl, dx, fs, s _ _ upd_same, a.mono s', b⟩
theorem CsAt.sc {K : PySem.W.Frag} {C x : Addr} {t : Nat} {up : Bool} {G : Hp} (h : CsAt C x t up G) (hC : Cls K C) (hN : ∀ f ∈ scF, NoAttr K C f) : ScAt K (clabel (t : Nat) up) (("never" : Str) :: cwords t) 0 1 1 (cth (t : Nat)) (cjn up) x G :=
  let ⟨dx, fs, a, b, _⟩ := h
  ⟨C, dx, fs, a, hC, hN, b⟩
theorem cwords_short : ∀ t, t < 63 → ∀ nm ∈ (("never" : Str) :: cwords t), nm.length ≤ 10 := by decide +kernel
theorem cwords_is (t : Nat) : (V.str ("never" : Str) :: ((List.range t).map fun i => V.str (toString ((i : Nat) : Int) : Str))) ++ [V.str ("many" : Str)] = (("never" : Str) :: cwords t).map V.str := by
  unfold cwords
  rw [List.range_succ, List.map_append, List.map_cons, List.map_append, List.map_map]
  show _ :: (_ ++ _) = _ :: (_ ++ [V.str (cword (t : Nat) (t : Nat))])
  have e : cword (t : Nat) (t : Nat) = "many" := if_pos rfl
  rw [e]
  congr 2
  refine List.map_congr_left fun i hi => ?_
  have := List.mem_range.mp hi
  show _ = V.str (cword (t : Nat) (i : Nat))
  have e : cword (t : Nat) (i : Nat) = toString ((i : Nat) : Int) := if_neg (by omega)
  rw [e]
/-- what each law's own def promises -/
def sp_law (K : PySem.W.Frag) : Sp := fun vs H Q _ => ∃ (p : Addr) (ns : List Int), vs = [.ref p] ∧ SqL K H p (ns.map V.int) ∧ ns.length ≤ 63 ∧ ∀ H', Q (.bl true) H'
end L2.DS
/-! From what the top has written to what the proofs ask. -/
namespace L2.DS
open PySem PySem.Spec PyProof.Rows
theorem mk_funD {K : PySem.W.Frag} {x qual : Str} {st : Stmt} {f T : Addr} {oc : Value} {od an dT : Option Addr} {osl slT : Array (Option Value)} {kV doc pm cdv ct cT : Value} {v : V} {u : Value} {n : Nat}
    (l : K.lookup f = some ⟨oc, od, .func (PySem.W.fnOf x qual (defArgs st) (defBody st) (defScope st) (.ref T) kV doc pm an cdv ct), osl⟩) (c : PySem.W.codeIn K cdv qual = true) (k : PySem.W.keepIn K (.ref f) = true) (lT : K.lookup T = some ⟨cT, dT, .seq [u].toArray n, slT⟩) (r : RelV v u) :
    FunD K x qual (defArgs st) (defBody st) (defScope st) [v] [] f (PySem.W.fnOf x qual (defArgs st) (defBody st) (defScope st) (.ref T) kV doc pm an cdv ct) :=
  ⟨⟨oc, od, .ref T, kV, doc, pm, an, cdv, ct, osl, rfl, l, c, .inr ⟨by simp, T, _, [u], n, rfl, lT, rfl, .cons r .nil⟩, .inl rfl⟩, k⟩
section
variable {P : Program} {K : PySem.W.Frag} {x qual : Str} {st : Stmt} {f cda cc D : Addr} {oc : Value} {od an oc1 oc2 oD : Option Addr} {osl sl1 sl2 slD : Array (Option Value)} {kV doc pm ct c1 c2 cD : Value} {vs : Array Value} {file : Str} {tf : Tok} {cd : ClassData}
theorem mk_funS (l : K.lookup f = some ⟨oc, od, .func (PySem.W.fnX x qual (defArgs st) (defBody st) (defScope st) [("__class__", cc)] .none kV doc pm an (.ref cda) ct), osl⟩) (c : PySem.W.codeIn K (.ref cda) qual = true) (lc : K.lookup cda = some ⟨c1, oc1, .fields vs, sl1⟩) (hv : vs[2]? = some (.str file tf)) (hf : ((P.main.file : Str) == file) = true)
    (lx : K.lookup cc = some ⟨c2, oc2, .cell (some (.ref D)), sl2⟩) (lD : K.lookup D = some ⟨cD, oD, .cls cd, slD⟩) (k : PySem.W.keepIn K (.ref f) = true) (fi : PySem.W.fnIn K f = true) (ty : PySem.W.typeIn K (.ref f) = some (.type "function")) {kws : List (Str × V)} (hk : KwdV K kV kws) :
    FunSD P K x qual st [] kws f (PySem.W.fnX x qual (defArgs st) (defBody st) (defScope st) [("__class__", cc)] .none kV doc pm an (.ref cda) ct) D :=
  ⟨⟨oc, od, .none, kV, doc, pm, an, cda, ct, osl, cc, _, vs, file, tf, c2, oc2, sl2, rfl, l, c, lc, rfl, hv, hf, lx, .inl ⟨rfl, rfl⟩, hk⟩, ⟨_, _, lD, rfl⟩, k, fi, ty⟩
theorem mk_exi {mg : Str → Option Value} {nm txt : Str} {B newId initId : String} {C : Addr} (hc : ExC K C B newId) (iC : PySem.W.findIn K (.ref C) "__init__" = some (some (.ref f))) (tI : PySem.W.typeIn K (.ref f) = some (.type "function")) (noN : PySem.W.findIn K (.ref C) nm = some none) (supI : PySem.W.ks_superIn K C C "__init__" = some (some (.builtin initId)))
    (mroC : PySem.W.mroIn K C (.ref C) = some true) (mgS : mg "super" = none) (opq : PySem.W.nsIn K cStatics "thirdparty.any" = some none) (top0 : (P.main.scope.names.lookup ("super" : Str)).isSome = false)
    (l : K.lookup f = some ⟨oc, od, .func (PySem.W.fnX "__init__" qual (defArgs st) (defBody st) (defScope st) [("__class__", cc)] .none .none doc pm an (.ref cda) ct), osl⟩) (c : PySem.W.codeIn K (.ref cda) qual = true) (lc : K.lookup cda = some ⟨c1, oc1, .fields vs, sl1⟩) (hv : vs[2]? = some (.str file tf)) (hf : ((P.main.file : Str) == file) = true)
    (lx : K.lookup cc = some ⟨c2, oc2, .cell (some (.ref C)), sl2⟩)
    (hb : ∃ txt j a b c d e f g h i k, defBody st = xBody nm txt j a b c d e f g h i k ∧ (∀ env, xPlain txt j a b c d e env) ∧ (∀ env l, swapsWith (.Call (.Attribute (.Call (.Name "super" a) [] [] b) "__init__" c) [.Constant (.str txt) j d] [] e) none l env = pure false) ∧ ∀ env l, swapsWith (.Name nm i) (some (.Attribute (.Name "self" g) nm h)) l env = pure false)
    (hs : (defScope st).kind = .function ∧ (defScope st).isCoroutine = false ∧ (defScope st).isGenerator = false ∧ (∀ x ∈ (defScope st).names, x.2 ≠ NameKind.cell))
    (hn : (defScope st).names.lookup ("self" : Str) = some .local ∧ (defScope st).names.lookup nm = some .local ∧ (defScope st).names.lookup ("__class__" : Str) = some .free ∧ (defScope st).names.lookup ("super" : Str) = some .globalImplicit)
    (ha : ∃ a, ((defArgs st).posonlyargs ++ (defArgs st).args).head? = some a ∧ a.arg = ("self" : Str)) (h1 : nm ≠ ("self" : Str)) (h2 : (nm == ("__debug__" : Str)) = false)
    (hB : ∀ (fd : FuncData) (s : Shared) (x v : Value), fd.params = defArgs st → fd.scope = defScope st → fd.defaults = .none → fd.kwdefaults = .none → BindsTo s fd ⟨[x, v], []⟩ [("self", x), (nm, v)]) : ExI P K mg C f nm B newId initId :=
  ⟨hc, iC, tI, noN, supI, mroC, mgS, opq, top0, st, qual, oc, od, doc, pm, an, cda, ct, osl, cc, _, vs, file, tf, _, l, c, lc, rfl, hv, hf, lx, rfl, hb, hs, hn, ha, h1, h2, hB⟩
end
theorem kwd_none {K : PySem.W.Frag} {kV : Value} : KwdV K kV [] := .inl rfl
theorem kwd_one {K : PySem.W.Frag} {D : Addr} {x : Str} {v : V} {u : Value} (h : PySem.W.nsIn K D x = some (some u)) (r : RelV v u) : KwdV K (.ref D) [(x, v)] := .inr ⟨D, rfl, fun q hq => by
  obtain rfl : q = (x, v) := by simpa using hq
  exact ⟨u, h, r⟩⟩
end L2.DS
/-! Own errors as values. -/
namespace L2.DS
open PySem PySem.Spec PyProof.Rows
/-- an error of the class at C stands at e, its dict at d (or none) -/
def ErO (C : Addr) (d : Option Addr) (e : Addr) : HO := .ext fun h => ∃ (oe : Obj) (vs : Array Value), h.get? e = some oe ∧ Zc (.ref C) d oe ∧ oe.data = .fields vs
theorem erO_ok {P : Program} {w : World} {H : Hp} {h : Heap} {C e : Addr} {d : Option Addr} {oe : Obj} {vs : Array Value} (a : h.get? e = some oe) (z : Zc (.ref C) d oe) (f : oe.data = .fields vs) : ObjOk P w H h e (ErO C d e) :=
  ⟨⟨oe, vs, a, z, f⟩, ⟨oe, a⟩, fun _ _ ⟨o, v, q, r⟩ k => ⟨o, v, k o q, r⟩⟩
section
variable {X : Cx} {C fI : Addr} {nm : Str} {B newId initId : String} {bmB : List Value}
/-- C(e) as a value -/
def tErX (C : Addr) (nm : Str) (ta : TA) : TE := fun σ H Q => ta σ H fun vs H1 => ∃ v, vs = [v] ∧ ∀ d e, H1 d = none → H1 e = none → d ≠ e → Q (.ref e) (upd (upd H1 d (.xd [(nm, v)])) e (ErO C (some d) e))
theorem pe_erX {x : Str} {a : Expr} {ta : TA} {p pos : Pos} {k : Nat} (b : EB B newId initId) (T : ExI X.prog X.K X.mg C fI nm B newId initId) (hm : X.mg x = some (.ref C)) (hr : Room k X.A) (ha : PA X [a] ta) (hg : Gl X x := by rfl)
    (hdb : (x == ("__debug__" : Str)) = false := by decide) (he : starEach (a :: []) X.env = (false, eval a X.env) :: starEach [] X.env := by rfl) (hpl : (backTo pos (starEach [] X.env)).any (·.1) = false := by rfl) :
    PE X (.Call (.Name x p) [a] [] pos) (tErX C nm ta) := by
  refine ⟨fun pins s σ H Q I h => ?_⟩
  refine wpAny_Call_Name_kw (ld_glob I hg hm ?_ hdb)
  refine PySem.W.callWith_K (h₀ := X.base) I.ok.mod.kin T.cls.kC (thn (ha.run pos pins s σ H _ I h) fun us s1 hh => ?_) he hpl
  obtain ⟨vs, H1, I1, r1, v, ev, q1⟩ := hh
  subst ev
  refine ⟨I1.kIn, ?_⟩
  cases r1 with
  | cons rv rn =>
    rename_i v' us'
    cases rn
    show wpAny _ _ (call (.ref C) [v']) _ _ _
    obtain ⟨mb, b1, b2⟩ := I1.mod.blt
    have bk := I1.bk
    have hlim := I1.nolimit
    have hk := I1.kIn
    have gg := I1.mod.glob.keeps bk
    have bb := b1.keeps bk
    obtain ⟨hp, g, dr, tk, os⟩ := s1
    refine wpAny_call (exi_made b T hk hlim gg bb b2 (by have := hr.dp; omega) fun h' tk' e d M => ?_)
    obtain ⟨t1, hoe⟩ := M.obj
    have hns := M.ns
    obtain ⟨G', g1, g2⟩ := restrict h' fun y => decide (y ≠ e)
    have gk : ∀ y, y ≠ e → G'.get? y = h'.get? y := fun y hb => g1 y (decide_eq_true hb)
    have ge : G'.get? e = none := g2 e (by simp)
    have old : ∀ y o, hp.get? y = some o → G'.get? y = some o := fun y o q => (gk y (Nat.ne_of_lt (Nat.lt_of_lt_of_le (Heap.lt_size q) M.new))).trans (M.keep y o q)
    have ob : ObjOk X.prog X.w (upd H1 d (.xd [(nm, v)])) G' d (.xd [(nm, v)]) := ⟨_, hns.at (fun o q => (gk d M.dne).trans q), fun f => relO_one rv nm f⟩
    have J : Inv X pins σ (upd H1 d (.xd [(nm, v)])) ⟨G', g, dr, tk', os⟩ := I1.laid (t' := tk') old M.dbig ob
    have hd1 := I1.hok.fresh M.dbig
    have he1 := I1.hok.fresh M.new
    have he2 : upd H1 d (.xd [(nm, v)]) e = none := by rw [upd_ne (Ne.symm M.dne)]; exact he1
    have J2 : Inv X pins σ (upd (upd H1 d (.xd [(nm, v)])) e (ErO C (some d) e)) ⟨h', g, dr, tk', os⟩ := J.laidN (h' := h') (t' := tk') (fun y o q => by
      by_cases hb : y = e
      · rw [hb] at q
        cases ge.symm.trans q
      · exact (gk y hb).symm.trans q) ge he2 (erO_ok hoe ⟨rfl, rfl⟩ rfl)
    exact ⟨.ref e, _, J2, rfl, q1 d e hd1 he1 M.dne⟩
/-- C() as a value, C without an own __init__ -/
def tEr0 (C : Addr) : TE := fun _ H Q => ∀ e, H e = none → Q (.ref e) (upd H e (ErO C none e))
theorem pe_er0 {x : Str} {p pos : Pos} (F : ExcBaseFacts B newId initId bmB) (q : PySem.W.excIn X.K C bmB newId = true) (gC : X.mg x = some (.ref C)) (kC : PySem.W.keepIn X.K (.ref C) = true) (hg : Gl X x := by rfl) (hdb : (x == ("__debug__" : Str)) = false := by decide) :
    PE X (.Call (.Name x p) [] [] pos) (tEr0 C) := by
  refine ⟨fun pins s σ H Q I h => ?_⟩
  refine wpAny_Call_Name_kw (ld_glob I hg gC ?_ hdb)
  refine PySem.W.callWith_K0 I.kIn kC ?_
  show wpAny _ _ (call (.ref C) []) _ _ _
  obtain ⟨bm, N, nm, qn, bs, hdct, sn, sub, ab, col, dd, k0, k1, k2, k3, k5, mN, hC, hN, hni, T⟩ := exc_obj I.kIn q
  refine wpAny_call_exc_subT F T hC hN hni (fun h' a hm => ?_) (Nat.zero_le _)
  have hn : H a = none := I.hok.gone hm.new
  obtain ⟨t, ht, _, _⟩ := hm.there
  exact ⟨.ref a, upd H a (ErO C none a), I.laidN hm.keeps hm.new hn (erO_ok ht ⟨rfl, rfl⟩ rfl), rfl, h a hn⟩
end
/-- isinstance(e, c), e an error that stands as a value -/
def rIsEr (K : PySem.W.Frag) : List V → Hp → VK → Prop := fun xs H Q => ∃ (e C : Addr) (d : Option Addr) (c : V) (cv : Value) (b : Bool), xs = [.ref e, c] ∧ H e = some (ErO C d e) ∧ (d = none ∨ ∃ dd fs, d = some dd ∧ H dd = some (.xd fs)) ∧ ExcC K C ∧ (∀ u, RelV c u → u = cv) ∧ PySem.W.kitOne K (.ref C) cv = some b ∧ Q (.bl b) H
theorem call_isEr {X : Cx} (K : PySem.W.Frag) (hK : X.K = K := by rfl) : CallR X (.builtin "isinstance") (rIsEr K) := by
  subst hK
  intro pins s σ H xs us Q I r h
  obtain ⟨e, C, d, c, cv, b, rfl, hE, hD, T, hcv, hk, q⟩ := h
  cases r with
  | cons rx rr =>
    cases rr with
    | cons rt rr =>
      cases rr
      cases rx
      have ec := hcv _ rt
      subst ec
      obtain ⟨⟨oe, vs, hget, hz, hv⟩, _, _⟩ := I.hok e _ hE
      have no : PySem.W.notCls oe = true := by unfold PySem.W.notCls; rw [hv] <;> rfl
      obtain ⟨od, J⟩ : ∃ od, PySem.W.InstAt s.heap e oe C od := by
        rcases hD with rfl | ⟨dd, fs, rfl, hH⟩
        · exact ⟨none, hget, hz.1, no, by rw [hz.2]; trivial⟩
        · have hx : ObjOk X.prog X.w H s.heap dd (.xd fs) := I.hok dd _ hH
          obtain ⟨mA, hns, _⟩ := hx
          obtain ⟨od, ho, _⟩ := lookIn_ns hns
          exact ⟨some od, hget, hz.1, no, by rw [hz.2]; exact ho⟩
      exact PySem.W.kia_one (kit_err T) I.kIn J hk (fun z => nomatch z) fun tk => ⟨.bl b, H, I.kept (t' := tk) fun _ _ z => z, rfl, q⟩
/-- e.f, e such an error -/
def tFldE (K : PySem.W.Frag) (nm : Str) (te : TE) : TE := fun σ H Q => te σ H fun x H1 => ∃ (e C dd : Addr) (v : V), x = .ref e ∧ H1 e = some (ErO C (some dd) e) ∧ H1 dd = some (.xd [(nm, v)]) ∧ ExG K C nm ∧ Q v H1
theorem pe_fldE {X : Cx} (K : PySem.W.Frag) {nm : Str} {e : Expr} {te : TE} {pos : Pos} (he : PE X e te) (hb : attributeBase e nm X.env (eval e X.env) = eval e X.env := by rfl) (hK : X.K = K := by rfl) : PE X (.Attribute e nm pos) (tFldE K nm te) := by
  subst hK
  refine ⟨fun pins s σ H Q I h => ?_⟩
  refine attr_of hb (thn (he.run pins s σ H _ I h) fun u s1 hh => ?_)
  obtain ⟨x, H1, I1, rx, a, C, dd, v, ex, hE, ea, T, q⟩ := hh
  subst ex
  obtain rfl : u = Value.ref a := rx
  obtain ⟨⟨oe, vs, ha, hz, hd⟩, _, _⟩ := I1.hok a _ hE
  have hx : ObjOk X.prog X.w H1 s1.heap dd (.xd [(nm, v)]) := I1.hok dd _ ea
  obtain ⟨mA, hns, hr⟩ := hx
  obtain ⟨od, ho, hl⟩ := lookIn_ns hns
  have l : List.lookup nm [(nm, v)] = some v := by simp [List.lookup]
  obtain ⟨u, hu, ru⟩ := RelO.some_of (v := v) (o := mA nm) (by rw [← l]; exact hr nm)
  have J : PySem.W.InstAt s1.heap a oe C (some od) := ⟨ha, hz.1, by unfold PySem.W.notCls; rw [hd] <;> rfl, by rw [hz.2]; exact ho⟩
  exact HandSPX.exc_get I1.kIn J T.ga T.gg T.exC (PySem.W.findObj_own T.hdC T.noN rfl (by rw [hl, hu])) (handed_of ru) ⟨v, H1, I1.tok _, ru, q⟩
/-! ### what evaluates to an error -/
def IsEr (C : Addr) (nm : Str) (v : V) : HR := fun u G => ∃ e dd, u = .ref e ∧ G e = some (ErO C (some dd) e) ∧ G dd = some (.xd [(nm, v)])
def IsEr0 (C : Addr) : HR := fun u G => ∃ e, u = .ref e ∧ G e = some (ErO C none e)
instance (C nm v) : Mon (IsEr C nm v) := ⟨fun s ⟨e, dd, a, b, c⟩ => ⟨e, dd, a, s _ _ b, s _ _ c⟩⟩
instance (C) : Mon (IsEr0 C) := ⟨fun s ⟨e, a, b⟩ => ⟨e, a, s _ _ b⟩⟩
/-- an error of the class at C, with a field or none -/
def IsErA (C : Addr) : HR := fun u G => ∃ e d, u = .ref e ∧ G e = some (ErO C d e) ∧ (d = none ∨ ∃ dd fs, d = some dd ∧ G dd = some (.xd fs))
theorem IsEr.any {C : Addr} {nm : Str} {v u : V} {G : Hp} (h : IsEr C nm v u G) : IsErA C u G := let ⟨e, dd, a, b, c⟩ := h; ⟨e, _, a, b, .inr ⟨dd, _, rfl, c⟩⟩
theorem IsEr0.any {C : Addr} {u : V} {G : Hp} (h : IsEr0 C u G) : IsErA C u G := let ⟨e, a, b⟩ := h; ⟨e, _, a, b, .inl rfl⟩
instance (C) : Mon (IsErA C) := ⟨fun s ⟨e, d, a, b, c⟩ => ⟨e, d, a, s _ _ b, c.imp id fun ⟨dd, fs, x, y⟩ => ⟨dd, fs, x, s _ _ y⟩⟩⟩
/-- a list of things as RA tells -/
def IsLX (RA : HRs) : HR := fun v G => ∃ p xs, v = .ref p ∧ G p = some (.lst xs) ∧ RA xs G
instance (RA) [Mons RA] : Mon (IsLX RA) := ⟨fun s ⟨p, xs, e, h, r⟩ => ⟨p, xs, e, s _ _ h, Mons.mon s r⟩⟩
/-- an error told by its class and its field -/
def IsErS (s : Addr × Option (Str × V)) : HR := fun u G => match s.2 with
  | none => IsEr0 s.1 u G
  | some p => IsEr s.1 p.1 p.2 u G
instance (s) : Mon (IsErS s) := ⟨fun {u G G'} t h => by
  obtain ⟨C, o⟩ := s
  cases o with
  | none => exact (Mon.mon t (show IsEr0 C u G from h) : IsEr0 C u G')
  | some p => exact (Mon.mon t (show IsEr C p.1 p.2 u G from h) : IsEr C p.1 p.2 u G')⟩
theorem IsErS.any {s : Addr × Option (Str × V)} {u : V} {G : Hp} (h : IsErS s u G) : IsErA s.1 u G := by
  obtain ⟨C, o⟩ := s
  cases o with
  | none => exact (show IsEr0 C u G from h).any
  | some p => exact (show IsEr C p.1 p.2 u G from h).any
def RE : List (Addr × Option (Str × V)) → HRs
  | [] => RNil
  | s :: r => RCons (IsErS s) (RE r)
theorem re_mon : ∀ {ss : List (Addr × Option (Str × V))} {vs : List V} {G G' : Hp}, Same G G' → RE ss vs G → RE ss vs G'
  | [], _, _, _, _, h => h
  | s :: r, _, _, _, t, ⟨v, w, e, h, h'⟩ => ⟨v, w, e, Mon.mon t h, re_mon t h'⟩
instance (ss) : Mons (RE ss) := ⟨re_mon⟩
theorem re_len : ∀ {ss : List (Addr × Option (Str × V))} {vs : List V} {G : Hp}, RE ss vs G → vs.length = ss.length
  | [], _, _, h => by rw [show _ = [] from h]; rfl
  | s :: r, _, _, ⟨v, w, e, _, h⟩ => by rw [e, List.length_cons, List.length_cons, re_len h]
theorem re_app : ∀ {ss ts : List (Addr × Option (Str × V))} {vs ws : List V} {G : Hp}, RE ss vs G → RE ts ws G → RE (ss ++ ts) (vs ++ ws) G
  | [], _, _, _, _, h, h' => by
    obtain rfl := (show _ = [] from h)
    exact h'
  | s :: r, _, _, _, _, ⟨v, w, e, a, b⟩, h' => ⟨v, w ++ _, by rw [e]; rfl, a, re_app b h'⟩
theorem re_get : ∀ {ss : List (Addr × Option (Str × V))} {vs : List V} {G : Hp} {i : Nat} {s : Addr × Option (Str × V)}, RE ss vs G → ss[i]? = some s → ∃ v, vs[i]? = some v ∧ IsErS s v G
  | [], _, _, i, s, _, e => by simp at e
  | t :: r, _, _, 0, s, ⟨v, w, e, a, b⟩, h => by
    cases h
    exact ⟨v, by rw [e]; rfl, a⟩
  | t :: r, _, _, i + 1, s, ⟨v, w, e, a, b⟩, h => by
    obtain ⟨u, h1, h2⟩ := re_get (i := i) b h
    exact ⟨u, by rw [e]; exact h1, h2⟩
section
variable {S : SR} {n k ka kb : Nat} {t ta : TA} {te : TE} {σ : L2.St} {G H : Hp} {K : PySem.W.Frag} {C e : Addr} {nm : Str} {v c : V} {cv : Value} {b : Bool} {RA RB : HRs} {p q : Addr} {xs ys : List V}
theorem ev_erX (st : Stab S) (h : EvA S n k t σ G (IsVs [v])) : Ev S n k (tErX C nm t) σ G (IsEr C nm v) := fun G1 H1 s0 s Q q =>
  h G1 H1 s0 s _ fun vs G2 H2 s2 ev => ⟨v, ev, fun d e hd he ne => by
    have s3 := st.new (o := .xd [(nm, v)]) s2.s hd
    have he2 : upd H2 d (.xd [(nm, v)]) e = none := by rw [upd_ne (Ne.symm ne)]; exact he
    have s4 := st.new (o := ErO C (some d) e) s3.s he2
    exact q (.ref e) _ _ ((s2.trans s3).trans s4) ⟨e, d, rfl, upd_same, by rw [upd_ne ne]; exact upd_same⟩⟩
theorem ev_er0 (st : Stab S) : Ev S n 0 (tEr0 C) σ G (IsEr0 C) := fun G1 H1 s0 s Q q e he => q (.ref e) _ _ (st.new s he) ⟨e, rfl, upd_same⟩
theorem c_isEr (st : Stab S) (T : ExcC K C) (h : IsErA C v G) (hc : ∀ w, RelV c w → w = cv) (hk : PySem.W.kitOne K (.ref C) cv = some b) : RC S (rIsEr K) [v, c] G (IsV (.bl b)) :=
  rc_val (fun H s Q q => by
    obtain ⟨e, d, rfl, a, b⟩ := h
    exact ⟨e, C, d, c, cv, _, rfl, s _ _ a, b.imp id fun ⟨dd, fs, x, y⟩ => ⟨dd, fs, x, s _ _ y⟩, T, hc, hk, q⟩) st
theorem ev_fldE (st : Stab S) (T : ExG K C nm) (h : Ev S n k te σ G (IsEr C nm v)) : Ev S n k (tFldE K nm te) σ G (IsV v) := fun G1 H1 s0 s Q q =>
  h G1 H1 s0 s _ fun x G2 H2 s2 ⟨e, dd, a, b, c⟩ => ⟨e, C, dd, v, a, st.sub s2.s _ _ b, st.sub s2.s _ _ c, T, q v G2 H2 s2 rfl⟩
theorem ev_lstX (st : Stab S) [Mons RA] (h : EvA S n k t σ G RA) (hl : ∀ vs G', RA vs G' → vs.length ≤ 100000) : Ev S n k (tLst t) σ G (IsLX RA) := fun G1 H1 s0 s Q q =>
  h G1 H1 s0 s _ fun vs G2 H2 s2 e => ⟨Nat.le_trans (hl vs G2 e) (by decide), fun p hp => by
    have g := st.new (o := .lst vs) s2.s hp
    exact q (.ref p) _ _ (s2.trans g) ⟨p, vs, rfl, upd_same, Mons.mon g.g e⟩⟩
theorem ev_erSX (st : Stab S) (h : EvA S n k t σ G (IsVs [v])) : Ev S n k (tErX C nm t) σ G (IsErS (C, some (nm, v))) := ev_erX st h
theorem ev_erS0 (st : Stab S) : Ev S n 0 (tEr0 C) σ G (IsErS (C, none)) := ev_er0 st
theorem ea_erN : EvA S n 0 tNil σ G (RE []) := ea_nil
theorem ea_erC {s : Addr × Option (Str × V)} {r : List (Addr × Option (Str × V))} (h : Ev S n ka te σ G (IsErS s)) (hr : EvA S (n + ka) kb t σ G (RE r)) : EvA S n (ka + kb) (tCons te t) σ G (RE (s :: r)) := ea_cons h hr
theorem ev_erL (st : Stab S) {ss : List (Addr × Option (Str × V))} (h : EvA S n k t σ G (RE ss)) (hl : ss.length ≤ 1000) : Ev S n k (tLst t) σ G (IsLX (RE ss)) := ev_lstX st h fun vs G' e => by rw [re_len e]; omega
theorem v_catE (st : Stab S) {ss ts : List (Addr × Option (Str × V))} (h1 : G p = some (.lst xs)) (r1 : RE ss xs G) (h2 : G q = some (.lst ys)) (r2 : RE ts ys G) (hl : ss.length + ts.length ≤ 1000) : RV S rAddA (.ref p) (.ref q) G (IsLX (RE (ss ++ ts))) :=
  rv_imp (v_cat st h1 h2 (by rw [re_len r1, re_len r2]; omega)) fun v G' s ⟨p, e, _, g⟩ => ⟨p, _, e, g, re_mon s (re_app r1 r2)⟩
/-- the i-th error of a list, its field -/
theorem ev_erAt (st : Stab S) {ss : List (Addr × Option (Str × V))} {i : Nat} {j : Int} {l : Nat} (h1 : G p = some (.lst xs)) (r1 : RE ss xs G) (hs : ss[i]? = some (C, some (nm, v))) (T : ExG K C nm) (hσ : σ[l]? = some (some (.ref p))) (hj : j = (i : Nat)) :
    Ev S n (0 + 0) (tFldE K nm (tOp (rIxA K) (tVar l) (tC (.int j)))) σ G (IsV v) := by
  obtain ⟨u, hu, he⟩ := re_get r1 hs
  subst hj
  refine ev_fldE (C := C) st T ((ev_opV (ev_var hσ) ev_c (v_ixL st (SqL.of h1) (atI_nat hu))).imp fun w G' s e => ?_)
  rw [show w = u from e]
  exact (Mon.mon s (show IsEr C nm v u G from he) : IsEr C nm v u G')
end
/-! ### texts and lists several times -/
def rMulS : R2 := fun x y H Q => ∃ (a : Str) (k : Int), x = .str a ∧ y = .int k ∧ 2 ≤ k ∧ k ≤ 1000 ∧ 1 ≤ a.length ∧ a.length ≤ 1000 ∧ ((List.replicate k.toNat a.cps).foldl (· ++ ·) #[]).size ≤ sizeLine ∧ Q (.str ⟨(List.replicate k.toNat a.cps).foldl (· ++ ·) #[]⟩) H
theorem op_mulS {X : Cx} : OpR X (binaryOp .Mult) rMulS := by
  intro pins s σ H x y v u Q I rx ry h
  obtain ⟨a, k, rfl, rfl, k0, k1, l0, l1, hz, q⟩ := h
  obtain ⟨t, rfl⟩ := rx
  obtain ⟨t2, rfl⟩ := ry
  have n1 : ¬ k < 1 := by omega
  have n2 : (k == 1 || a.length == 0) = false := by
    rw [Bool.or_eq_false_iff]
    exact ⟨by simp; omega, by simp; omega⟩
  refine PySem.P.mul_str ?_ (fun _ _ => ?_) (fun _ _ => ?_) ?_
  · rw [Bool.or_eq_false_iff]
    exact ⟨by simp; omega, by simp; omega⟩
  · have h3 : (2 ^ 63 - 1 : Int) / 1000 ≤ (2 ^ 63 - 1) / k := by
      rw [Int.le_ediv_iff_mul_le (by omega)]
      have : (2 ^ 63 - 1 : Int) / 1000 * k ≤ (2 ^ 63 - 1 : Int) / 1000 * 1000 := Int.mul_le_mul_of_nonneg_left k1 (by decide)
      omega
    have h4 : ((a.length : Nat) : Int) ≤ 1000 := by omega
    have h5 : (1000 : Int) ≤ (2 ^ 63 - 1) / 1000 := by decide
    omega
  · have : a.length * k.toNat ≤ 1000 * 1000 := Nat.mul_le_mul l1 (by omega)
    unfold PySem.Builtin.Str.tooLong
    rw [decide_eq_false]
    rw [sizeLine_eq]
    omega
  · rw [if_neg n1, n2, if_neg (by decide)]
    exact ⟨hz, ⟨.str _, H, I.tok _, ⟨_, rfl⟩, q⟩⟩
def IsBl (L : List V) : HR := fun v G' => ∃ p, v = .ref p ∧ G' p = some (.lst L)
instance (L) : Mon (IsBl L) := ⟨fun s ⟨p, e, h⟩ => ⟨p, e, s _ _ h⟩⟩
def rMulE : R2 := fun x y H Q => rMul x y H Q ∨ (fun x y H Q => rMulS x y H Q ∨ rRep x y H Q) x y H Q
theorem op_mulE {X : Cx} : OpR X (binaryOp .Mult) rMulE := OpR.or op_mulA (OpR.or op_mulS op_rep)
section
variable {S : SR} {G : Hp} {p : Addr} {xs : List V} {K : PySem.W.Frag}
theorem v_mulE (st : Stab S) {i j : Int} (h : CMul i j) : RV S rMulE (.int i) (.int j) G (IsV (.int (i * j))) := rv_l (v_mul st h)
theorem v_mulS (st : Stab S) {a : Str} {k : Int} (h0 : 2 ≤ k) (h1 : k ≤ 1000) (h2 : 1 ≤ a.length) (h3 : a.length ≤ 1000) (h4 : ((List.replicate k.toNat a.cps).foldl (· ++ ·) #[]).size ≤ sizeLine) : RV S rMulE (.str a) (.int k) G (IsV (.str ⟨(List.replicate k.toNat a.cps).foldl (· ++ ·) #[]⟩)) :=
  rv_r (rv_l (rv_val (fun H _ Q q => ⟨a, k, rfl, rfl, h0, h1, h2, h3, h4, q⟩) st))
theorem v_rep (st : Stab S) {k : Int} (h : G p = some (.lst xs)) (h0 : 0 ≤ k) (h1 : k ≤ 1000) (hl : xs.length ≤ 100) : RV S rMulE (.ref p) (.int k) G (IsNew G (.lst (List.replicate k.toNat xs).flatten)) := fun n G1 H1 s0 s Q q =>
  .inr (.inr ⟨p, k, xs, rfl, rfl, st.sub s _ _ (s0 _ _ h), by omega, by omega, Nat.le_trans (Nat.mul_le_mul hl (show k.toNat ≤ 1000 by omega)) (by decide), fun l hl => q (.ref l) _ _ (st.new s hl) ⟨l, rfl, s0.free ((st.sub s).free hl), upd_same⟩⟩)
/-- two lists of the same flat values are equal -/
theorem eqv_flat : ∀ v : V, flatV v = true → PyData.eqv (dOf v) (dOf v) = true := by
  intro v h
  cases v <;> simp [flatV] at h <;> simp [dOf, PyData.eqv]
theorem eqvs_flat : ∀ vs : List V, vs.all flatV = true → PyData.eqvAll (vs.map dOf) (vs.map dOf) = true
  | [], _ => by simp [PyData.eqvAll]
  | v :: r, h => by
    rw [List.all_cons, Bool.and_eq_true] at h
    simp [PyData.eqvAll, eqv_flat v h.1, eqvs_flat r h.2]
def okV : V → Bool
  | .str x => PyData.strOk x | _ => true
theorem lay_flat : ∀ vs : List V, vs.all okV = true → PyData.canLayAll0 (vs.map dOf) = true
  | [], _ => by simp [PyData.canLayAll0]
  | v :: r, h => by
    rw [List.all_cons, Bool.and_eq_true] at h
    have h2 := lay_flat r h.2
    have h1 := h.1
    cases v <;> simp [dOf, PyData.canLayAll0, PyData.canLay0, h2]
    exact h1
theorem shaped_flat (vs : List V) (ok : vs.all okV = true) : SeqAt.shaped (.list (vs.map dOf)) = true := by
  unfold SeqAt.shaped
  rw [Bool.and_eq_true]
  refine ⟨by simp only [PyData.canLay0]; exact lay_flat vs ok, decide_eq_true ?_⟩
  show PyData.depthAll (vs.map dOf) + 1 ≤ 64
  rw [depth_flats]
  decide
theorem v_eqL (st : Stab S) {q : Addr} (h1 : SqL K G p xs) (h2 : SqL K G q xs) (hf : xs.all flatV = true) (ok : xs.all okV = true) : RV S (rEqA K) (.ref p) (.ref q) G (IsV (.bl true)) :=
  rv_r (rv_val (fun H s Q k => ⟨_, _, .lst (s.seq h1) (dp_flat hf), .lst (s.seq h2) (dp_flat hf), shaped_flat xs ok, shaped_flat xs ok, by
    have e : PyData.eqv (.list (xs.map dOf)) (.list (xs.map dOf)) = true := by simp only [PyData.eqv]; exact eqvs_flat xs hf
    rw [e]
    exact k⟩) st)
theorem v_neL (st : Stab S) {q : Addr} (h1 : SqL K G p xs) (h2 : SqL K G q xs) (hf : xs.all flatV = true) (ok : xs.all okV = true) : RV S (rNeA K) (.ref p) (.ref q) G (IsV (.bl false)) :=
  rv_r (rv_val (fun H s Q k => ⟨_, _, .lst (s.seq h1) (dp_flat hf), .lst (s.seq h2) (dp_flat hf), shaped_flat xs ok, shaped_flat xs ok, by
    have e : PyData.eqv (.list (xs.map dOf)) (.list (xs.map dOf)) = true := by simp only [PyData.eqv]; exact eqvs_flat xs hf
    rw [e]
    exact k⟩) st)
end
/-- which class is under which, asked of all at once -/
theorem kit_all {K : PySem.W.Frag} {cl : List Addr} (h : ((List.range cl.length).all fun i => (List.range cl.length).all fun j => decide (PySem.W.kitOne K (.ref (cl.getD i 0)) (.ref (cl.getD j 0)) = some (decide (i = j)))) = true) (i j : Nat) (C D : Addr) (hi : cl[i]? = some C) (hj : cl[j]? = some D) :
    PySem.W.kitOne K (.ref C) (.ref D) = some (decide (i = j)) := by
  have li := (List.getElem?_eq_some_iff.mp hi).1
  have lj := (List.getElem?_eq_some_iff.mp hj).1
  have a := List.all_eq_true.mp (List.all_eq_true.mp h i (List.mem_range.mpr li)) j (List.mem_range.mpr lj)
  have b := of_decide_eq_true a
  rw [List.getD_eq_getElem?_getD, List.getD_eq_getElem?_getD, hi, hj] at b
  exact b
theorem kit_row {K : PySem.W.Frag} {cl : List Addr} {c : Value} {g : Nat → Bool} (h : ((List.range cl.length).all fun i => decide (PySem.W.kitOne K (.ref (cl.getD i 0)) c = some (g i))) = true) (i : Nat) (C : Addr) (hi : cl[i]? = some C) : PySem.W.kitOne K (.ref C) c = some (g i) := by
  have li := (List.getElem?_eq_some_iff.mp hi).1
  have b := of_decide_eq_true (List.all_eq_true.mp h i (List.mem_range.mpr li))
  rw [List.getD_eq_getElem?_getD, hi] at b
  exact b
end L2.DS
namespace L2.DS
open PySem PySem.Spec PyProof.Rows
def top (i : Nat) : Stmt := PySem.Challenge.pw_deedscale_k82_errors.main.body.getD i (.Pass ⟨0, 0, 0, 0⟩)
local macro_rules | `(tactic| walk_at "sq") => `(tactic| first | assumption | exact SqL.of (by assumption) | exact SqT.of (by assumption) | (refine Same.seq (by assumption) ?_; walk_at "sq") | (refine same_t (by assumption) ?_; walk_at "sq"))
local macro_rules | `(tactic| walk_at "sd") => `(tactic| first | assumption | omega | decide | (simp; done) | (simp_all; done))
local macro_rules | `(tactic| walk_at "rv") => `(tactic| first
  | with_reducible exact v_add (by assumption) | with_reducible exact v_sub (by assumption) | with_reducible exact v_lt (by assumption) | with_reducible exact v_le (by assumption) | with_reducible exact v_gt (by assumption) | with_reducible exact v_ge (by assumption)
  | with_reducible exact v_eqI (by assumption) | with_reducible exact v_eqB (by assumption) | with_reducible exact v_eqS (by assumption) | with_reducible exact v_neI (by assumption) | with_reducible exact v_neS (by assumption)
  | ((with_reducible refine v_mod (by assumption) ?_); walk_at "sd") | ((with_reducible refine v_mul (by assumption) ?_); first | exact .inl ⟨by omega, by omega⟩ | exact .inr ⟨by omega, by omega⟩) | ((with_reducible refine v_div (by assumption) ?_); exact ⟨by omega, by omega⟩)
  | ((with_reducible apply v_ixL); assumption; walk_at "sq"; walk_at "sd") | ((with_reducible apply v_ixT); assumption; walk_at "sq"; walk_at "sd")
  | exact v_isN (by assumption) | exact v_notN (by assumption))
local macro_rules | `(tactic| walk_at "rc") => `(tactic| first
  | ((with_reducible apply c_lenL); assumption; walk_at "sq") | ((with_reducible apply c_lenT); assumption; walk_at "sq") | with_reducible exact c_abs (by assumption) | with_reducible exact c_int (by assumption) | with_reducible exact c_intB (by assumption))
local macro_rules | `(tactic| walk_at "ev") => `(tactic| first
  | with_reducible exact ev_c
  | ((with_reducible apply ev_var); rfl)
  | ((with_reducible apply ev_opV); walk_at "ev"; walk_at "ev"; walk_at "rv")
  | ((with_reducible apply ev_unV); walk_at "ev"; exact u_neg (by assumption))
  | ((with_reducible apply ev_ifV); assumption; walk_at "et"; (intro _; walk_at "ev"); (intro _; walk_at "ev"))
  | ((with_reducible apply ev_cbV); walk_at "ea"; walk_at "rc")
  | ((with_reducible apply ev_andV); assumption; walk_at "ev"; (intro _; walk_at "ev"))
  | ((with_reducible apply ev_orV); assumption; walk_at "ev"; (intro _; walk_at "ev"))
  | ((with_reducible apply ev_notV); walk_at "ev")
  | assumption)
local macro_rules | `(tactic| walk_at "ea") => `(tactic| first
  | with_reducible exact ea_nilV
  | ((with_reducible apply ea_consV); walk_at "ev"; walk_at "ea"))
local macro_rules | `(tactic| walk_at "et") => `(tactic| first
  | ((with_reducible apply et_testV); walk_at "ev")
  | ((with_reducible apply et_B); walk_at "ev")
  | ((with_reducible apply et_and); assumption; walk_at "et"; (intro _; walk_at "et"))
  | ((with_reducible apply et_or); assumption; walk_at "et"; (intro _; walk_at "et"))
  | ((with_reducible apply et_not); walk_at "et"))
local macro_rules | `(tactic| walk_at "qn") => `(tactic| repeat (with_reducible refine q_end ?_))
local macro_rules | `(tactic| walk_at "qif") => `(tactic| (walk_at "qn"; (with_reducible apply q_if); assumption; assumption; walk_at "et"))
local macro_rules | `(tactic| walk_at "qret") => `(tactic| (walk_at "qn"; (with_reducible apply q_retV); assumption; assumption; walk_at "ev"))
local macro_rules | `(tactic| walk_at "qset") => `(tactic| (walk_at "qn"; (with_reducible apply q_setV); assumption; assumption; walk_at "ev"))
section
variable {P : Program} {w : World} {K : PySem.W.Frag} {mg : Str → Option Value} {base : Heap}
theorem getInt {ns : List Int} {j : Nat} {x : V} (h : (ns.map V.int)[j]? = some x) : ∃ i, ns[j]? = some i ∧ x = .int i := by
  rw [List.getElem?_map] at h
  cases e : ns[j]? with
  | none => rw [e] at h; cases h
  | some i => rw [e] at h; exact ⟨i, rfl, (Option.some.inj h).symm⟩
theorem mapRange {ns : List Int} (g : Int → Int) {x : Nat → V} (m : Nat) (hm : m = ns.length) (h : ∀ j i, ns[j]? = some i → x j = .int (g i)) : (List.range m).map x = (ns.map g).map V.int := by
  subst hm
  refine List.ext_getElem? fun j => ?_
  rw [List.getElem?_map, List.getElem?_map, List.getElem?_map]
  by_cases hj : j < ns.length
  · rw [List.getElem?_range hj, List.getElem?_eq_getElem hj]
    show some (x j) = some (V.int (g ns[j]))
    rw [h j _ (List.getElem?_eq_getElem hj)]
  · rw [List.getElem?_eq_none (l := List.range ns.length) (by rw [List.length_range]; omega), List.getElem?_eq_none (l := ns) (by omega)]
    rfl
theorem getRev {ns : List Int} {j : Nat} (hj : j < ns.length) : atI (ns.map V.int) (((ns.map V.int).length : Int) - 1 - (j : Int)) = some (.int (ns.getD (ns.length - 1 - j) 0)) := by
  rw [show (((ns.map V.int).length : Nat) : Int) = (ns.length : Int) by rw [List.length_map]]
  have e : ((ns.length : Int) - 1 - (j : Int)) = ((ns.length - 1 - j : Nat) : Int) := by omega
  have h1 : ixN ns.length ((ns.length - 1 - j : Nat) : Int) = some (ns.length - 1 - j) := by
    unfold ixN
    rw [if_pos (by omega), if_pos (by omega)]
    all_goals rfl
  unfold atI
  rw [e, List.length_map, h1]
  show (ns.map V.int)[ns.length - 1 - j]? = _
  rw [List.getElem?_map, List.getElem?_eq_getElem (by omega), List.getD_eq_getElem?_getD, List.getElem?_eq_getElem (by omega)]
  rfl
theorem merge_src {cl : Addr} {l m t : Int} : mergeK [] (srcK cl l m t) = srcK cl l m t := by
  have a := ne_lc
  have b := ne_mc
  have c := ne_tc
  have d := ne_ml
  have e := ne_tl
  have f := ne_tm
  simp [mergeK, srcK, putK, a, b, c, d, e, f]
abbrev s__law_source : Stmt := top 20
theorem sc__law_source : FnScope ["_law_script", "_law_mixed", "_law_cell", "_law_cells", "_law_k"] ["_law_script"] (defScope s__law_source) := ⟨rfl, rfl, rfl, by decide +kernel, rfl, by decide +kernel, by decide +kernel⟩

theorem ok_source {f : Addr} {fd : FuncData} (Z : Bi mg) (F : Fun K "_law_source" "_law_source" s__law_source f fd) : FnOk P w K mg base CX0 1 f fd ["_law_script"] (sp_source K) := by
  refine F.ok sc__law_source (fun vs H Q E h => ?_) (fun cdv A outer s H vs Q E hr h => ?_)
  · obtain ⟨p, ns, rfl, _⟩ := h
    rfl
  · obtain ⟨p, ns, rfl, hq, hl, q⟩ := h
    refine ⟨_, (pss_cons (ps_set (i := 1) sc__law_source.nd rfl (Or.inl rfl) pe_int)
  (pss_cons (ps_for PassesOwn.never rfl (pi_listK K (pv 0)) (pg_name (i := 2) sc__law_source.nd rfl (Or.inl rfl)) (pss_cons (ps_set (i := 1) sc__law_source.nd rfl (Or.inl rfl) (pe_op op_modA (pe_callTy call_intA (by rfl) Z.z_int (by decide +kernel) (pa_cons (pe_op op_addA (pe_op op_addA (pe_op op_mulA (pv 1) pe_int) (pe_op op_mulA (pv 2) pe_int)) pe_int) pa_nil)) pe_int))
  pss_nil))
  (pss_cons (ps_set (i := 3) sc__law_source.nd rfl (Or.inr rfl) (pe_lc (own := [("_law_cell", 2)]) (g := (gName 2)) rfl sc__law_source.nd (pi_listK K (pv 0)) (blkOk_by (by kernel_rfl)) (fun _ _ _ _ _ => (pg_name (i := 2) sc__law_source.nd rfl (Or.inl rfl))) (fun _ _ _ _ _ => pts_nil) (fun _ _ _ _ _ => (pe_callB call_absA (by rfl) Z.z_abs (by decide +kernel) (pa_cons (pv 2) pa_nil)))))
  (pss_cons (ps_ret (pe_disp (pps_cons pe_str (pe_lc (own := [("_law_k", 4)]) (g := (gName 4)) rfl sc__law_source.nd (pi_range1 (by rfl) Z.z_range (pa_cons (pe_callB (call_lenA K) (by rfl) Z.z_len PySem.boot_len (pa_cons (pv 3) pa_nil)) pa_nil)) (blkOk_by (by kernel_rfl)) (fun _ _ _ _ _ => (pg_name (i := 4) sc__law_source.nd rfl (Or.inl rfl))) (fun _ _ _ _ _ => pts_nil) (fun _ _ _ _ _ => (pe_ix (ix_any K (hu_of hr)) (pv 3) (pe_op op_subA (pe_op op_subA (pe_callB (call_lenA K) (by rfl) Z.z_len PySem.boot_len (pa_cons (pv 3) pa_nil)) pe_int) (pv 4)) (fun _ _ => rfl)))) (pps_cons pe_str pe_int (pps_cons pe_str (pv 1) (pps_cons pe_str pe_int pps_nil)))) (by rfl) (by rfl) (fun z => by cases z) (by decide)))
  pss_nil)))), ?_⟩
    have st := stab0 H H
    have hS : SP0 H H 0 H H := Grow.refl (Same.refl H)
    show tSeq _ _ (Ends.mk _ _ _ _) [some _, none, none, none, none] _
    walk_at "qset"
    intro H1 k1 h1
    walk_at "qn"
    refine q_forL st h1 (ev_var rfl) hq (fun _ => 0) (fun j σ' G' H' => ∃ m c, 0 ≤ m ∧ m < 2147483629 ∧ σ' = [some (.ref p), some (.int m), c, none, none]) rfl (fun H2 k2 h2 => ⟨11, none, by decide, by decide, rfl⟩) (fun j x σ' G' H2 hx s2 h2 hp => ?_) (fun σ' G' H2 s2 h2 hp => ?_)
    · obtain ⟨m, c, hm0, hm1, rfl⟩ := hp
      obtain ⟨i, hi, rfl⟩ := getInt hx
      show tSeq _ _ (Ends.mk _ _ _ _) [some (.ref p), some (.int m), some (.int i), none, none] _
      have e1 : CMul m 69069 := .inr ⟨by decide, by decide⟩
      have e2 : CMul i 31 := .inr ⟨by decide, by decide⟩
      refine q_setV st h2 (ev_opV (ev_cbV (ea_consV (ev_opV (ev_opV (ev_opV (ev_var rfl) ev_c (v_mul st e1)) (ev_opV (ev_var rfl) ev_c (v_mul st e2)) (v_add st)) ev_c (v_add st)) ea_nilV) (c_int st)) ev_c (v_mod st (by decide))) fun H3 k3 h3 => ?_
      refine q_end ⟨G', s2, st.wk h3 (by omega), _, _, Int.emod_nonneg _ (by decide), Int.emod_lt_of_pos _ (by decide), rfl⟩
    · obtain ⟨m, c, hm0, hm1, rfl⟩ := hp
      walk_at "qn"
      refine q_set h2 (ev_lcL (c1 := 0) st (fun j => IsV (.int (if ns.getD j 0 < 0 then -ns.getD j 0 else ns.getD j 0))) (ev_var rfl) (s2.seq hq) (by rw [List.length_map]; exact hl) (fun j x G2 hx s3 => ?_) (fun x => rfl)) fun v G3 H3 s3 hv => ?_
      · obtain ⟨i, hi, rfl⟩ := getInt hx
        have e : ns.getD j 0 = i := by rw [List.getD_eq_getElem?_getD, hi]; rfl
        rw [e]
        exact ev_cbV (ea_consV (ev_var rfl) ea_nilV) (c_abs st)
      · obtain ⟨pl, rfl, hpl⟩ := isLR_V (K := K) hv.lr
        rw [mapRange (ns := ns) (fun i => if i < 0 then -i else i) _ (by rw [List.length_map]) (fun j i h => by rw [List.getD_eq_getElem?_getD, h]; rfl)] at hpl
        generalize hc : ns.map (fun i : Int => if i < 0 then -i else i) = cs at hpl
        have lc : cs.length = ns.length := by rw [← hc, List.length_map]
        have cp : ∀ c ∈ cs, 0 ≤ c := by
          intro c h
          rw [← hc] at h
          obtain ⟨i, _, rfl⟩ := List.mem_map.mp h
          show 0 ≤ (if i < 0 then -i else i)
          split <;> omega
        walk_at "qn"
        show tDisp _ _ _ Q
        intro sa hsa
        have sH3 : Same H H3 := s3.s.h
        have sA : Same G3 (upd H3 sa (.dK [])) := fun b o e => by
          rw [upd_ne (ne_of_none (s3.s.s b o e) hsa)]
          exact s3.s.s b o e
        have stA := stab0 G3 (upd H3 sa (.dK []))
        have hA : SP0 G3 (upd H3 sa (.dK [])) 0 G3 (upd H3 sa (.dK [])) := Grow.refl sA
        unfold tPairs
        refine tC_run ?_
        show tLc _ _ _ _ _ _ _ _
        refine ev_lcR (c1 := 0) stA (fun j => IsV (.int (cs.getD (cs.length - 1 - j) 0))) (ea_consV (ev_cbV (ea_consV (ev_var rfl) ea_nilV) (c_lenL stA hpl)) ea_nilV) (by omega) (by rw [List.length_map]; omega) (fun j G4 hj s4 => ?_) (fun x => rfl) G3 _ (Same.refl _) hA _ fun v G4 H4 s4 hv4 => ?_
        · rw [List.length_map] at hj
          exact ev_opV (ev_var rfl) (ev_opV (ev_opV (ev_cbV (ea_consV (ev_var rfl) ea_nilV) (c_lenL stA (s4.seq hpl))) ev_c (v_sub stA)) (ev_var rfl) (v_sub stA)) (v_ixL stA (s4.seq hpl) (getRev (by omega)))
        · obtain ⟨cl, ys, rfl, f4, h4, l4, r4⟩ := hv4
          have hsa4 : H4 sa = some (.dK []) := s4.k.k sa _ (fun z => z) upd_same
          have l5 : ys.length = cs.length := by rw [l4, Int.toNat_natCast, List.length_map]
          have ecl : ys = ((List.range cs.length).map fun j => cs.getD (cs.length - 1 - j) 0).map V.int := by
            refine List.ext_getElem? fun j => ?_
            by_cases hj : j < cs.length
            · have q1 : ys[j]? = some ys[j] := List.getElem?_eq_getElem (by omega)
              rw [q1, show ys[j] = V.int (cs.getD (cs.length - 1 - j) 0) from r4 j _ q1, List.getElem?_map, List.getElem?_map, List.getElem?_range hj]
              rfl
            · rw [List.getElem?_eq_none (by omega), List.getElem?_eq_none (by rw [List.length_map, List.length_map, List.length_range]; omega)]
          have hcl : H4 cl = some (.lst (((List.range cs.length).map fun j => cs.getD (cs.length - 1 - j) 0).map V.int)) := by
            rw [← ecl]
            exact (stA.sub s4.s) _ _ h4
          have nsa : cl ≠ sa := fun z => by
            rw [z, hsa4] at hcl
            cases hcl
          unfold tPairs
          refine tC_run (tC_run ?_)
          unfold tPairs
          refine tC_run (tVar_run rfl ?_)
          unfold tPairs
          refine tC_run (tC_run ?_)
          unfold tPairs
          refine ⟨hsa4, srcK cl 1 m 0, rfl, (by decide : 4 ≤ 15), ?_⟩
          rw [merge_src]
          refine q sa cl _ (fun b o e => ?_) (sH3.free hsa) ((s2.trans s3.g).free f4) ⟨_, 1, m, 0, upd_same, by rw [upd_ne nsa]; exact hcl, fun c hc => ?_, by decide, hm0, hm1, by decide, by decide⟩
          · have e3 := sH3 b o e
            have nb := ne_of_none e3 hsa
            rw [upd_ne nb]
            exact s4.k.k b o (fun z => z) (by rw [upd_ne nb]; exact e3)
          · obtain ⟨j, hj, rfl⟩ := List.mem_map.mp hc
            have := List.mem_range.mp hj
            rw [List.getD_eq_getElem?_getD, List.getElem?_eq_getElem (by omega)]
            exact cp _ (List.getElem_mem _)
abbrev s__law_pick : Stmt := top 21
theorem sc__law_pick : FnScope ["_law_source_here", "_law_many", "_law_cells", "_law_left", "_law_turn", "_law_mixed"] ["_law_source_here", "_law_many"] (defScope s__law_pick) := ⟨rfl, rfl, rfl, by decide +kernel, rfl, by decide +kernel, by decide +kernel⟩

theorem kp_upd {S : SR} {H J : Hp} {a : Addr} {o : HO} (k : Kp S H J) (m : S.m a) : Kp S H (upd J a o) := ⟨fun b u nm e => by
  rw [upd_ne (fun z => nm (by rw [z]; exact m))]
  exact k.k b u nm e, fun b e => by
  by_cases hb : b = a
  · rw [hb, upd_same] at e
    cases e
  · rw [upd_ne hb] at e
    exact k.v b e⟩
theorem src_end {sa cl : Addr} {n : Nat} {G H F : Hp} (sG : Same G H) (gs : G sa = none) (gc : G cl = none) (k : Kp (Src sa cl) H F) (h : SrcAt sa cl n F) : Stp (Src sa cl) n G H G F :=
  ⟨Same.refl _, k, ⟨fun b o e => k.k b o (fun z => by
    rcases z with z | z
    · rw [z, gs] at e
      cases e
    · rw [z, gc] at e
      cases e) (sG b o e), gs, gc, h⟩, fun _ _ e => .inl e⟩
/-- cells are popped until a number is left -/
def PopAt (st cl : Addr) (mx t : Int) (H0 : Hp) (cs : List Int) (l : Int) (H : Hp) : Prop := Kp (Src st cl) H0 H ∧ H st = some (srcD cl l mx t) ∧ H cl = some (.lst (cs.map V.int)) ∧ (∀ c ∈ cs, 0 ≤ c) ∧ 0 ≤ l
theorem ok_pick {f : Addr} {fd : FuncData} (Z : Bi mg) (F : Fun K "_law_pick" "_law_pick" s__law_pick f fd) : FnOk P w K mg base CX0 1 f fd ["_law_source_here", "_law_many"] sp_pick := by
  refine F.ok sc__law_pick (fun vs H Q E h => ?_) (fun cdv A outer s H vs Q E hr h => ?_)
  · obtain ⟨_, _, _, _, _, _, _, ⟨_, rfl, _⟩, _⟩ := h
    rfl
  · obtain ⟨sa, cl, n, k, G, R, hS, ⟨many, rfl, hm1, hm2, rfl, rfl⟩, q⟩ := h
    refine ⟨_, (pss_cons (ps_if (pt_cmpR op_ltA (pv 1) pe_int (nomark _)) (pss_cons (ps_ret pe_int)
  pss_nil) pss_nil)
  (pss_cons (ps_set (i := 2) sc__law_pick.nd rfl (Or.inl rfl) (pe_ix (ix_any K (hu_of hr)) (pv 0) pe_str (fun _ _ => rfl)))
  (pss_cons (ps_while PassesOwn.never (PW.pt (pw_and (pt_cmpR op_ltA (pe_ix (ix_any K (hu_of hr)) (pv 0) pe_str (fun _ _ => rfl)) pe_int (nomark _)) (pw_and1 (pt_cmpR op_gtA (pe_callB (call_lenA K) (by rfl) Z.z_len PySem.boot_len (pa_cons (pv 2) pa_nil)) pe_int (nomark _))))) (pss_cons (ps_asg (pe_bm0 PySem.F.plainAttrs_list PySem.F.slot_list_pop PySem.F.type_list_pop mt_pop (pv 2)) (pg_sub (pv 0) pe_str (set_any (hu_of hr))))
  pss_nil))
  (pss_cons (ps_set (i := 3) sc__law_pick.nd rfl (Or.inl rfl) (pe_ix (ix_any K (hu_of hr)) (pv 0) pe_str (fun _ _ => rfl)))
  (pss_cons (ps_if (pt_cmpR op_gtA (pv 3) pe_int (nomark _)) (pss_cons (ps_asg (pe_op op_divA (pv 3) (pv 1)) (pg_sub (pv 0) pe_str (set_any (hu_of hr))))
  (pss_cons (ps_ret (pe_op op_modA (pe_callTy call_intA (by rfl) Z.z_int (by decide +kernel) (pa_cons (pv 3) pa_nil)) (pv 1)))
  pss_nil)) pss_nil)
  (pss_cons (ps_asg (pe_op op_addA (pe_ix (ix_any K (hu_of hr)) (pv 0) pe_str (fun _ _ => rfl)) pe_int) (pg_sub (pv 0) pe_str (set_any (hu_of hr))))
  (pss_cons (ps_set (i := 4) sc__law_pick.nd rfl (Or.inl rfl) (pe_ix (ix_any K (hu_of hr)) (pv 0) pe_str (fun _ _ => rfl)))
  (pss_cons (ps_set (i := 5) sc__law_pick.nd rfl (Or.inl rfl) (pe_op op_modA (pe_callTy call_intA (by rfl) Z.z_int (by decide +kernel) (pa_cons (pe_op op_addA (pe_ix (ix_any K (hu_of hr)) (pv 0) pe_str (fun _ _ => rfl)) (pe_op op_mulA (pv 4) pe_int)) pa_nil)) pe_int))
  (pss_cons (ps_set (i := 5) sc__law_pick.nd rfl (Or.inl rfl) (pe_op op_modA (pe_callTy call_intA (by rfl) Z.z_int (by decide +kernel) (pa_cons (pe_op op_addA (pe_op op_mulA (pv 5) (pv 5)) (pe_op op_mulA (pv 4) pe_int)) pa_nil)) pe_int))
  (pss_cons (ps_if (pt_cmpR op_gtA (pv 1) (pe_op op_pow pe_int pe_int) (nomark _)) (pss_cons (ps_set (i := 5) sc__law_pick.nd rfl (Or.inl rfl) (pe_op op_pow (pe_callTy call_intA (by rfl) Z.z_int (by decide +kernel) (pa_cons (pe_op op_addA (pe_op op_mulA (pv 5) pe_int) (pv 4)) pa_nil)) pe_int))
  pss_nil) pss_nil)
  (pss_cons (ps_ret (pe_op op_modA (pe_callTy call_intA (by rfl) Z.z_int (by decide +kernel) (pa_cons (pe_op op_divA (pv 5) pe_int) pa_nil)) (pv 1)))
  pss_nil))))))))))), ?_⟩
    obtain ⟨sG, gs, gc, cs, l, mx, t, hsa, hcl, hcs, hl0, hx0, hx1, ht0, ht1⟩ := hS
    have nsc : sa ≠ cl := ne_of hsa hcl (by intro z; cases z)
    have st := stab0 H H
    have h0 : SP0 H H 0 H H := Grow.refl (Same.refl H)
    show tSeq _ _ (Ends.mk _ _ _ _) [some _, some _, none, none, none, none] _
    refine q_if st h0 (et_testV (ev_opV (ev_var rfl) ev_c (v_lt st))) (fun H1 p k1 h1 => ?_) (fun H1 p k1 h1 => ?_)
    · refine q_retV st h1 ev_c fun H2 k2 h2 => ?_
      have p : many < 2 := by simpa using p
      have kk := k1.trans k2
      refine q _ G H2 ⟨Same.refl _, ⟨fun b o _ e => kk.k b o (fun z => z) e, kk.v⟩, ⟨fun b o e => h2.s _ _ (sG b o e), gs, gc, cs, l, mx, t, h2.s _ _ hsa, h2.s _ _ hcl, hcs, hl0, hx0, hx1, ht0, by omega⟩, fun _ _ e => .inl e⟩ ⟨0, ⟨by decide, .inr ⟨p, rfl⟩⟩, rfl⟩
    · have p : 2 ≤ many := by simpa using p
      refine q_end ?_
      refine q_setV st h1 (ev_opV (ev_var rfl) ev_c (v_ixDs st hsa src_c)) fun H2 k2 h2 => ?_
      have hPop : PopAt sa cl mx t H cs l H2 := ⟨⟨fun b o _ e => (k1.trans k2).k b o (fun z => z) e, (k1.trans k2).v⟩, h2.s _ _ hsa, h2.s _ _ hcl, hcs, hl0⟩
      clear hsa hcl
      refine ⟨fun m σ' J => σ' = [some (.ref sa), some (.int many), some (.ref cl), none, none, none] ∧ ∃ cs l, m = cs.length ∧ PopAt sa cl mx t H cs l J, ⟨cs.length, rfl, cs, l, rfl, hPop⟩, ?_⟩
      clear hPop hcs hl0 cs l
      rintro m σ' J ⟨rfl, cs, l, rfl, kJ, hsa, hcl, hcs, hl0⟩
      have stJ := stab0 J J
      have hJ : SP0 J J 0 J J := Grow.refl (Same.refl J)
      refine et_and stJ (et_testV (ev_opV (ev_opV (ev_var rfl) ev_c (v_ixDs stJ hsa src_l)) ev_c (v_lt stJ))) (fun _ => et_testV (ev_opV (ev_cbV (ea_consV (ev_var rfl) ea_nilV) (c_lenL stJ (SqL.of hcl))) ev_c (v_gt stJ))) J J (Same.refl _) hJ _ fun b G2 J2 s2 e => ?_
      have sJ := s2.same
      have kJ2 : Kp (Src sa cl) H J2 := kJ.trans ⟨fun b o _ e => sJ b o e, fun b h => sJ.free h⟩
      have hsa2 := sJ _ _ hsa
      have hcl2 := sJ _ _ hcl
      cases b with
      | true =>
        rw [if_pos rfl]
        have e := (Bool.and_eq_true _ _).mp e.symm
        have e1 : 0 < cs.length := by have := e.2; simpa using this
        refine ⟨fun σ3 J3 => ∃ m', m' < cs.length ∧ σ3 = [some (.ref sa), some (.int many), some (.ref cl), none, none, none] ∧ ∃ cs l, m' = cs.length ∧ PopAt sa cl mx t H cs l J3, fun _ _ z => z, ?_⟩
        have ed : (cs.map V.int).dropLast = cs.dropLast.map V.int := by rw [List.map_dropLast]
        have hy : (cs.map V.int)[(cs.map V.int).length - 1]? = some (.int (cs.getD (cs.length - 1) 0)) := by
          rw [List.length_map, List.getElem?_map, List.getElem?_eq_getElem (by omega), List.getD_eq_getElem?_getD, List.getElem?_eq_getElem (by omega)]
          rfl
        refine ⟨_, rfl, .inl ⟨rfl, _, SqL.of hcl2⟩, cl, _, _, rfl, rfl, hcl2, hy, ?_⟩
        rw [ed]
        have hs3 : upd J2 cl (.lst (cs.dropLast.map V.int)) sa = some (srcD cl l mx t) := by rw [upd_ne nsc]; exact hsa2
        refine ⟨_, rfl, tC_run (.inr ⟨sa, _, rfl, DPut.k (k := .inr ("left" : Str)) hs3 src_len, ?_⟩)⟩
        rw [put_l]
        refine ⟨cs.length - 1, by omega, rfl, cs.dropLast, cs.getD (cs.length - 1) 0, by rw [List.length_dropLast], kp_upd (kp_upd kJ2 (.inr rfl)) (.inl rfl), upd_same, by rw [upd_ne (Ne.symm nsc)]; exact upd_same, fun c hc => hcs c (List.dropLast_subset _ hc), ?_⟩
        rw [List.getD_eq_getElem?_getD, List.getElem?_eq_getElem (by omega)]
        exact hcs _ (List.getElem_mem _)
      | false =>
        rw [if_neg (by decide)]
        have e : 2 ≤ l ∨ cs = [] := by
          by_cases h2 : l < 2
          · simp [h2] at e
            exact .inr e
          · exact .inl (by omega)
        generalize hB : J2 = B at *
        have stB := stab0 B B
        have hB : SP0 B B 0 B B := Grow.refl (Same.refl B)
        refine q_setV stB hB (ev_opV (ev_var rfl) ev_c (v_ixDs stB hsa2 src_l)) fun C1 kc1 hc1 => ?_
        refine q_if stB hc1 (et_testV (ev_opV (ev_var rfl) ev_c (v_gt stB))) (fun C2 p2 kc2 hc2 => ?_) (fun C2 p2 kc2 hc2 => ?_)
        · have p2 : 1 < l := by simpa using p2
          refine (ev_opV (ev_var rfl) (ev_var rfl) (v_divW stB (wide_div (b := 2000) (by omega) (by omega) (by decide) (by decide)))) B C2 (Same.refl _) hc2 _ fun v G3 C3 s3 ev => ?_
          obtain rfl : v = _ := ev
          have s3 := s3.same
          have hsa3 : C3 sa = some (srcD cl l mx t) := s3 _ _ (hc2.s _ _ hsa2)
          refine ⟨_, rfl, tC_run (.inr ⟨sa, _, rfl, DPut.k (k := .inr ("left" : Str)) hsa3 src_len, ?_⟩)⟩
          rw [put_l]
          show tSeq _ _ (Ends.mk _ _ _ _) [some (.ref sa), some (.int many), some (.ref cl), some (.int l), none, none] (upd C3 sa (srcD cl (l / many) mx t))
          have kE : Kp (Src sa cl) H (upd C3 sa (srcD cl (l / many) mx t)) := kp_upd ((kJ2.trans (Kp.of hc2.s)).trans (Kp.of s3)) (.inl rfl)
          have hE1 : upd C3 sa (srcD cl (l / many) mx t) sa = some (srcD cl (l / many) mx t) := upd_same
          have hE2 : upd C3 sa (srcD cl (l / many) mx t) cl = some (.lst (cs.map V.int)) := by
            rw [upd_ne (Ne.symm nsc)]
            exact s3 _ _ (hc2.s _ _ hcl2)
          generalize upd C3 sa (srcD cl (l / many) mx t) = C at *
          have stE := stab0 C C
          have hE : SP0 C C 0 C C := Grow.refl (Same.refl C)
          refine q_retV stE hE (ev_opV (ev_cbV (ea_consV (ev_var rfl) ea_nilV) (c_int stE)) (ev_var rfl) (v_mod stE (j := many) (by omega))) fun F kf hf => ?_
          exact q _ G F (src_end sG gs gc (kE.trans (Kp.of hf.s)) ⟨cs, _, mx, t, hf.s _ _ hE1, hf.s _ _ hE2, hcs, Int.ediv_nonneg hl0 (by omega), hx0, hx1, ht0, by omega⟩) ⟨_, ⟨Int.emod_nonneg _ (by omega), .inl (Int.emod_lt_of_pos _ (by omega))⟩, rfl⟩
        · have p2 : ¬ 1 < l := by simpa using p2
          refine q_end ?_
          refine (ev_opV (ev_opV (ev_var rfl) ev_c (v_ixDs stB hsa2 src_t)) ev_c (v_add stB)) B C2 (Same.refl _) hc2 _ fun v G3 C3 s3 ev => ?_
          obtain rfl : v = _ := ev
          have s3 := s3.same
          have hsa3 : C3 sa = some (srcD cl l mx t) := s3 _ _ (hc2.s _ _ hsa2)
          refine ⟨_, rfl, tC_run (.inr ⟨sa, _, rfl, DPut.k (k := .inr ("turn" : Str)) hsa3 src_len, ?_⟩)⟩
          rw [put_t]
          show tSeq _ _ (Ends.mk _ _ _ _) [some (.ref sa), some (.int many), some (.ref cl), some (.int l), none, none] (upd C3 sa (srcD cl l mx (t + 1)))
          have kE : Kp (Src sa cl) H (upd C3 sa (srcD cl l mx (t + 1))) := kp_upd ((kJ2.trans (Kp.of hc2.s)).trans (Kp.of s3)) (.inl rfl)
          have hE1 : upd C3 sa (srcD cl l mx (t + 1)) sa = some (srcD cl l mx (t + 1)) := upd_same
          have hE2 : upd C3 sa (srcD cl l mx (t + 1)) cl = some (.lst (cs.map V.int)) := by
            rw [upd_ne (Ne.symm nsc)]
            exact s3 _ _ (hc2.s _ _ hcl2)
          generalize upd C3 sa (srcD cl l mx (t + 1)) = C at *
          have stE := stab0 C C
          have hE : SP0 C C 0 C C := Grow.refl (Same.refl C)
          refine q_setV stE hE (ev_opV (ev_var rfl) ev_c (v_ixDs stE hE1 src_t)) fun F1 kf1 hf1 => ?_
          refine q_setV stE hf1 (ev_opV (ev_cbV (ea_consV (ev_opV (ev_opV (ev_var rfl) ev_c (v_ixDs stE hE1 src_m)) (ev_opV (ev_var rfl) ev_c (v_mul stE (.inr ⟨by decide, by decide⟩))) (v_add stE)) ea_nilV) (c_int stE)) ev_c (v_mod stE (by decide))) fun F2 kf2 hf2 => ?_
          have r1 : 0 ≤ (mx + (t + 1) * 104729) % 998244353 := Int.emod_nonneg _ (by decide)
          have r2 : (mx + (t + 1) * 104729) % 998244353 < 998244353 := Int.emod_lt_of_pos _ (by decide)
          generalize (mx + (t + 1) * 104729) % 998244353 = m1 at *
          refine q_setV stE hf2 (ev_opV (ev_cbV (ea_consV (ev_opV (ev_opV (ev_var rfl) (ev_var rfl) (v_mul stE (.inl ⟨by omega, by omega⟩))) (ev_opV (ev_var rfl) ev_c (v_mul stE (.inr ⟨by decide, by decide⟩))) (v_add stE)) ea_nilV) (c_int stE)) ev_c (v_mod stE (by decide))) fun F3 kf3 hf3 => ?_
          have r3 : 0 ≤ (m1 * m1 + (t + 1) * 17) % 2147483647 := Int.emod_nonneg _ (by decide)
          have r4 : (m1 * m1 + (t + 1) * 17) % 2147483647 < 2147483647 := Int.emod_lt_of_pos _ (by decide)
          generalize (m1 * m1 + (t + 1) * 17) % 2147483647 = m2 at *
          refine q_if stE hf3 (et_testV (ev_opV (ev_var rfl) (ev_opV ev_c ev_c (v_pow stE ⟨by decide, by decide, by decide⟩)) (v_gt stE))) (fun F4 p4 kf4 hf4 => ?_) (fun F4 p4 kf4 hf4 => ?_)
          · have p4 : (10 : Int) ^ (7 : Nat) < many := of_decide_eq_true p4.symm
            have nb : n < 2 ^ 60 := hm2 p4
            refine q_setV stE hf4 (ev_opV (ev_cbV (ea_consV (ev_opV (ev_opV (ev_var rfl) ev_c (v_mul stE (.inr ⟨by decide, by decide⟩))) (ev_var rfl) (v_add stE)) ea_nilV) (c_int stE)) ev_c (v_pow stE ⟨by decide, by decide, ?_⟩)) fun F5 kf5 hf5 => ?_
            · omega
            · refine q_end ?_
              refine q_retV stE hf5 (ev_opV (ev_cbV (ea_consV (ev_opV (ev_var rfl) ev_c (v_div stE ⟨by decide, by decide⟩)) ea_nilV) (c_int stE)) (ev_var rfl) (v_mod stE (by omega))) fun F6 kf6 hf => ?_
              exact q _ G F6 (src_end sG gs gc (kE.trans (Kp.of hf.s)) ⟨cs, _, mx, t + 1, hf.s _ _ hE1, hf.s _ _ hE2, hcs, hl0, hx0, hx1, by omega, by omega⟩) ⟨_, ⟨Int.emod_nonneg _ (by omega), .inl (Int.emod_lt_of_pos _ (by omega))⟩, rfl⟩
          · refine q_end ?_
            refine q_retV stE hf4 (ev_opV (ev_cbV (ea_consV (ev_opV (ev_var rfl) ev_c (v_div stE ⟨by decide, by decide⟩)) ea_nilV) (c_int stE)) (ev_var rfl) (v_mod stE (by omega))) fun F6 kf6 hf => ?_
            exact q _ G F6 (src_end sG gs gc (kE.trans (Kp.of hf.s)) ⟨cs, _, mx, t + 1, hf.s _ _ hE1, hf.s _ _ hE2, hcs, hl0, hx0, hx1, by omega, by omega⟩) ⟨_, ⟨Int.emod_nonneg _ (by omega), .inl (Int.emod_lt_of_pos _ (by omega))⟩, rfl⟩

abbrev s__law_classes : Stmt := top 22
theorem sc__law_classes : FnScope ["_law_e", "_law_found"] ["_law_e"] (defScope s__law_classes) := ⟨rfl, rfl, rfl, by decide +kernel, rfl, by decide +kernel, by decide +kernel⟩

abbrev s__law_bases : Stmt := top 23
theorem sc__law_bases : FnScope ["_law_e", "_law_first"] ["_law_e"] (defScope s__law_bases) := ⟨rfl, rfl, rfl, by decide +kernel, rfl, by decide +kernel, by decide +kernel⟩

abbrev s_law : Stmt := top 24
theorem sc_law : FnScope ["_law_script", "_law_state", "_law_word", "_law_count", "_law_errors", "_law_k", "_law_counts", "_law_words", "_law_j"] ["_law_script"] (defScope s_law) := ⟨rfl, rfl, rfl, by decide +kernel, rfl, by decide +kernel, by decide +kernel⟩

section
variable {a_BadScale a_MixedScales a_NoPick a_BadMap a_NegativeCount a_BadText a_BadName a_TwiceNamed a_BadCount a_BadPick a_BadPaper a_TooMany a_UnknownWorth a_UnknownDeed a_UnknownProcedure a_NoDeed a_DeedscaleError a_NameMissing : Addr} {cl : List Addr}
/-- the i-th class of errors at C -/
def PCl (K : PySem.W.Frag) (cl : List Addr) : List V → Hp → HR → Prop := fun vs G R => ∃ (u : V) (i : Nat) (C : Addr), vs = [u] ∧ cl[i]? = some C ∧ ExcC K C ∧ IsErA C u G ∧ R = IsBl ((List.range 16).map fun j => .bl (decide (i = j)))
def PBa (K : PySem.W.Frag) (cl : List Addr) : List V → Hp → HR → Prop := fun vs G R => ∃ (u : V) (i : Nat) (C : Addr), vs = [u] ∧ cl[i]? = some C ∧ ExcC K C ∧ IsErA C u G ∧ R = IsBl [.bl (decide (i < 12)), .bl (decide (i < 12)), .bl (decide (11 < i)), .bl (decide (11 < i))]
theorem ok_classes {f : Addr} {fd : FuncData} (Z : Bi mg) (hcl : cl = [a_BadScale, a_MixedScales, a_NoPick, a_BadMap, a_NegativeCount, a_BadText, a_BadName, a_TwiceNamed, a_BadCount, a_BadPick, a_BadPaper, a_TooMany, a_UnknownWorth, a_UnknownDeed, a_UnknownProcedure, a_NoDeed])
    (kt : ∀ (i j : Nat) (C D : Addr), cl[i]? = some C → cl[j]? = some D → PySem.W.kitOne K (.ref C) (.ref D) = some (decide (i = j)))
    (g_BadScale : mg "BadScale" = some (.ref a_BadScale)) (g_MixedScales : mg "MixedScales" = some (.ref a_MixedScales)) (g_NoPick : mg "NoPick" = some (.ref a_NoPick)) (g_BadMap : mg "BadMap" = some (.ref a_BadMap)) (g_NegativeCount : mg "NegativeCount" = some (.ref a_NegativeCount)) (g_BadText : mg "BadText" = some (.ref a_BadText)) (g_BadName : mg "BadName" = some (.ref a_BadName)) (g_TwiceNamed : mg "TwiceNamed" = some (.ref a_TwiceNamed))
    (g_BadCount : mg "BadCount" = some (.ref a_BadCount)) (g_BadPick : mg "BadPick" = some (.ref a_BadPick)) (g_BadPaper : mg "BadPaper" = some (.ref a_BadPaper)) (g_TooMany : mg "TooMany" = some (.ref a_TooMany)) (g_UnknownWorth : mg "UnknownWorth" = some (.ref a_UnknownWorth)) (g_UnknownDeed : mg "UnknownDeed" = some (.ref a_UnknownDeed)) (g_UnknownProcedure : mg "UnknownProcedure" = some (.ref a_UnknownProcedure)) (g_NoDeed : mg "NoDeed" = some (.ref a_NoDeed))
    (F : Fun K "_law_classes" "_law_classes" s__law_classes f fd) : FnOk P w K mg base CX0 1 f fd ["_law_e"] (spP (PCl K cl)) := by
  refine F.ok sc__law_classes (fun vs H Q E h => ?_) (fun cdv A outer s H vs Q E hr h => ?_)
  · obtain ⟨G, R, _, ⟨_, _, _, rfl, _⟩, _⟩ := h
    rfl
  · obtain ⟨G, R, hs, ⟨u, i, C, rfl, hC, T, hu, rfl⟩, q⟩ := h
    refine ⟨_, (pss_cons (ps_set (i := 1) sc__law_classes.nd rfl (Or.inl rfl) (pe_lst (pa_cons (pe_callB (call_isEr K) (by rfl) Z.z_isinstance (by decide +kernel) (pa_cons (pv 0) (pa_cons (pe_glob (v := .ref a_BadScale) rfl g_BadScale rfl) pa_nil))) (pa_cons (pe_callB (call_isEr K) (by rfl) Z.z_isinstance (by decide +kernel) (pa_cons (pv 0) (pa_cons (pe_glob (v := .ref a_MixedScales) rfl g_MixedScales rfl) pa_nil))) (pa_cons (pe_callB (call_isEr K) (by rfl) Z.z_isinstance (by decide +kernel) (pa_cons (pv 0) (pa_cons (pe_glob (v := .ref a_NoPick) rfl g_NoPick rfl) pa_nil))) (pa_cons (pe_callB (call_isEr K) (by rfl) Z.z_isinstance (by decide +kernel) (pa_cons (pv 0) (pa_cons (pe_glob (v := .ref a_BadMap) rfl g_BadMap rfl) pa_nil))) pa_nil))))))
  (pss_cons (ps_set (i := 1) sc__law_classes.nd rfl (Or.inl rfl) (pe_op op_addA (pv 1) (pe_lst (pa_cons (pe_callB (call_isEr K) (by rfl) Z.z_isinstance (by decide +kernel) (pa_cons (pv 0) (pa_cons (pe_glob (v := .ref a_NegativeCount) rfl g_NegativeCount rfl) pa_nil))) (pa_cons (pe_callB (call_isEr K) (by rfl) Z.z_isinstance (by decide +kernel) (pa_cons (pv 0) (pa_cons (pe_glob (v := .ref a_BadText) rfl g_BadText rfl) pa_nil))) (pa_cons (pe_callB (call_isEr K) (by rfl) Z.z_isinstance (by decide +kernel) (pa_cons (pv 0) (pa_cons (pe_glob (v := .ref a_BadName) rfl g_BadName rfl) pa_nil))) pa_nil))))))
  (pss_cons (ps_set (i := 1) sc__law_classes.nd rfl (Or.inl rfl) (pe_op op_addA (pv 1) (pe_lst (pa_cons (pe_callB (call_isEr K) (by rfl) Z.z_isinstance (by decide +kernel) (pa_cons (pv 0) (pa_cons (pe_glob (v := .ref a_TwiceNamed) rfl g_TwiceNamed rfl) pa_nil))) (pa_cons (pe_callB (call_isEr K) (by rfl) Z.z_isinstance (by decide +kernel) (pa_cons (pv 0) (pa_cons (pe_glob (v := .ref a_BadCount) rfl g_BadCount rfl) pa_nil))) (pa_cons (pe_callB (call_isEr K) (by rfl) Z.z_isinstance (by decide +kernel) (pa_cons (pv 0) (pa_cons (pe_glob (v := .ref a_BadPick) rfl g_BadPick rfl) pa_nil))) pa_nil))))))
  (pss_cons (ps_set (i := 1) sc__law_classes.nd rfl (Or.inl rfl) (pe_op op_addA (pv 1) (pe_lst (pa_cons (pe_callB (call_isEr K) (by rfl) Z.z_isinstance (by decide +kernel) (pa_cons (pv 0) (pa_cons (pe_glob (v := .ref a_BadPaper) rfl g_BadPaper rfl) pa_nil))) (pa_cons (pe_callB (call_isEr K) (by rfl) Z.z_isinstance (by decide +kernel) (pa_cons (pv 0) (pa_cons (pe_glob (v := .ref a_TooMany) rfl g_TooMany rfl) pa_nil))) (pa_cons (pe_callB (call_isEr K) (by rfl) Z.z_isinstance (by decide +kernel) (pa_cons (pv 0) (pa_cons (pe_glob (v := .ref a_UnknownWorth) rfl g_UnknownWorth rfl) pa_nil))) pa_nil))))))
  (pss_cons (ps_set (i := 1) sc__law_classes.nd rfl (Or.inl rfl) (pe_op op_addA (pv 1) (pe_lst (pa_cons (pe_callB (call_isEr K) (by rfl) Z.z_isinstance (by decide +kernel) (pa_cons (pv 0) (pa_cons (pe_glob (v := .ref a_UnknownDeed) rfl g_UnknownDeed rfl) pa_nil))) (pa_cons (pe_callB (call_isEr K) (by rfl) Z.z_isinstance (by decide +kernel) (pa_cons (pv 0) (pa_cons (pe_glob (v := .ref a_UnknownProcedure) rfl g_UnknownProcedure rfl) pa_nil))) (pa_cons (pe_callB (call_isEr K) (by rfl) Z.z_isinstance (by decide +kernel) (pa_cons (pv 0) (pa_cons (pe_glob (v := .ref a_NoDeed) rfl g_NoDeed rfl) pa_nil))) pa_nil))))))
  (pss_cons (ps_ret (pv 1))
  pss_nil)))))), ?_⟩
    have st := stab0 G H
    have h0 : SP0 G H 0 G H := Grow.refl hs
    show tSeq _ _ (Ends.mk _ _ _ _) [some _, none] _
    have is : ∀ {n j : Nat} {D : Addr} {G' : Hp} {σ : L2.St}, cl[j]? = some D → Same G G' → σ[0]? = some (some u) → Ev (SP0 G H) n (0 + (0 + 0)) (tCB (rIsEr K) (tCons (tVar 0) (tCons (tC (.ref D)) tNil))) σ G' (IsV (.bl (decide (i = j)))) := fun hj s hσ =>
      ev_cbV (ea_consV (ev_var hσ) (ea_consV ev_c ea_nilV)) (c_isEr st T (Mon.mon s hu) (fun _ r => r) (kt _ _ _ _ hC hj))
    subst hcl
    refine q_set h0 (ev_lstN st (ea_consV (is (j := 0) rfl (Same.refl _) rfl) (ea_consV (is (j := 1) rfl (Same.refl _) rfl) (ea_consV (is (j := 2) rfl (Same.refl _) rfl) (ea_consV (is (j := 3) rfl (Same.refl _) rfl) ea_nilV)))) (by simp)) fun v1 G1 H1 s1 r1 => ?_
    obtain ⟨p1, rfl, _, g1⟩ := r1
    have sg1 : Same G G1 := s1.g
    refine q_set (R := IsNew G1 (.lst [.bl (decide (i = 0)), .bl (decide (i = 1)), .bl (decide (i = 2)), .bl (decide (i = 3)), .bl (decide (i = 4)), .bl (decide (i = 5)), .bl (decide (i = 6))])) s1.s (ev_op (ev_var rfl) (ev_lstN st (ea_consV (is (j := 4) rfl sg1 rfl) (ea_consV (is (j := 5) rfl sg1 rfl) (ea_consV (is (j := 6) rfl sg1 rfl) ea_nilV))) (by simp)) fun a b G' s' ea eb => ?_) fun v2 G2 H2 s2 r2 => ?_
    · obtain rfl := (show _ = _ from ea)
      obtain ⟨p, rfl, _, g⟩ := eb
      exact rv_imp (v_cat st (s' _ _ g1) g (by simp)) fun v G'' s'' ⟨p, e, f, g⟩ => ⟨p, e, s'.free f, g⟩
    obtain ⟨p2, rfl, _, g2⟩ := r2
    have sg2 : Same G G2 := sg1.trans s2.g
    refine q_set (R := IsNew G2 (.lst [.bl (decide (i = 0)), .bl (decide (i = 1)), .bl (decide (i = 2)), .bl (decide (i = 3)), .bl (decide (i = 4)), .bl (decide (i = 5)), .bl (decide (i = 6)), .bl (decide (i = 7)), .bl (decide (i = 8)), .bl (decide (i = 9))])) s2.s (ev_op (ev_var rfl) (ev_lstN st (ea_consV (is (j := 7) rfl sg2 rfl) (ea_consV (is (j := 8) rfl sg2 rfl) (ea_consV (is (j := 9) rfl sg2 rfl) ea_nilV))) (by simp)) fun a b G' s' ea eb => ?_) fun v3 G3 H3 s3 r3 => ?_
    · obtain rfl := (show _ = _ from ea)
      obtain ⟨p, rfl, _, g⟩ := eb
      exact rv_imp (v_cat st (s' _ _ g2) g (by simp)) fun v G'' s'' ⟨p, e, f, g⟩ => ⟨p, e, s'.free f, g⟩
    obtain ⟨p3, rfl, _, g3⟩ := r3
    have sg3 : Same G G3 := sg2.trans s3.g
    refine q_set (R := IsNew G3 (.lst [.bl (decide (i = 0)), .bl (decide (i = 1)), .bl (decide (i = 2)), .bl (decide (i = 3)), .bl (decide (i = 4)), .bl (decide (i = 5)), .bl (decide (i = 6)), .bl (decide (i = 7)), .bl (decide (i = 8)), .bl (decide (i = 9)), .bl (decide (i = 10)), .bl (decide (i = 11)), .bl (decide (i = 12))])) s3.s (ev_op (ev_var rfl) (ev_lstN st (ea_consV (is (j := 10) rfl sg3 rfl) (ea_consV (is (j := 11) rfl sg3 rfl) (ea_consV (is (j := 12) rfl sg3 rfl) ea_nilV))) (by simp)) fun a b G' s' ea eb => ?_) fun v4 G4 H4 s4 r4 => ?_
    · obtain rfl := (show _ = _ from ea)
      obtain ⟨p, rfl, _, g⟩ := eb
      exact rv_imp (v_cat st (s' _ _ g3) g (by simp)) fun v G'' s'' ⟨p, e, f, g⟩ => ⟨p, e, s'.free f, g⟩
    obtain ⟨p4, rfl, _, g4⟩ := r4
    have sg4 : Same G G4 := sg3.trans s4.g
    refine q_set (R := IsNew G4 (.lst [.bl (decide (i = 0)), .bl (decide (i = 1)), .bl (decide (i = 2)), .bl (decide (i = 3)), .bl (decide (i = 4)), .bl (decide (i = 5)), .bl (decide (i = 6)), .bl (decide (i = 7)), .bl (decide (i = 8)), .bl (decide (i = 9)), .bl (decide (i = 10)), .bl (decide (i = 11)), .bl (decide (i = 12)), .bl (decide (i = 13)), .bl (decide (i = 14)), .bl (decide (i = 15))])) s4.s (ev_op (ev_var rfl) (ev_lstN st (ea_consV (is (j := 13) rfl sg4 rfl) (ea_consV (is (j := 14) rfl sg4 rfl) (ea_consV (is (j := 15) rfl sg4 rfl) ea_nilV))) (by simp)) fun a b G' s' ea eb => ?_) fun v5 G5 H5 s5 r5 => ?_
    · obtain rfl := (show _ = _ from ea)
      obtain ⟨p, rfl, _, g⟩ := eb
      exact rv_imp (v_cat st (s' _ _ g4) g (by simp)) fun v G'' s'' ⟨p, e, f, g⟩ => ⟨p, e, s'.free f, g⟩
    obtain ⟨p5, rfl, _, g5⟩ := r5
    exact q_ret s5.s (ev_var rfl) fun v G6 H6 s6 r6 => q v G6 H6 s6.s ⟨p5, r6, s6.g _ _ g5⟩
theorem ok_bases {f : Addr} {fd : FuncData} (Z : Bi mg) (kD : ∀ (i : Nat) (C : Addr), cl[i]? = some C → PySem.W.kitOne K (.ref C) (.ref a_DeedscaleError) = some (decide (i < 12))) (kV : ∀ (i : Nat) (C : Addr), cl[i]? = some C → PySem.W.kitOne K (.ref C) (.type "ValueError") = some (decide (i < 12)))
    (kN : ∀ (i : Nat) (C : Addr), cl[i]? = some C → PySem.W.kitOne K (.ref C) (.ref a_NameMissing) = some (decide (11 < i))) (kL : ∀ (i : Nat) (C : Addr), cl[i]? = some C → PySem.W.kitOne K (.ref C) (.type "LookupError") = some (decide (11 < i))) (g_DeedscaleError : mg "DeedscaleError" = some (.ref a_DeedscaleError)) (g_NameMissing : mg "NameMissing" = some (.ref a_NameMissing))
    (F : Fun K "_law_bases" "_law_bases" s__law_bases f fd) : FnOk P w K mg base CX0 1 f fd ["_law_e"] (spP (PBa K cl)) := by
  refine F.ok sc__law_bases (fun vs H Q E h => ?_) (fun cdv A outer s H vs Q E hr h => ?_)
  · obtain ⟨G, R, _, ⟨_, _, _, rfl, _⟩, _⟩ := h
    rfl
  · obtain ⟨G, R, hs, ⟨u, i, C, rfl, hC, T, hu, rfl⟩, q⟩ := h
    refine ⟨_, (pss_cons (ps_set (i := 1) sc__law_bases.nd rfl (Or.inl rfl) (pe_lst (pa_cons (pe_callB (call_isEr K) (by rfl) Z.z_isinstance (by decide +kernel) (pa_cons (pv 0) (pa_cons (pe_glob (v := .ref a_DeedscaleError) rfl g_DeedscaleError rfl) pa_nil))) (pa_cons (pe_callB (call_isEr K) (by rfl) Z.z_isinstance (by decide +kernel) (pa_cons (pv 0) (pa_cons (pe_bltn (v := .ty "ValueError") (by rfl) Z.z_ValueError (by decide +kernel) rfl) pa_nil))) pa_nil))))
  (pss_cons (ps_ret (pe_op op_addA (pv 1) (pe_lst (pa_cons (pe_callB (call_isEr K) (by rfl) Z.z_isinstance (by decide +kernel) (pa_cons (pv 0) (pa_cons (pe_glob (v := .ref a_NameMissing) rfl g_NameMissing rfl) pa_nil))) (pa_cons (pe_callB (call_isEr K) (by rfl) Z.z_isinstance (by decide +kernel) (pa_cons (pv 0) (pa_cons (pe_bltn (v := .ty "LookupError") (by rfl) Z.z_LookupError (by decide +kernel) rfl) pa_nil))) pa_nil)))))
  pss_nil)), ?_⟩
    have st := stab0 G H
    have h0 : SP0 G H 0 G H := Grow.refl hs
    show tSeq _ _ (Ends.mk _ _ _ _) [some _, none] _
    refine q_set h0 (ev_lstN st (ea_consV (ev_cbV (ea_consV (ev_var rfl) (ea_consV ev_c ea_nilV)) (c_isEr st T hu (fun _ r => r) (kD _ _ hC))) (ea_consV (ev_cbV (ea_consV (ev_var rfl) (ea_consV ev_c ea_nilV)) (c_isEr st T hu (fun _ r => r) (kV _ _ hC))) ea_nilV)) (by simp)) fun v1 G1 H1 s1 r1 => ?_
    obtain ⟨p1, rfl, _, g1⟩ := r1
    have hu1 := Mon.mon s1.g hu
    refine q_ret s1.s (R := IsBl [.bl (decide (i < 12)), .bl (decide (i < 12)), .bl (decide (11 < i)), .bl (decide (11 < i))]) (ev_op (ev_var rfl) (ev_lstN st (ea_consV (ev_cbV (ea_consV (ev_var rfl) (ea_consV ev_c ea_nilV)) (c_isEr st T hu1 (fun _ r => r) (kN _ _ hC))) (ea_consV (ev_cbV (ea_consV (ev_var rfl) (ea_consV ev_c ea_nilV)) (c_isEr st T hu1 (fun _ r => r) (kL _ _ hC))) ea_nilV)) (by simp)) fun a b G' s' ea eb => ?_) fun v G6 H6 s6 r6 => q v G6 H6 s6.s r6
    obtain rfl := (show _ = _ from ea)
    obtain ⟨p, rfl, _, g⟩ := eb
    exact rv_imp (v_cat st (s' _ _ g1) g (by simp)) fun v G'' s'' ⟨p, e, f, g⟩ => ⟨p, e, g⟩
theorem ok_law {f_NegativeCount f_BadText f_BadName f_TwiceNamed f_BadCount f_BadPick f_BadPaper f_TooMany f_UnknownWorth f_UnknownDeed f_UnknownProcedure f_NoDeed : Addr} {f : Addr} {fd : FuncData} (Z : Bi mg) (hcl : cl = [a_BadScale, a_MixedScales, a_NoPick, a_BadMap, a_NegativeCount, a_BadText, a_BadName, a_TwiceNamed, a_BadCount, a_BadPick, a_BadPaper, a_TooMany, a_UnknownWorth, a_UnknownDeed, a_UnknownProcedure, a_NoDeed]) (T : ∀ C ∈ cl, ExcC K C)
    (c__law_source : Callee P w K mg base "_law_source" CX0 1 ["_law_script"] [] (sp_source K)) (c__law_pick : Callee P w K mg base "_law_pick" CX0 1 ["_law_source_here", "_law_many"] [] sp_pick)
    (c__law_classes : Callee P w K mg base "_law_classes" CX0 1 ["_law_e"] [] (spP (PCl K cl))) (c__law_bases : Callee P w K mg base "_law_bases" CX0 1 ["_law_e"] [] (spP (PBa K cl)))
    (q_BadScale : PySem.W.excIn K a_BadScale (eTail "ValueError") "ValueError.__new__" = true) (m_BadScale : mg "BadScale" = some (.ref a_BadScale)) (k_BadScale : PySem.W.keepIn K (.ref a_BadScale) = true) (q_MixedScales : PySem.W.excIn K a_MixedScales (eTail "ValueError") "ValueError.__new__" = true) (m_MixedScales : mg "MixedScales" = some (.ref a_MixedScales)) (k_MixedScales : PySem.W.keepIn K (.ref a_MixedScales) = true) (q_NoPick : PySem.W.excIn K a_NoPick (eTail "ValueError") "ValueError.__new__" = true) (m_NoPick : mg "NoPick" = some (.ref a_NoPick)) (k_NoPick : PySem.W.keepIn K (.ref a_NoPick) = true) (q_BadMap : PySem.W.excIn K a_BadMap (eTail "ValueError") "ValueError.__new__" = true) (m_BadMap : mg "BadMap" = some (.ref a_BadMap)) (k_BadMap : PySem.W.keepIn K (.ref a_BadMap) = true) (x_NegativeCount : ExI P K mg a_NegativeCount f_NegativeCount "count" "ValueError" "ValueError.__new__" "ValueError.__init__") (m_NegativeCount : mg "NegativeCount" = some (.ref a_NegativeCount)) (xg_NegativeCount : ExG K a_NegativeCount "count") (x_BadText : ExI P K mg a_BadText f_BadText "at" "ValueError" "ValueError.__new__" "ValueError.__init__") (m_BadText : mg "BadText" = some (.ref a_BadText)) (xg_BadText : ExG K a_BadText "at") (x_BadName : ExI P K mg a_BadName f_BadName "name" "ValueError" "ValueError.__new__" "ValueError.__init__") (m_BadName : mg "BadName" = some (.ref a_BadName)) (xg_BadName : ExG K a_BadName "name") (x_TwiceNamed : ExI P K mg a_TwiceNamed f_TwiceNamed "name" "ValueError" "ValueError.__new__" "ValueError.__init__") (m_TwiceNamed : mg "TwiceNamed" = some (.ref a_TwiceNamed)) (xg_TwiceNamed : ExG K a_TwiceNamed "name") (x_BadCount : ExI P K mg a_BadCount f_BadCount "count" "ValueError" "ValueError.__new__" "ValueError.__init__") (m_BadCount : mg "BadCount" = some (.ref a_BadCount)) (xg_BadCount : ExG K a_BadCount "count") (x_BadPick : ExI P K mg a_BadPick f_BadPick "number" "ValueError" "ValueError.__new__" "ValueError.__init__") (m_BadPick : mg "BadPick" = some (.ref a_BadPick)) (xg_BadPick : ExG K a_BadPick "number") (x_BadPaper : ExI P K mg a_BadPaper f_BadPaper "number" "ValueError" "ValueError.__new__" "ValueError.__init__") (m_BadPaper : mg "BadPaper" = some (.ref a_BadPaper)) (xg_BadPaper : ExG K a_BadPaper "number") (x_TooMany : ExI P K mg a_TooMany f_TooMany "size" "ValueError" "ValueError.__new__" "ValueError.__init__") (m_TooMany : mg "TooMany" = some (.ref a_TooMany)) (xg_TooMany : ExG K a_TooMany "size") (x_UnknownWorth : ExI P K mg a_UnknownWorth f_UnknownWorth "name" "LookupError" "LookupError.__new__" "LookupError.__init__") (m_UnknownWorth : mg "UnknownWorth" = some (.ref a_UnknownWorth)) (xg_UnknownWorth : ExG K a_UnknownWorth "name") (x_UnknownDeed : ExI P K mg a_UnknownDeed f_UnknownDeed "name" "LookupError" "LookupError.__new__" "LookupError.__init__") (m_UnknownDeed : mg "UnknownDeed" = some (.ref a_UnknownDeed)) (xg_UnknownDeed : ExG K a_UnknownDeed "name") (x_UnknownProcedure : ExI P K mg a_UnknownProcedure f_UnknownProcedure "name" "LookupError" "LookupError.__new__" "LookupError.__init__") (m_UnknownProcedure : mg "UnknownProcedure" = some (.ref a_UnknownProcedure)) (xg_UnknownProcedure : ExG K a_UnknownProcedure "name") (x_NoDeed : ExI P K mg a_NoDeed f_NoDeed "number" "LookupError" "LookupError.__new__" "LookupError.__init__") (m_NoDeed : mg "NoDeed" = some (.ref a_NoDeed)) (xg_NoDeed : ExG K a_NoDeed "number") 
    (F : Fun K "law" "law" s_law f fd) : FnOk P w K mg base CX0 6 f fd ["_law_script"] (sp_law K) := by
  refine F.ok sc_law (fun vs H Q E h => ?_) (fun cdv A outer s H vs Q E hr h => ?_)
  · obtain ⟨_, _, rfl, _⟩ := h
    rfl
  · obtain ⟨p, ns, rfl, hq, hl, q⟩ := h
    refine ⟨_, (pss_cons (ps_set (i := 1) sc_law.nd rfl (Or.inl rfl) (pe_callC c__law_source (hr.mono (by decide)) pass0 (pa_cons (pv 0) pa_nil)))
  (pss_cons (ps_set (i := 2) sc_law.nd rfl (Or.inl rfl) (pe_ix (ix_any K (hu_of hr)) (pe_lst (pa_cons pe_str (pa_cons pe_str (pa_cons pe_str (pa_cons (pe_op op_mulE pe_str pe_int) pa_nil))))) (pe_callC c__law_pick (hr.mono (by decide)) pass0 (pa_cons (pv 1) (pa_cons pe_int pa_nil))) (fun _ _ => rfl)))
  (pss_cons (ps_set (i := 3) sc_law.nd rfl (Or.inl rfl) (pe_op op_subA (pe_callC c__law_pick (hr.mono (by decide)) pass0 (pa_cons (pv 1) (pa_cons (pe_op op_pow pe_int pe_int) pa_nil))) (pe_op op_mulE (pe_callC c__law_pick (hr.mono (by decide)) pass0 (pa_cons (pv 1) (pa_cons pe_int pa_nil))) (pe_op op_pow pe_int pe_int))))
  (pss_cons (ps_set (i := 4) sc_law.nd rfl (Or.inl rfl) (pe_lst (pa_cons (pe_er0 PySem.F.excBase_ValueError q_BadScale m_BadScale k_BadScale) (pa_cons (pe_er0 PySem.F.excBase_ValueError q_MixedScales m_MixedScales k_MixedScales) (pa_cons (pe_er0 PySem.F.excBase_ValueError q_NoPick m_NoPick k_NoPick) (pa_cons (pe_er0 PySem.F.excBase_ValueError q_BadMap m_BadMap k_BadMap) (pa_cons (pe_erX ebV x_NegativeCount m_NegativeCount hr (pa_cons (pv 3) pa_nil)) (pa_cons (pe_erX ebV x_BadText m_BadText hr (pa_cons (pv 3) pa_nil)) (pa_cons (pe_erX ebV x_BadName m_BadName hr (pa_cons (pv 2) pa_nil)) pa_nil)))))))))
  (pss_cons (ps_set (i := 4) sc_law.nd rfl (Or.inl rfl) (pe_op op_addA (pv 4) (pe_lst (pa_cons (pe_erX ebV x_TwiceNamed m_TwiceNamed hr (pa_cons (pv 2) pa_nil)) (pa_cons (pe_erX ebV x_BadCount m_BadCount hr (pa_cons (pv 3) pa_nil)) (pa_cons (pe_erX ebV x_BadPick m_BadPick hr (pa_cons (pv 3) pa_nil)) (pa_cons (pe_erX ebV x_BadPaper m_BadPaper hr (pa_cons (pv 3) pa_nil)) (pa_cons (pe_erX ebV x_TooMany m_TooMany hr (pa_cons (pv 3) pa_nil)) pa_nil))))))))
  (pss_cons (ps_set (i := 4) sc_law.nd rfl (Or.inl rfl) (pe_op op_addA (pv 4) (pe_lst (pa_cons (pe_erX ebL x_UnknownWorth m_UnknownWorth hr (pa_cons (pv 2) pa_nil)) (pa_cons (pe_erX ebL x_UnknownDeed m_UnknownDeed hr (pa_cons (pv 2) pa_nil)) (pa_cons (pe_erX ebL x_UnknownProcedure m_UnknownProcedure hr (pa_cons (pv 2) pa_nil)) (pa_cons (pe_erX ebL x_NoDeed m_NoDeed hr (pa_cons (pv 3) pa_nil)) pa_nil)))))))
  (pss_cons (ps_for PassesOwn.never rfl (pi_range1 (by rfl) Z.z_range (pa_cons pe_int pa_nil)) (pg_name (i := 5) sc_law.nd rfl (Or.inr rfl)) (pss_cons (ps_if (pt_cmpR (op_neA K hr.units) (pe_callC c__law_classes (hr.mono (by decide)) pass0 (pa_cons (pe_ix (ix_any K (hu_of hr)) (pv 4) (pv 5) (fun _ _ => rfl)) pa_nil)) (pe_lc (own := [("_law_j", 8)]) (g := (gName 8)) rfl sc_law.nd (pi_range1 (by rfl) Z.z_range (pa_cons pe_int pa_nil)) (blkOk_by (by kernel_rfl)) (fun _ _ _ _ _ => (pg_name (i := 8) sc_law.nd rfl (Or.inl rfl))) (fun _ _ _ _ _ => pts_nil) (fun _ _ _ _ _ => (pe_cmpR (op_eqA K hr.units) (pv 8) (pv 5) (nomark _)))) (nomark _)) (pss_cons (ps_ret pe_bl)
  pss_nil) pss_nil)
  (pss_cons (ps_if (pt_cmpR (op_neA K hr.units) (pe_callC c__law_bases (hr.mono (by decide)) pass0 (pa_cons (pe_ix (ix_any K (hu_of hr)) (pv 4) (pv 5) (fun _ _ => rfl)) pa_nil)) (pe_lst (pa_cons (pe_cmpR op_ltA (pv 5) pe_int (nomark _)) (pa_cons (pe_cmpR op_ltA (pv 5) pe_int (nomark _)) (pa_cons (pe_cmpR op_gtA (pv 5) pe_int (nomark _)) (pa_cons (pe_cmpR op_gtA (pv 5) pe_int (nomark _)) pa_nil))))) (nomark _)) (pss_cons (ps_ret pe_bl)
  pss_nil) pss_nil)
  pss_nil)))
  (pss_cons (ps_set (i := 6) sc_law.nd rfl (Or.inl rfl) (pe_lst (pa_cons (pe_fldE K (pe_ix (ix_any K (hu_of hr)) (pv 4) pe_int (fun _ _ => rfl))) (pa_cons (pe_fldE K (pe_ix (ix_any K (hu_of hr)) (pv 4) pe_int (fun _ _ => rfl))) (pa_cons (pe_fldE K (pe_ix (ix_any K (hu_of hr)) (pv 4) pe_int (fun _ _ => rfl))) (pa_cons (pe_fldE K (pe_ix (ix_any K (hu_of hr)) (pv 4) pe_int (fun _ _ => rfl))) (pa_cons (pe_fldE K (pe_ix (ix_any K (hu_of hr)) (pv 4) pe_int (fun _ _ => rfl))) (pa_cons (pe_fldE K (pe_ix (ix_any K (hu_of hr)) (pv 4) pe_int (fun _ _ => rfl))) pa_nil))))))))
  (pss_cons (ps_expr (pe_bm PySem.F.plainAttrs_list PySem.F.slot_list_append PySem.F.type_list_append mt_append (pv 6) (pa_cons (pe_fldE K (pe_ix (ix_any K (hu_of hr)) (pv 4) pe_int (fun _ _ => rfl))) pa_nil)))
  (pss_cons (ps_set (i := 7) sc_law.nd rfl (Or.inl rfl) (pe_lst (pa_cons (pe_fldE K (pe_ix (ix_any K (hu_of hr)) (pv 4) pe_int (fun _ _ => rfl))) (pa_cons (pe_fldE K (pe_ix (ix_any K (hu_of hr)) (pv 4) pe_int (fun _ _ => rfl))) (pa_cons (pe_fldE K (pe_ix (ix_any K (hu_of hr)) (pv 4) pe_int (fun _ _ => rfl))) (pa_cons (pe_fldE K (pe_ix (ix_any K (hu_of hr)) (pv 4) pe_int (fun _ _ => rfl))) (pa_cons (pe_fldE K (pe_ix (ix_any K (hu_of hr)) (pv 4) pe_int (fun _ _ => rfl))) pa_nil)))))))
  (pss_cons (ps_ret (pe_and (pe_cmpR (op_eqA K hr.units) (pv 6) (pe_op op_mulE (pe_lst (pa_cons (pv 3) pa_nil)) pe_int) (nomark _)) (pe_one (pe_cmpR (op_eqA K hr.units) (pv 7) (pe_op op_mulE (pe_lst (pa_cons (pv 2) pa_nil)) pe_int) (nomark _)))))
  pss_nil))))))))))), ?_⟩
    show tSeq _ _ (Ends.mk _ _ _ _) [some _, none, none, none, none, none, none, none, none] _
    refine q_source (fun Q q => ⟨_, rfl, q⟩) hq (by omega) fun sa sl H1 h1 => ?_
    have st := stabS sa sl
    refine q_set (R := IsS fun s => PyData.strOk s = true) h1 (ev_op (ev_lstN st (ea_consV ev_c (ea_consV ev_c (ea_consV ev_c (ea_consV (ev_opV ev_c ev_c (v_mulS st (by decide) (by decide) (by decide +kernel) (by decide +kernel) (by decide +kernel))) ea_nilV)))) (by simp)) (ev_pick (ea_consV (ev_var rfl) (ea_consV ev_c ea_nilV)) (by decide) (by decide)) fun u v G2 s2 eu ev => ?_) fun v2 G2 H2 s2 r2 => ?_
    · obtain ⟨pw, rfl, _, gw⟩ := eu
      obtain ⟨i, hi, rfl⟩ := ev
      obtain ⟨i', rfl⟩ : ∃ a : Nat, i = (a : Nat) := ⟨i.toNat, by omega⟩
      have hi4 : i' = 0 ∨ i' = 1 ∨ i' = 2 ∨ i' = 3 := by omega
      rcases hi4 with rfl | rfl | rfl | rfl
      · exact rv_imp (v_ixL st (SqL.of gw) (atI_nat rfl)) fun v G3 s3 r => ⟨_, by decide +kernel, r⟩
      · exact rv_imp (v_ixL st (SqL.of gw) (atI_nat rfl)) fun v G3 s3 r => ⟨_, by decide +kernel, r⟩
      · exact rv_imp (v_ixL st (SqL.of gw) (atI_nat rfl)) fun v G3 s3 r => ⟨_, by decide +kernel, r⟩
      · exact rv_imp (v_ixL st (SqL.of gw) (atI_nat rfl)) fun v G3 s3 r => ⟨_, by decide +kernel, r⟩
    obtain ⟨wd, hwd, rfl⟩ := r2
    refine q_set (R := IsI fun _ => True) s2.s (ev_op (ev_callSV (R := IsI fun r => 0 ≤ r ∧ (r < (10 : Int) ^ (30 : Int).toNat ∨ ((10 : Int) ^ (30 : Int).toNat < 2 ∧ r = 0))) (kb := 1) (ws := [.ref sa, .int ((10 : Int) ^ (30 : Int).toNat)]) (ea_consV (ev_var rfl) (ea_consV (ev_opV ev_c ev_c (v_pow st ⟨by decide, by decide, by decide⟩)) ea_nilV)) fun G3 s3 => ⟨_, rfl, by decide +kernel, fun _ => by decide +kernel, rfl, rfl⟩)
      (ev_op (R := IsI fun _ => True) (ev_pick (ea_consV (ev_var rfl) (ea_consV ev_c ea_nilV)) (by decide) (by decide)) (ev_opV ev_c ev_c (v_pow st ⟨by decide, by decide, by decide⟩)) fun u v G3 s3 eu ev => ?_) fun u v G3 s3 eu ev => ?_) fun v3 G3 H3 s3 r3 => ?_
    · obtain ⟨i, hi, rfl⟩ := eu
      obtain rfl := (show _ = _ from ev)
      exact rv_imp (v_mulE st (.inl ⟨by omega, by omega⟩)) fun v G2 s2 r => ⟨_, trivial, r⟩
    · obtain ⟨i, hi, rfl⟩ := eu
      obtain ⟨j, hj, rfl⟩ := ev
      exact rv_imp (v_sub st) fun v G2 s2 r => ⟨_, trivial, r⟩
    obtain ⟨c, _, rfl⟩ := r3
    refine q_set s3.s (ev_erL st (ss := [(a_BadScale, none), (a_MixedScales, none), (a_NoPick, none), (a_BadMap, none), (a_NegativeCount, some (("count" : Str), V.int c)), (a_BadText, some (("at" : Str), V.int c)), (a_BadName, some (("name" : Str), V.str wd))]) (ea_erC (ev_erS0 st) (ea_erC (ev_erS0 st) (ea_erC (ev_erS0 st) (ea_erC (ev_erS0 st) (ea_erC (ev_erSX st (ea_consV (ev_var rfl) ea_nilV)) (ea_erC (ev_erSX st (ea_consV (ev_var rfl) ea_nilV)) (ea_erC (ev_erSX st (ea_consV (ev_var rfl) ea_nilV)) ea_erN))))))) (by simp)) fun v4 G4 H4 s4 r4 => ?_
    obtain ⟨p4, x4, rfl, g4, e4⟩ := r4
    refine q_set (R := IsLX (RE [(a_BadScale, none), (a_MixedScales, none), (a_NoPick, none), (a_BadMap, none), (a_NegativeCount, some (("count" : Str), V.int c)), (a_BadText, some (("at" : Str), V.int c)), (a_BadName, some (("name" : Str), V.str wd)), (a_TwiceNamed, some (("name" : Str), V.str wd)), (a_BadCount, some (("count" : Str), V.int c)), (a_BadPick, some (("number" : Str), V.int c)), (a_BadPaper, some (("number" : Str), V.int c)), (a_TooMany, some (("size" : Str), V.int c))])) s4.s (ev_op (ev_var rfl) (ev_erL st (ss := [(a_TwiceNamed, some (("name" : Str), V.str wd)), (a_BadCount, some (("count" : Str), V.int c)), (a_BadPick, some (("number" : Str), V.int c)), (a_BadPaper, some (("number" : Str), V.int c)), (a_TooMany, some (("size" : Str), V.int c))]) (ea_erC (ev_erSX st (ea_consV (ev_var rfl) ea_nilV)) (ea_erC (ev_erSX st (ea_consV (ev_var rfl) ea_nilV)) (ea_erC (ev_erSX st (ea_consV (ev_var rfl) ea_nilV)) (ea_erC (ev_erSX st (ea_consV (ev_var rfl) ea_nilV)) (ea_erC (ev_erSX st (ea_consV (ev_var rfl) ea_nilV)) ea_erN))))) (by simp)) fun a b G' s' ea eb => ?_) fun v5 G5 H5 s5 r5 => ?_
    · obtain rfl := (show _ = _ from ea)
      obtain ⟨p, x, rfl, g, e⟩ := eb
      exact v_catE st (s' _ _ g4) (re_mon s' e4) g e (by simp)
    obtain ⟨p5, x5, rfl, g5, e5⟩ := r5
    refine q_set (R := IsLX (RE [(a_BadScale, none), (a_MixedScales, none), (a_NoPick, none), (a_BadMap, none), (a_NegativeCount, some (("count" : Str), V.int c)), (a_BadText, some (("at" : Str), V.int c)), (a_BadName, some (("name" : Str), V.str wd)), (a_TwiceNamed, some (("name" : Str), V.str wd)), (a_BadCount, some (("count" : Str), V.int c)), (a_BadPick, some (("number" : Str), V.int c)), (a_BadPaper, some (("number" : Str), V.int c)), (a_TooMany, some (("size" : Str), V.int c)), (a_UnknownWorth, some (("name" : Str), V.str wd)), (a_UnknownDeed, some (("name" : Str), V.str wd)), (a_UnknownProcedure, some (("name" : Str), V.str wd)), (a_NoDeed, some (("number" : Str), V.int c))])) s5.s (ev_op (ev_var rfl) (ev_erL st (ss := [(a_UnknownWorth, some (("name" : Str), V.str wd)), (a_UnknownDeed, some (("name" : Str), V.str wd)), (a_UnknownProcedure, some (("name" : Str), V.str wd)), (a_NoDeed, some (("number" : Str), V.int c))]) (ea_erC (ev_erSX st (ea_consV (ev_var rfl) ea_nilV)) (ea_erC (ev_erSX st (ea_consV (ev_var rfl) ea_nilV)) (ea_erC (ev_erSX st (ea_consV (ev_var rfl) ea_nilV)) (ea_erC (ev_erSX st (ea_consV (ev_var rfl) ea_nilV)) ea_erN)))) (by simp)) fun a b G' s' ea eb => ?_) fun v6 G6 H6 s6 r6 => ?_
    · obtain rfl := (show _ = _ from ea)
      obtain ⟨p, x, rfl, g, e⟩ := eb
      exact v_catE st (s' _ _ g5) (re_mon s' e5) g e (by simp)
    obtain ⟨p6, xs, rfl, g6, e6⟩ := r6
    obtain ⟨ss, hss⟩ : ∃ ss : List (Addr × Option (Str × V)), ss = [(a_BadScale, none), (a_MixedScales, none), (a_NoPick, none), (a_BadMap, none), (a_NegativeCount, some (("count" : Str), V.int c)), (a_BadText, some (("at" : Str), V.int c)), (a_BadName, some (("name" : Str), V.str wd)), (a_TwiceNamed, some (("name" : Str), V.str wd)), (a_BadCount, some (("count" : Str), V.int c)), (a_BadPick, some (("number" : Str), V.int c)), (a_BadPaper, some (("number" : Str), V.int c)), (a_TooMany, some (("size" : Str), V.int c)), (a_UnknownWorth, some (("name" : Str), V.str wd)), (a_UnknownDeed, some (("name" : Str), V.str wd)), (a_UnknownProcedure, some (("name" : Str), V.str wd)), (a_NoDeed, some (("number" : Str), V.int c))] := ⟨_, rfl⟩
    rw [← hss] at e6
    have hcs : ss.map (·.1) = cl := by rw [hss, hcl]; rfl
    have hlen : ss.length = 16 := by rw [hss]; rfl
    have hcl2 : ∀ {j : Nat} {s : Addr × Option (Str × V)}, ss[j]? = some s → cl[j]? = some s.1 ∧ ExcC K s.1 := fun {j s} e => by
      have e2 : cl[j]? = some s.1 := by rw [← hcs, List.getElem?_map, e]; rfl
      exact ⟨e2, T _ (List.mem_of_getElem? e2)⟩
    clear hcs
    refine q_forR (m := 16) st s6.s (ea_consV ev_c ea_nilV) (fun _ => 0) (fun j σ' G' H' => ∃ a, σ' = [some (.ref p), some (.ref sa), some (.str wd), some (.int c), some (.ref p6), a, none, none, none]) rfl (by decide) (by decide) (fun H7 k7 h7 => ⟨_, rfl⟩) (fun j σ' G7 H7 hj s7 h7 hp => ?_) (fun σ' G7 H7 s7 h7 hp => ?_)
    · obtain ⟨a, rfl⟩ := hp
      show tSeq _ _ (Ends.mk _ _ _ _) [some (.ref p), some (.ref sa), some (.str wd), some (.int c), some (.ref p6), some (.int (j : Nat)), none, none, none] _
      obtain ⟨s0, hs0⟩ : ∃ s0, ss[j]? = some s0 := ⟨_, List.getElem?_eq_getElem (by omega)⟩
      obtain ⟨hc1, hc2⟩ := hcl2 hs0
      obtain ⟨u, hu, he⟩ := re_get e6 hs0
      have hea := Mon.mon s7 he.any
      have ix : ∀ {n : Nat} {σ : L2.St} {G8 : Hp}, Same G7 G8 → σ[4]? = some (some (.ref p6)) → σ[5]? = some (some (.int (j : Nat))) → EvA (Src sa sl) n (0 + 0 + 0) (tCons (tOp (rIxA K) (tVar 4) (tVar 5)) tNil) σ G8 (IsVs [u]) := fun s8 a b => ea_consV (ev_opV (ev_var a) (ev_var b) (v_ixL st (SqL.of (s8 _ _ (s7 _ _ g6))) (atI_nat hu))) ea_nilV
      refine q_if st h7 (et_test (P := fun b => b = false) (ev_op (Ra := IsBl ((List.range 16).map fun i => .bl (decide (j = i)))) (ev_callV (ws := [u]) st (ix (Same.refl _) rfl rfl) fun G8 s8 => ⟨u, j, s0.1, rfl, hc1, hc2, Mon.mon s8 hea, rfl⟩) (ev_lcR (c1 := 0) st (fun i => IsV (.bl (decide (((i : Nat) : Int) = ((j : Nat) : Int))))) (ea_consV ev_c ea_nilV) (by decide) (by decide) (fun i G8 hi s8 => ev_opV (ev_var rfl) (ev_var rfl) (v_eqI st)) (fun _ => rfl)) fun a b G8 s8 ea eb => ?_)) (fun H8 p8 k8 h8 => ?_) (fun H8 p8 k8 h8 => ?_)
      · obtain ⟨q1, rfl, b1⟩ := ea
        obtain ⟨q2, ys, rfl, _, b2, l2, r2⟩ := eb
        have e : ys = (List.range 16).map fun i => V.bl (decide (j = i)) := by
          refine List.ext_getElem? fun i => ?_
          rw [List.getElem?_map]
          by_cases hi : i < 16
          · have l3 : ys.length = 16 := l2
            have e1 : ys[i]? = some ys[i] := List.getElem?_eq_getElem (by omega)
            rw [e1, show ys[i] = V.bl (decide (((i : Nat) : Int) = ((j : Nat) : Int))) from r2 i _ e1, List.getElem?_range hi]
            have e3 : decide (((i : Nat) : Int) = ((j : Nat) : Int)) = decide (j = i) := by
              rw [decide_eq_decide]
              omega
            rw [e3]
            rfl
          · have l3 : ys.length = 16 := l2
            rw [List.getElem?_eq_none (by omega), List.getElem?_eq_none (by rw [List.length_range]; omega)]
            rfl
        subst e
        exact rv_imp (v_neL st (SqL.of b1) (SqL.of b2) (by rfl) (by rfl)) fun v G9 s9 r => ⟨false, rfl, r⟩
      · cases p8
      refine q_end ?_
      refine q_if st h8 (et_test (P := fun b => b = false) (ev_op (Ra := IsBl [.bl (decide (j < 12)), .bl (decide (j < 12)), .bl (decide (11 < j)), .bl (decide (11 < j))]) (ev_callV (ws := [u]) st (ix (Same.refl _) rfl rfl) fun G8 s8 => ⟨u, j, s0.1, rfl, hc1, hc2, Mon.mon s8 hea, rfl⟩) (ev_lstN st (ea_consV (ev_opV (ev_var rfl) ev_c (v_lt st)) (ea_consV (ev_opV (ev_var rfl) ev_c (v_lt st)) (ea_consV (ev_opV (ev_var rfl) ev_c (v_gt st)) (ea_consV (ev_opV (ev_var rfl) ev_c (v_gt st)) ea_nilV)))) (by simp)) fun a b G8 s8 ea eb => ?_)) (fun H9 p9 k9 h9 => ?_) (fun H9 p9 k9 h9 => ?_)
      · obtain ⟨q1, rfl, b1⟩ := ea
        obtain ⟨q2, rfl, _, b2⟩ := eb
        have e1 : decide (((j : Nat) : Int) < 12) = decide (j < 12) := by
          rw [decide_eq_decide]
          omega
        have e2 : decide ((11 : Int) < ((j : Nat) : Int)) = decide (11 < j) := by
          rw [decide_eq_decide]
          omega
        rw [e1, e2] at b2
        exact rv_imp (v_neL st (SqL.of b1) (SqL.of b2) (by rfl) (by rfl)) fun v G9 s9 r => ⟨false, rfl, r⟩
      · cases p9
      · exact q_end (q_end ⟨G7, s7, st.wk h9 (by simp), _, rfl⟩)
    · obtain ⟨a, rfl⟩ := hp
      show tSeq _ _ (Ends.mk _ _ _ _) [some (.ref p), some (.ref sa), some (.str wd), some (.int c), some (.ref p6), a, none, none, none] _
      have e7 := re_mon s7 e6
      have g7 := s7 _ _ g6
      rw [hss] at e7
      have sp := h7
      refine q_newL st h7 (ea_consV (ev_erAt (i := 4) st g7 e7 rfl xg_NegativeCount rfl rfl) (ea_consV (ev_erAt (i := 5) st g7 e7 rfl xg_BadText rfl rfl) (ea_consV (ev_erAt (i := 8) st g7 e7 rfl xg_BadCount rfl rfl) (ea_consV (ev_erAt (i := 9) st g7 e7 rfl xg_BadPick rfl rfl) (ea_consV (ev_erAt (i := 10) st g7 e7 rfl xg_BadPaper rfl rfl) (ea_consV (ev_erAt (i := 11) st g7 e7 rfl xg_TooMany rfl rfl) ea_nilV)))))) (by simp) fun pc H8 hp8 gp8 k8 h8 e8 => ?_
      refine q_app st h7 hp8 k8 h8 gp8 e8 (by simp) rfl (ea_consV (ev_erAt (i := 15) st g7 e7 rfl xg_NoDeed rfl rfl) ea_nilV) fun H9 k9 h9 e9 => ?_
      have e9 : H9 pc = some (.lst [V.int c, V.int c, V.int c, V.int c, V.int c, V.int c, V.int c]) := e9
      obtain ⟨h10, sg⟩ := st_pub st h7 hp8 h9 gp8 e9
      have gc : upd G7 pc (.lst [V.int c, V.int c, V.int c, V.int c, V.int c, V.int c, V.int c]) pc = some (.lst [V.int c, V.int c, V.int c, V.int c, V.int c, V.int c, V.int c]) := upd_same
      generalize upd G7 pc (.lst [V.int c, V.int c, V.int c, V.int c, V.int c, V.int c, V.int c]) = G8 at h10 sg gc
      have g8 := sg _ _ g7
      have e8' := re_mon sg e7
      refine q_set h10 (ev_lstN st (ea_consV (ev_erAt (i := 6) st g8 e8' rfl xg_BadName rfl rfl) (ea_consV (ev_erAt (i := 7) st g8 e8' rfl xg_TwiceNamed rfl rfl) (ea_consV (ev_erAt (i := 12) st g8 e8' rfl xg_UnknownWorth rfl rfl) (ea_consV (ev_erAt (i := 13) st g8 e8' rfl xg_UnknownDeed rfl rfl) (ea_consV (ev_erAt (i := 14) st g8 e8' rfl xg_UnknownProcedure rfl rfl) ea_nilV))))) (by simp)) fun v11 G11 H11 s11 r11 => ?_
      obtain ⟨pw, rfl, _, gw⟩ := r11
      have gc11 := s11.g _ _ gc
      have rep : ∀ {n : Nat} {σ : L2.St} {i j : Nat} {x : V} {p : Addr} {m : Int} {L : List V}, σ[i]? = some (some (.ref p)) → σ[j]? = some (some x) → G11 p = some (.lst L) → 0 ≤ m → m ≤ 1000 → L = (List.replicate m.toNat [x]).flatten → L.all flatV = true → L.all okV = true →
          Ev (Src sa sl) n (0 + (0 + 0 + 0)) (tOp (rEqA K) (tVar i) (tOp rMulE (tLst (tCons (tVar j) tNil)) (tC (.int m)))) σ G11 (IsV (.bl true)) := fun hi hj hL m0 m1 eL fL oL =>
        ev_op (ev_var hi) (ev_op (R := IsNew G11 _) (ev_lstN st (ea_consV (ev_var hj) ea_nilV) (by simp)) ev_c fun a b G' s' ea eb => by
          obtain ⟨q, rfl, _, g⟩ := ea
          obtain rfl := (show _ = _ from eb)
          exact rv_imp (v_rep st g m0 m1 (by simp)) fun v G'' s'' ⟨p, e, f, g⟩ => ⟨p, e, s'.free f, g⟩) fun a b G' s' ea eb => by
          obtain rfl := (show _ = _ from ea)
          obtain ⟨q, rfl, _, g⟩ := eb
          rw [← eL] at g
          exact v_eqL st (SqL.of (s' _ _ hL)) (SqL.of g) fL oL
      exact q_ret s11.s (ev_andV st (rep (m := 7) (j := 3) (i := 6) rfl rfl gc11 (by decide) (by decide) rfl rfl rfl) fun _ => rep (m := 5) (j := 2) (i := 7) rfl rfl gw (by decide) (by decide) rfl rfl (by simp [okV, hwd])) fun v G12 H12 s12 r12 => by
        rw [show v = V.bl (true && true) from r12]
        exact q H12
end

end
end L2.DS
namespace L2.DS
open PySem PySem.Spec PyProof.Rows
abbrev s_NegativeCount___init__ : Stmt := inClass (top 4) 0
theorem exi_NegativeCount {fd : FuncData} {s : Shared} {x v : Value} (e1 : fd.params = defArgs s_NegativeCount___init__) (e2 : fd.scope = defScope s_NegativeCount___init__) (e3 : fd.defaults = .none) (e4 : fd.kwdefaults = .none) : BindsTo s fd ⟨[x, v], []⟩ [("self", x), ("count", v)] := by
  refine .of_eq ?_
  unfold bindArgs
  rw [e1, e3, e4]
  rfl
abbrev s_BadText___init__ : Stmt := inClass (top 5) 0
theorem exi_BadText {fd : FuncData} {s : Shared} {x v : Value} (e1 : fd.params = defArgs s_BadText___init__) (e2 : fd.scope = defScope s_BadText___init__) (e3 : fd.defaults = .none) (e4 : fd.kwdefaults = .none) : BindsTo s fd ⟨[x, v], []⟩ [("self", x), ("at", v)] := by
  refine .of_eq ?_
  unfold bindArgs
  rw [e1, e3, e4]
  rfl
abbrev s_BadName___init__ : Stmt := inClass (top 6) 0
theorem exi_BadName {fd : FuncData} {s : Shared} {x v : Value} (e1 : fd.params = defArgs s_BadName___init__) (e2 : fd.scope = defScope s_BadName___init__) (e3 : fd.defaults = .none) (e4 : fd.kwdefaults = .none) : BindsTo s fd ⟨[x, v], []⟩ [("self", x), ("name", v)] := by
  refine .of_eq ?_
  unfold bindArgs
  rw [e1, e3, e4]
  rfl
abbrev s_TwiceNamed___init__ : Stmt := inClass (top 7) 0
theorem exi_TwiceNamed {fd : FuncData} {s : Shared} {x v : Value} (e1 : fd.params = defArgs s_TwiceNamed___init__) (e2 : fd.scope = defScope s_TwiceNamed___init__) (e3 : fd.defaults = .none) (e4 : fd.kwdefaults = .none) : BindsTo s fd ⟨[x, v], []⟩ [("self", x), ("name", v)] := by
  refine .of_eq ?_
  unfold bindArgs
  rw [e1, e3, e4]
  rfl
abbrev s_BadCount___init__ : Stmt := inClass (top 8) 0
theorem exi_BadCount {fd : FuncData} {s : Shared} {x v : Value} (e1 : fd.params = defArgs s_BadCount___init__) (e2 : fd.scope = defScope s_BadCount___init__) (e3 : fd.defaults = .none) (e4 : fd.kwdefaults = .none) : BindsTo s fd ⟨[x, v], []⟩ [("self", x), ("count", v)] := by
  refine .of_eq ?_
  unfold bindArgs
  rw [e1, e3, e4]
  rfl
abbrev s_BadPick___init__ : Stmt := inClass (top 10) 0
theorem exi_BadPick {fd : FuncData} {s : Shared} {x v : Value} (e1 : fd.params = defArgs s_BadPick___init__) (e2 : fd.scope = defScope s_BadPick___init__) (e3 : fd.defaults = .none) (e4 : fd.kwdefaults = .none) : BindsTo s fd ⟨[x, v], []⟩ [("self", x), ("number", v)] := by
  refine .of_eq ?_
  unfold bindArgs
  rw [e1, e3, e4]
  rfl
abbrev s_BadPaper___init__ : Stmt := inClass (top 11) 0
theorem exi_BadPaper {fd : FuncData} {s : Shared} {x v : Value} (e1 : fd.params = defArgs s_BadPaper___init__) (e2 : fd.scope = defScope s_BadPaper___init__) (e3 : fd.defaults = .none) (e4 : fd.kwdefaults = .none) : BindsTo s fd ⟨[x, v], []⟩ [("self", x), ("number", v)] := by
  refine .of_eq ?_
  unfold bindArgs
  rw [e1, e3, e4]
  rfl
abbrev s_TooMany___init__ : Stmt := inClass (top 13) 0
theorem exi_TooMany {fd : FuncData} {s : Shared} {x v : Value} (e1 : fd.params = defArgs s_TooMany___init__) (e2 : fd.scope = defScope s_TooMany___init__) (e3 : fd.defaults = .none) (e4 : fd.kwdefaults = .none) : BindsTo s fd ⟨[x, v], []⟩ [("self", x), ("size", v)] := by
  refine .of_eq ?_
  unfold bindArgs
  rw [e1, e3, e4]
  rfl
abbrev s_UnknownWorth___init__ : Stmt := inClass (top 15) 0
theorem exi_UnknownWorth {fd : FuncData} {s : Shared} {x v : Value} (e1 : fd.params = defArgs s_UnknownWorth___init__) (e2 : fd.scope = defScope s_UnknownWorth___init__) (e3 : fd.defaults = .none) (e4 : fd.kwdefaults = .none) : BindsTo s fd ⟨[x, v], []⟩ [("self", x), ("name", v)] := by
  refine .of_eq ?_
  unfold bindArgs
  rw [e1, e3, e4]
  rfl
abbrev s_UnknownDeed___init__ : Stmt := inClass (top 16) 0
theorem exi_UnknownDeed {fd : FuncData} {s : Shared} {x v : Value} (e1 : fd.params = defArgs s_UnknownDeed___init__) (e2 : fd.scope = defScope s_UnknownDeed___init__) (e3 : fd.defaults = .none) (e4 : fd.kwdefaults = .none) : BindsTo s fd ⟨[x, v], []⟩ [("self", x), ("name", v)] := by
  refine .of_eq ?_
  unfold bindArgs
  rw [e1, e3, e4]
  rfl
abbrev s_UnknownProcedure___init__ : Stmt := inClass (top 17) 0
theorem exi_UnknownProcedure {fd : FuncData} {s : Shared} {x v : Value} (e1 : fd.params = defArgs s_UnknownProcedure___init__) (e2 : fd.scope = defScope s_UnknownProcedure___init__) (e3 : fd.defaults = .none) (e4 : fd.kwdefaults = .none) : BindsTo s fd ⟨[x, v], []⟩ [("self", x), ("name", v)] := by
  refine .of_eq ?_
  unfold bindArgs
  rw [e1, e3, e4]
  rfl
abbrev s_NoDeed___init__ : Stmt := inClass (top 18) 0
theorem exi_NoDeed {fd : FuncData} {s : Shared} {x v : Value} (e1 : fd.params = defArgs s_NoDeed___init__) (e2 : fd.scope = defScope s_NoDeed___init__) (e3 : fd.defaults = .none) (e4 : fd.kwdefaults = .none) : BindsTo s fd ⟨[x, v], []⟩ [("self", x), ("number", v)] := by
  refine .of_eq ?_
  unfold bindArgs
  rw [e1, e3, e4]
  rfl
end L2.DS
namespace L2.DS
open PySem PySem.Spec PyProof.Rows

theorem all_mk {l : PySem.W.OpenLaw} {w : World} {K : PySem.W.Frag} {h : Heap} {mg : Str → Option Value} {fa : Addr} {A_BadScale : Addr} {A_MixedScales : Addr} {A_NoPick : Addr} {A_BadMap : Addr} {A_NegativeCount : Addr} {A_BadText : Addr} {A_BadName : Addr} {A_TwiceNamed : Addr} {A_BadCount : Addr} {A_BadPick : Addr} {A_BadPaper : Addr} {A_TooMany : Addr} {A_UnknownWorth : Addr} {A_UnknownDeed : Addr} {A_UnknownProcedure : Addr} {A_NoDeed : Addr} {A_DeedscaleError : Addr} {A_NameMissing : Addr} {f_NegativeCount___init__ cda_NegativeCount___init__ cc_NegativeCount___init__ : Addr} {od_NegativeCount___init__ an_NegativeCount___init__ : Option Addr} {sl_NegativeCount___init__ : Array (Option Value)} {oc_NegativeCount___init__ dc_NegativeCount___init__ pm_NegativeCount___init__ ct_NegativeCount___init__ : Value} {q1_NegativeCount___init__ q2_NegativeCount___init__ : Value} {e1_NegativeCount___init__ e2_NegativeCount___init__ : Option Addr} {g1_NegativeCount___init__ g2_NegativeCount___init__ : Array (Option Value)} {vs_NegativeCount___init__ : Array Value} {fi_NegativeCount___init__ : Str} {tf_NegativeCount___init__ : Tok} {f_BadText___init__ cda_BadText___init__ cc_BadText___init__ : Addr} {od_BadText___init__ an_BadText___init__ : Option Addr} {sl_BadText___init__ : Array (Option Value)} {oc_BadText___init__ dc_BadText___init__ pm_BadText___init__ ct_BadText___init__ : Value} {q1_BadText___init__ q2_BadText___init__ : Value} {e1_BadText___init__ e2_BadText___init__ : Option Addr} {g1_BadText___init__ g2_BadText___init__ : Array (Option Value)} {vs_BadText___init__ : Array Value} {fi_BadText___init__ : Str} {tf_BadText___init__ : Tok} {f_BadName___init__ cda_BadName___init__ cc_BadName___init__ : Addr} {od_BadName___init__ an_BadName___init__ : Option Addr} {sl_BadName___init__ : Array (Option Value)} {oc_BadName___init__ dc_BadName___init__ pm_BadName___init__ ct_BadName___init__ : Value} {q1_BadName___init__ q2_BadName___init__ : Value} {e1_BadName___init__ e2_BadName___init__ : Option Addr} {g1_BadName___init__ g2_BadName___init__ : Array (Option Value)} {vs_BadName___init__ : Array Value} {fi_BadName___init__ : Str} {tf_BadName___init__ : Tok} {f_TwiceNamed___init__ cda_TwiceNamed___init__ cc_TwiceNamed___init__ : Addr} {od_TwiceNamed___init__ an_TwiceNamed___init__ : Option Addr} {sl_TwiceNamed___init__ : Array (Option Value)} {oc_TwiceNamed___init__ dc_TwiceNamed___init__ pm_TwiceNamed___init__ ct_TwiceNamed___init__ : Value} {q1_TwiceNamed___init__ q2_TwiceNamed___init__ : Value} {e1_TwiceNamed___init__ e2_TwiceNamed___init__ : Option Addr} {g1_TwiceNamed___init__ g2_TwiceNamed___init__ : Array (Option Value)} {vs_TwiceNamed___init__ : Array Value} {fi_TwiceNamed___init__ : Str} {tf_TwiceNamed___init__ : Tok} {f_BadCount___init__ cda_BadCount___init__ cc_BadCount___init__ : Addr} {od_BadCount___init__ an_BadCount___init__ : Option Addr} {sl_BadCount___init__ : Array (Option Value)} {oc_BadCount___init__ dc_BadCount___init__ pm_BadCount___init__ ct_BadCount___init__ : Value} {q1_BadCount___init__ q2_BadCount___init__ : Value} {e1_BadCount___init__ e2_BadCount___init__ : Option Addr} {g1_BadCount___init__ g2_BadCount___init__ : Array (Option Value)} {vs_BadCount___init__ : Array Value} {fi_BadCount___init__ : Str} {tf_BadCount___init__ : Tok} {f_BadPick___init__ cda_BadPick___init__ cc_BadPick___init__ : Addr} {od_BadPick___init__ an_BadPick___init__ : Option Addr} {sl_BadPick___init__ : Array (Option Value)} {oc_BadPick___init__ dc_BadPick___init__ pm_BadPick___init__ ct_BadPick___init__ : Value} {q1_BadPick___init__ q2_BadPick___init__ : Value} {e1_BadPick___init__ e2_BadPick___init__ : Option Addr} {g1_BadPick___init__ g2_BadPick___init__ : Array (Option Value)} {vs_BadPick___init__ : Array Value} {fi_BadPick___init__ : Str} {tf_BadPick___init__ : Tok} {f_BadPaper___init__ cda_BadPaper___init__ cc_BadPaper___init__ : Addr} {od_BadPaper___init__ an_BadPaper___init__ : Option Addr} {sl_BadPaper___init__ : Array (Option Value)} {oc_BadPaper___init__ dc_BadPaper___init__ pm_BadPaper___init__ ct_BadPaper___init__ : Value} {q1_BadPaper___init__ q2_BadPaper___init__ : Value} {e1_BadPaper___init__ e2_BadPaper___init__ : Option Addr} {g1_BadPaper___init__ g2_BadPaper___init__ : Array (Option Value)} {vs_BadPaper___init__ : Array Value} {fi_BadPaper___init__ : Str} {tf_BadPaper___init__ : Tok} {f_TooMany___init__ cda_TooMany___init__ cc_TooMany___init__ : Addr} {od_TooMany___init__ an_TooMany___init__ : Option Addr} {sl_TooMany___init__ : Array (Option Value)} {oc_TooMany___init__ dc_TooMany___init__ pm_TooMany___init__ ct_TooMany___init__ : Value} {q1_TooMany___init__ q2_TooMany___init__ : Value} {e1_TooMany___init__ e2_TooMany___init__ : Option Addr} {g1_TooMany___init__ g2_TooMany___init__ : Array (Option Value)} {vs_TooMany___init__ : Array Value} {fi_TooMany___init__ : Str} {tf_TooMany___init__ : Tok} {f_UnknownWorth___init__ cda_UnknownWorth___init__ cc_UnknownWorth___init__ : Addr} {od_UnknownWorth___init__ an_UnknownWorth___init__ : Option Addr} {sl_UnknownWorth___init__ : Array (Option Value)} {oc_UnknownWorth___init__ dc_UnknownWorth___init__ pm_UnknownWorth___init__ ct_UnknownWorth___init__ : Value} {q1_UnknownWorth___init__ q2_UnknownWorth___init__ : Value} {e1_UnknownWorth___init__ e2_UnknownWorth___init__ : Option Addr} {g1_UnknownWorth___init__ g2_UnknownWorth___init__ : Array (Option Value)} {vs_UnknownWorth___init__ : Array Value} {fi_UnknownWorth___init__ : Str} {tf_UnknownWorth___init__ : Tok} {f_UnknownDeed___init__ cda_UnknownDeed___init__ cc_UnknownDeed___init__ : Addr} {od_UnknownDeed___init__ an_UnknownDeed___init__ : Option Addr} {sl_UnknownDeed___init__ : Array (Option Value)} {oc_UnknownDeed___init__ dc_UnknownDeed___init__ pm_UnknownDeed___init__ ct_UnknownDeed___init__ : Value} {q1_UnknownDeed___init__ q2_UnknownDeed___init__ : Value} {e1_UnknownDeed___init__ e2_UnknownDeed___init__ : Option Addr} {g1_UnknownDeed___init__ g2_UnknownDeed___init__ : Array (Option Value)} {vs_UnknownDeed___init__ : Array Value} {fi_UnknownDeed___init__ : Str} {tf_UnknownDeed___init__ : Tok} {f_UnknownProcedure___init__ cda_UnknownProcedure___init__ cc_UnknownProcedure___init__ : Addr} {od_UnknownProcedure___init__ an_UnknownProcedure___init__ : Option Addr} {sl_UnknownProcedure___init__ : Array (Option Value)} {oc_UnknownProcedure___init__ dc_UnknownProcedure___init__ pm_UnknownProcedure___init__ ct_UnknownProcedure___init__ : Value} {q1_UnknownProcedure___init__ q2_UnknownProcedure___init__ : Value} {e1_UnknownProcedure___init__ e2_UnknownProcedure___init__ : Option Addr} {g1_UnknownProcedure___init__ g2_UnknownProcedure___init__ : Array (Option Value)} {vs_UnknownProcedure___init__ : Array Value} {fi_UnknownProcedure___init__ : Str} {tf_UnknownProcedure___init__ : Tok} {f_NoDeed___init__ cda_NoDeed___init__ cc_NoDeed___init__ : Addr} {od_NoDeed___init__ an_NoDeed___init__ : Option Addr} {sl_NoDeed___init__ : Array (Option Value)} {oc_NoDeed___init__ dc_NoDeed___init__ pm_NoDeed___init__ ct_NoDeed___init__ : Value} {q1_NoDeed___init__ q2_NoDeed___init__ : Value} {e1_NoDeed___init__ e2_NoDeed___init__ : Option Addr} {g1_NoDeed___init__ g2_NoDeed___init__ : Array (Option Value)} {vs_NoDeed___init__ : Array Value} {fi_NoDeed___init__ : Str} {tf_NoDeed___init__ : Tok} {f__law_source : Addr} {od__law_source an__law_source : Option Addr} {sl__law_source : Array (Option Value)} {oc__law_source kV__law_source dc__law_source pm__law_source cd__law_source ct__law_source : Value} {f__law_pick : Addr} {od__law_pick an__law_pick : Option Addr} {sl__law_pick : Array (Option Value)} {oc__law_pick kV__law_pick dc__law_pick pm__law_pick cd__law_pick ct__law_pick : Value} {f__law_classes : Addr} {od__law_classes an__law_classes : Option Addr} {sl__law_classes : Array (Option Value)} {oc__law_classes kV__law_classes dc__law_classes pm__law_classes cd__law_classes ct__law_classes : Value} {f__law_bases : Addr} {od__law_bases an__law_bases : Option Addr} {sl__law_bases : Array (Option Value)} {oc__law_bases kV__law_bases dc__law_bases pm__law_bases cd__law_bases ct__law_bases : Value} {f_law : Addr} {od_law an_law : Option Addr} {sl_law : Array (Option Value)} {oc_law kV_law dc_law pm_law cd_law ct_law : Value} (X : K.In h) (G : h.Ns mainGlobals mg) (hfa : mg "law" = some (.ref fa))
    (z_int : PySem.W.nsIn K mainGlobals "int" = some none)
    (z_abs : PySem.W.nsIn K mainGlobals "abs" = some none)
    (z_range : PySem.W.nsIn K mainGlobals "range" = some none)
    (z_len : PySem.W.nsIn K mainGlobals "len" = some none)
    (z_isinstance : PySem.W.nsIn K mainGlobals "isinstance" = some none)
    (z_bool : PySem.W.nsIn K mainGlobals "bool" = some none)
    (z_str : PySem.W.nsIn K mainGlobals "str" = some none)
    (z_list : PySem.W.nsIn K mainGlobals "list" = some none)
    (z_tuple : PySem.W.nsIn K mainGlobals "tuple" = some none)
    (z_dict : PySem.W.nsIn K mainGlobals "dict" = some none)
    (z_enumerate : PySem.W.nsIn K mainGlobals "enumerate" = some none)
    (z_zip : PySem.W.nsIn K mainGlobals "zip" = some none)
    (z_reversed : PySem.W.nsIn K mainGlobals "reversed" = some none)
    (z_ValueError : PySem.W.nsIn K mainGlobals "ValueError" = some none)
    (z_LookupError : PySem.W.nsIn K mainGlobals "LookupError" = some none)
    (z_KeyError : PySem.W.nsIn K mainGlobals "KeyError" = some none)
    (z_Exception : PySem.W.nsIn K mainGlobals "Exception" = some none)
    (z_super : PySem.W.nsIn K mainGlobals "super" = some none)
    (z_sum : PySem.W.nsIn K mainGlobals "sum" = some none)
    (z_any : PySem.W.nsIn K mainGlobals "any" = some none)
    (z_all : PySem.W.nsIn K mainGlobals "all" = some none)
    (z_sorted : PySem.W.nsIn K mainGlobals "sorted" = some none)
    (z_max : PySem.W.nsIn K mainGlobals "max" = some none)
    (z_min : PySem.W.nsIn K mainGlobals "min" = some none)
    (z_NotImplementedError : PySem.W.nsIn K mainGlobals "NotImplementedError" = some none)
    (z_set : PySem.W.nsIn K mainGlobals "set" = some none)
    (z_repr : PySem.W.nsIn K mainGlobals "repr" = some none)
    (opq : PySem.W.nsIn K cStatics "thirdparty.any" = some none)
    (top0 : (l.prog.main.scope.names.lookup ("super" : Str)).isSome = false)
    (a_A_BadScale : PySem.W.nsIn K mainGlobals "BadScale" = some (some (.ref A_BadScale)))
    (a_A_MixedScales : PySem.W.nsIn K mainGlobals "MixedScales" = some (some (.ref A_MixedScales)))
    (a_A_NoPick : PySem.W.nsIn K mainGlobals "NoPick" = some (some (.ref A_NoPick)))
    (a_A_BadMap : PySem.W.nsIn K mainGlobals "BadMap" = some (some (.ref A_BadMap)))
    (a_A_NegativeCount : PySem.W.nsIn K mainGlobals "NegativeCount" = some (some (.ref A_NegativeCount)))
    (a_A_BadText : PySem.W.nsIn K mainGlobals "BadText" = some (some (.ref A_BadText)))
    (a_A_BadName : PySem.W.nsIn K mainGlobals "BadName" = some (some (.ref A_BadName)))
    (a_A_TwiceNamed : PySem.W.nsIn K mainGlobals "TwiceNamed" = some (some (.ref A_TwiceNamed)))
    (a_A_BadCount : PySem.W.nsIn K mainGlobals "BadCount" = some (some (.ref A_BadCount)))
    (a_A_BadPick : PySem.W.nsIn K mainGlobals "BadPick" = some (some (.ref A_BadPick)))
    (a_A_BadPaper : PySem.W.nsIn K mainGlobals "BadPaper" = some (some (.ref A_BadPaper)))
    (a_A_TooMany : PySem.W.nsIn K mainGlobals "TooMany" = some (some (.ref A_TooMany)))
    (a_A_UnknownWorth : PySem.W.nsIn K mainGlobals "UnknownWorth" = some (some (.ref A_UnknownWorth)))
    (a_A_UnknownDeed : PySem.W.nsIn K mainGlobals "UnknownDeed" = some (some (.ref A_UnknownDeed)))
    (a_A_UnknownProcedure : PySem.W.nsIn K mainGlobals "UnknownProcedure" = some (some (.ref A_UnknownProcedure)))
    (a_A_NoDeed : PySem.W.nsIn K mainGlobals "NoDeed" = some (some (.ref A_NoDeed)))
    (a_A_DeedscaleError : PySem.W.nsIn K mainGlobals "DeedscaleError" = some (some (.ref A_DeedscaleError)))
    (a_A_NameMissing : PySem.W.nsIn K mainGlobals "NameMissing" = some (some (.ref A_NameMissing)))
    (xsp : PySem.W.specialIn K (.builtin "object.__class__") "__get__" = some (some (.builtin "getset_descriptor.__get__")))
    (xtk : PySem.W.takesIn K (.builtin "object.__class__") = some true)
    (xh_BadScale : PySem.W.hasDictIn K A_BadScale = true)
    (xe_BadScale : PySem.W.subIn K (.ref A_BadScale) (.type "BaseException") = some true)
    (xk_BadScale : PySem.W.keepIn K (.ref A_BadScale) = true)
    (xg_BadScale : PySem.W.findIn K (.ref A_BadScale) "__getattribute__" = some (some (.builtin "BaseException.__getattribute__")))
    (xgg_BadScale : PySem.W.findIn K (.ref A_BadScale) "__getattr__" = some none)
    (xcl_BadScale : PySem.W.findIn K (.ref A_BadScale) "__class__" = some (some (.builtin "object.__class__")))
    (xmo_BadScale : PySem.W.mroIn K A_BadScale (.type "object") = some true)
    (xh_MixedScales : PySem.W.hasDictIn K A_MixedScales = true)
    (xe_MixedScales : PySem.W.subIn K (.ref A_MixedScales) (.type "BaseException") = some true)
    (xk_MixedScales : PySem.W.keepIn K (.ref A_MixedScales) = true)
    (xg_MixedScales : PySem.W.findIn K (.ref A_MixedScales) "__getattribute__" = some (some (.builtin "BaseException.__getattribute__")))
    (xgg_MixedScales : PySem.W.findIn K (.ref A_MixedScales) "__getattr__" = some none)
    (xcl_MixedScales : PySem.W.findIn K (.ref A_MixedScales) "__class__" = some (some (.builtin "object.__class__")))
    (xmo_MixedScales : PySem.W.mroIn K A_MixedScales (.type "object") = some true)
    (xh_NoPick : PySem.W.hasDictIn K A_NoPick = true)
    (xe_NoPick : PySem.W.subIn K (.ref A_NoPick) (.type "BaseException") = some true)
    (xk_NoPick : PySem.W.keepIn K (.ref A_NoPick) = true)
    (xg_NoPick : PySem.W.findIn K (.ref A_NoPick) "__getattribute__" = some (some (.builtin "BaseException.__getattribute__")))
    (xgg_NoPick : PySem.W.findIn K (.ref A_NoPick) "__getattr__" = some none)
    (xcl_NoPick : PySem.W.findIn K (.ref A_NoPick) "__class__" = some (some (.builtin "object.__class__")))
    (xmo_NoPick : PySem.W.mroIn K A_NoPick (.type "object") = some true)
    (xh_BadMap : PySem.W.hasDictIn K A_BadMap = true)
    (xe_BadMap : PySem.W.subIn K (.ref A_BadMap) (.type "BaseException") = some true)
    (xk_BadMap : PySem.W.keepIn K (.ref A_BadMap) = true)
    (xg_BadMap : PySem.W.findIn K (.ref A_BadMap) "__getattribute__" = some (some (.builtin "BaseException.__getattribute__")))
    (xgg_BadMap : PySem.W.findIn K (.ref A_BadMap) "__getattr__" = some none)
    (xcl_BadMap : PySem.W.findIn K (.ref A_BadMap) "__class__" = some (some (.builtin "object.__class__")))
    (xmo_BadMap : PySem.W.mroIn K A_BadMap (.type "object") = some true)
    (xh_NegativeCount : PySem.W.hasDictIn K A_NegativeCount = true)
    (xe_NegativeCount : PySem.W.subIn K (.ref A_NegativeCount) (.type "BaseException") = some true)
    (xk_NegativeCount : PySem.W.keepIn K (.ref A_NegativeCount) = true)
    (xg_NegativeCount : PySem.W.findIn K (.ref A_NegativeCount) "__getattribute__" = some (some (.builtin "BaseException.__getattribute__")))
    (xgg_NegativeCount : PySem.W.findIn K (.ref A_NegativeCount) "__getattr__" = some none)
    (xcl_NegativeCount : PySem.W.findIn K (.ref A_NegativeCount) "__class__" = some (some (.builtin "object.__class__")))
    (xmo_NegativeCount : PySem.W.mroIn K A_NegativeCount (.type "object") = some true)
    (xh_BadText : PySem.W.hasDictIn K A_BadText = true)
    (xe_BadText : PySem.W.subIn K (.ref A_BadText) (.type "BaseException") = some true)
    (xk_BadText : PySem.W.keepIn K (.ref A_BadText) = true)
    (xg_BadText : PySem.W.findIn K (.ref A_BadText) "__getattribute__" = some (some (.builtin "BaseException.__getattribute__")))
    (xgg_BadText : PySem.W.findIn K (.ref A_BadText) "__getattr__" = some none)
    (xcl_BadText : PySem.W.findIn K (.ref A_BadText) "__class__" = some (some (.builtin "object.__class__")))
    (xmo_BadText : PySem.W.mroIn K A_BadText (.type "object") = some true)
    (xh_BadName : PySem.W.hasDictIn K A_BadName = true)
    (xe_BadName : PySem.W.subIn K (.ref A_BadName) (.type "BaseException") = some true)
    (xk_BadName : PySem.W.keepIn K (.ref A_BadName) = true)
    (xg_BadName : PySem.W.findIn K (.ref A_BadName) "__getattribute__" = some (some (.builtin "BaseException.__getattribute__")))
    (xgg_BadName : PySem.W.findIn K (.ref A_BadName) "__getattr__" = some none)
    (xcl_BadName : PySem.W.findIn K (.ref A_BadName) "__class__" = some (some (.builtin "object.__class__")))
    (xmo_BadName : PySem.W.mroIn K A_BadName (.type "object") = some true)
    (xh_TwiceNamed : PySem.W.hasDictIn K A_TwiceNamed = true)
    (xe_TwiceNamed : PySem.W.subIn K (.ref A_TwiceNamed) (.type "BaseException") = some true)
    (xk_TwiceNamed : PySem.W.keepIn K (.ref A_TwiceNamed) = true)
    (xg_TwiceNamed : PySem.W.findIn K (.ref A_TwiceNamed) "__getattribute__" = some (some (.builtin "BaseException.__getattribute__")))
    (xgg_TwiceNamed : PySem.W.findIn K (.ref A_TwiceNamed) "__getattr__" = some none)
    (xcl_TwiceNamed : PySem.W.findIn K (.ref A_TwiceNamed) "__class__" = some (some (.builtin "object.__class__")))
    (xmo_TwiceNamed : PySem.W.mroIn K A_TwiceNamed (.type "object") = some true)
    (xh_BadCount : PySem.W.hasDictIn K A_BadCount = true)
    (xe_BadCount : PySem.W.subIn K (.ref A_BadCount) (.type "BaseException") = some true)
    (xk_BadCount : PySem.W.keepIn K (.ref A_BadCount) = true)
    (xg_BadCount : PySem.W.findIn K (.ref A_BadCount) "__getattribute__" = some (some (.builtin "BaseException.__getattribute__")))
    (xgg_BadCount : PySem.W.findIn K (.ref A_BadCount) "__getattr__" = some none)
    (xcl_BadCount : PySem.W.findIn K (.ref A_BadCount) "__class__" = some (some (.builtin "object.__class__")))
    (xmo_BadCount : PySem.W.mroIn K A_BadCount (.type "object") = some true)
    (xh_BadPick : PySem.W.hasDictIn K A_BadPick = true)
    (xe_BadPick : PySem.W.subIn K (.ref A_BadPick) (.type "BaseException") = some true)
    (xk_BadPick : PySem.W.keepIn K (.ref A_BadPick) = true)
    (xg_BadPick : PySem.W.findIn K (.ref A_BadPick) "__getattribute__" = some (some (.builtin "BaseException.__getattribute__")))
    (xgg_BadPick : PySem.W.findIn K (.ref A_BadPick) "__getattr__" = some none)
    (xcl_BadPick : PySem.W.findIn K (.ref A_BadPick) "__class__" = some (some (.builtin "object.__class__")))
    (xmo_BadPick : PySem.W.mroIn K A_BadPick (.type "object") = some true)
    (xh_BadPaper : PySem.W.hasDictIn K A_BadPaper = true)
    (xe_BadPaper : PySem.W.subIn K (.ref A_BadPaper) (.type "BaseException") = some true)
    (xk_BadPaper : PySem.W.keepIn K (.ref A_BadPaper) = true)
    (xg_BadPaper : PySem.W.findIn K (.ref A_BadPaper) "__getattribute__" = some (some (.builtin "BaseException.__getattribute__")))
    (xgg_BadPaper : PySem.W.findIn K (.ref A_BadPaper) "__getattr__" = some none)
    (xcl_BadPaper : PySem.W.findIn K (.ref A_BadPaper) "__class__" = some (some (.builtin "object.__class__")))
    (xmo_BadPaper : PySem.W.mroIn K A_BadPaper (.type "object") = some true)
    (xh_TooMany : PySem.W.hasDictIn K A_TooMany = true)
    (xe_TooMany : PySem.W.subIn K (.ref A_TooMany) (.type "BaseException") = some true)
    (xk_TooMany : PySem.W.keepIn K (.ref A_TooMany) = true)
    (xg_TooMany : PySem.W.findIn K (.ref A_TooMany) "__getattribute__" = some (some (.builtin "BaseException.__getattribute__")))
    (xgg_TooMany : PySem.W.findIn K (.ref A_TooMany) "__getattr__" = some none)
    (xcl_TooMany : PySem.W.findIn K (.ref A_TooMany) "__class__" = some (some (.builtin "object.__class__")))
    (xmo_TooMany : PySem.W.mroIn K A_TooMany (.type "object") = some true)
    (xh_UnknownWorth : PySem.W.hasDictIn K A_UnknownWorth = true)
    (xe_UnknownWorth : PySem.W.subIn K (.ref A_UnknownWorth) (.type "BaseException") = some true)
    (xk_UnknownWorth : PySem.W.keepIn K (.ref A_UnknownWorth) = true)
    (xg_UnknownWorth : PySem.W.findIn K (.ref A_UnknownWorth) "__getattribute__" = some (some (.builtin "BaseException.__getattribute__")))
    (xgg_UnknownWorth : PySem.W.findIn K (.ref A_UnknownWorth) "__getattr__" = some none)
    (xcl_UnknownWorth : PySem.W.findIn K (.ref A_UnknownWorth) "__class__" = some (some (.builtin "object.__class__")))
    (xmo_UnknownWorth : PySem.W.mroIn K A_UnknownWorth (.type "object") = some true)
    (xh_UnknownDeed : PySem.W.hasDictIn K A_UnknownDeed = true)
    (xe_UnknownDeed : PySem.W.subIn K (.ref A_UnknownDeed) (.type "BaseException") = some true)
    (xk_UnknownDeed : PySem.W.keepIn K (.ref A_UnknownDeed) = true)
    (xg_UnknownDeed : PySem.W.findIn K (.ref A_UnknownDeed) "__getattribute__" = some (some (.builtin "BaseException.__getattribute__")))
    (xgg_UnknownDeed : PySem.W.findIn K (.ref A_UnknownDeed) "__getattr__" = some none)
    (xcl_UnknownDeed : PySem.W.findIn K (.ref A_UnknownDeed) "__class__" = some (some (.builtin "object.__class__")))
    (xmo_UnknownDeed : PySem.W.mroIn K A_UnknownDeed (.type "object") = some true)
    (xh_UnknownProcedure : PySem.W.hasDictIn K A_UnknownProcedure = true)
    (xe_UnknownProcedure : PySem.W.subIn K (.ref A_UnknownProcedure) (.type "BaseException") = some true)
    (xk_UnknownProcedure : PySem.W.keepIn K (.ref A_UnknownProcedure) = true)
    (xg_UnknownProcedure : PySem.W.findIn K (.ref A_UnknownProcedure) "__getattribute__" = some (some (.builtin "BaseException.__getattribute__")))
    (xgg_UnknownProcedure : PySem.W.findIn K (.ref A_UnknownProcedure) "__getattr__" = some none)
    (xcl_UnknownProcedure : PySem.W.findIn K (.ref A_UnknownProcedure) "__class__" = some (some (.builtin "object.__class__")))
    (xmo_UnknownProcedure : PySem.W.mroIn K A_UnknownProcedure (.type "object") = some true)
    (xh_NoDeed : PySem.W.hasDictIn K A_NoDeed = true)
    (xe_NoDeed : PySem.W.subIn K (.ref A_NoDeed) (.type "BaseException") = some true)
    (xk_NoDeed : PySem.W.keepIn K (.ref A_NoDeed) = true)
    (xg_NoDeed : PySem.W.findIn K (.ref A_NoDeed) "__getattribute__" = some (some (.builtin "BaseException.__getattribute__")))
    (xgg_NoDeed : PySem.W.findIn K (.ref A_NoDeed) "__getattr__" = some none)
    (xcl_NoDeed : PySem.W.findIn K (.ref A_NoDeed) "__class__" = some (some (.builtin "object.__class__")))
    (xmo_NoDeed : PySem.W.mroIn K A_NoDeed (.type "object") = some true)
    (q_BadScale : PySem.W.excIn K A_BadScale (eTail "ValueError") "ValueError.__new__" = true)
    (q_MixedScales : PySem.W.excIn K A_MixedScales (eTail "ValueError") "ValueError.__new__" = true)
    (q_NoPick : PySem.W.excIn K A_NoPick (eTail "ValueError") "ValueError.__new__" = true)
    (q_BadMap : PySem.W.excIn K A_BadMap (eTail "ValueError") "ValueError.__new__" = true)
    (xi_NegativeCount : PySem.W.excInitIn K A_NegativeCount (eTail "ValueError") "ValueError.__new__" = true)
    (xo_NegativeCount : PySem.W.excOver K A_NegativeCount (eTail "ValueError") = true)
    (xs_NegativeCount : PySem.W.findIn K (.ref A_NegativeCount) "__setattr__" = some (some (.builtin "object.__setattr__")))
    (xb_NegativeCount : PySem.W.subIn K (.ref A_NegativeCount) (.type "ValueError") = some true)
    (xt_NegativeCount : PySem.W.typeIn K (.ref A_NegativeCount) = some (.type "type"))
    (xn_NegativeCount : PySem.W.findIn K (.ref A_NegativeCount) "count" = some none)
    (xm_NegativeCount : PySem.W.mroIn K A_NegativeCount (.ref A_NegativeCount) = some true)
    (xsup_NegativeCount : PySem.W.ks_superIn K A_NegativeCount A_NegativeCount "__init__" = some (some (.builtin "ValueError.__init__")))
    (a_f_NegativeCount___init__ : PySem.W.findIn K (.ref A_NegativeCount) "__init__" = some (some (.ref f_NegativeCount___init__)))
    (ty_NegativeCount___init__ : PySem.W.typeIn K (.ref f_NegativeCount___init__) = some (.type "function"))
    (l_NegativeCount___init__ : K.lookup f_NegativeCount___init__ = some ⟨oc_NegativeCount___init__, od_NegativeCount___init__, .func (PySem.W.fnX "__init__" "NegativeCount.__init__" (defArgs s_NegativeCount___init__) (defBody s_NegativeCount___init__) (defScope s_NegativeCount___init__) [("__class__", cc_NegativeCount___init__)] .none .none dc_NegativeCount___init__ pm_NegativeCount___init__ an_NegativeCount___init__ (.ref cda_NegativeCount___init__) ct_NegativeCount___init__), sl_NegativeCount___init__⟩)
    (c_NegativeCount___init__ : PySem.W.codeIn K (.ref cda_NegativeCount___init__) "NegativeCount.__init__" = true)
    (lc_NegativeCount___init__ : K.lookup cda_NegativeCount___init__ = some ⟨q1_NegativeCount___init__, e1_NegativeCount___init__, .fields vs_NegativeCount___init__, g1_NegativeCount___init__⟩)
    (hv_NegativeCount___init__ : vs_NegativeCount___init__[2]? = some (.str fi_NegativeCount___init__ tf_NegativeCount___init__))
    (hf_NegativeCount___init__ : ((l.prog.main.file : Str) == fi_NegativeCount___init__) = true)
    (lx_NegativeCount___init__ : K.lookup cc_NegativeCount___init__ = some ⟨q2_NegativeCount___init__, e2_NegativeCount___init__, .cell (some (.ref A_NegativeCount)), g2_NegativeCount___init__⟩)
    (xi_BadText : PySem.W.excInitIn K A_BadText (eTail "ValueError") "ValueError.__new__" = true)
    (xo_BadText : PySem.W.excOver K A_BadText (eTail "ValueError") = true)
    (xs_BadText : PySem.W.findIn K (.ref A_BadText) "__setattr__" = some (some (.builtin "object.__setattr__")))
    (xb_BadText : PySem.W.subIn K (.ref A_BadText) (.type "ValueError") = some true)
    (xt_BadText : PySem.W.typeIn K (.ref A_BadText) = some (.type "type"))
    (xn_BadText : PySem.W.findIn K (.ref A_BadText) "at" = some none)
    (xm_BadText : PySem.W.mroIn K A_BadText (.ref A_BadText) = some true)
    (xsup_BadText : PySem.W.ks_superIn K A_BadText A_BadText "__init__" = some (some (.builtin "ValueError.__init__")))
    (a_f_BadText___init__ : PySem.W.findIn K (.ref A_BadText) "__init__" = some (some (.ref f_BadText___init__)))
    (ty_BadText___init__ : PySem.W.typeIn K (.ref f_BadText___init__) = some (.type "function"))
    (l_BadText___init__ : K.lookup f_BadText___init__ = some ⟨oc_BadText___init__, od_BadText___init__, .func (PySem.W.fnX "__init__" "BadText.__init__" (defArgs s_BadText___init__) (defBody s_BadText___init__) (defScope s_BadText___init__) [("__class__", cc_BadText___init__)] .none .none dc_BadText___init__ pm_BadText___init__ an_BadText___init__ (.ref cda_BadText___init__) ct_BadText___init__), sl_BadText___init__⟩)
    (c_BadText___init__ : PySem.W.codeIn K (.ref cda_BadText___init__) "BadText.__init__" = true)
    (lc_BadText___init__ : K.lookup cda_BadText___init__ = some ⟨q1_BadText___init__, e1_BadText___init__, .fields vs_BadText___init__, g1_BadText___init__⟩)
    (hv_BadText___init__ : vs_BadText___init__[2]? = some (.str fi_BadText___init__ tf_BadText___init__))
    (hf_BadText___init__ : ((l.prog.main.file : Str) == fi_BadText___init__) = true)
    (lx_BadText___init__ : K.lookup cc_BadText___init__ = some ⟨q2_BadText___init__, e2_BadText___init__, .cell (some (.ref A_BadText)), g2_BadText___init__⟩)
    (xi_BadName : PySem.W.excInitIn K A_BadName (eTail "ValueError") "ValueError.__new__" = true)
    (xo_BadName : PySem.W.excOver K A_BadName (eTail "ValueError") = true)
    (xs_BadName : PySem.W.findIn K (.ref A_BadName) "__setattr__" = some (some (.builtin "object.__setattr__")))
    (xb_BadName : PySem.W.subIn K (.ref A_BadName) (.type "ValueError") = some true)
    (xt_BadName : PySem.W.typeIn K (.ref A_BadName) = some (.type "type"))
    (xn_BadName : PySem.W.findIn K (.ref A_BadName) "name" = some none)
    (xm_BadName : PySem.W.mroIn K A_BadName (.ref A_BadName) = some true)
    (xsup_BadName : PySem.W.ks_superIn K A_BadName A_BadName "__init__" = some (some (.builtin "ValueError.__init__")))
    (a_f_BadName___init__ : PySem.W.findIn K (.ref A_BadName) "__init__" = some (some (.ref f_BadName___init__)))
    (ty_BadName___init__ : PySem.W.typeIn K (.ref f_BadName___init__) = some (.type "function"))
    (l_BadName___init__ : K.lookup f_BadName___init__ = some ⟨oc_BadName___init__, od_BadName___init__, .func (PySem.W.fnX "__init__" "BadName.__init__" (defArgs s_BadName___init__) (defBody s_BadName___init__) (defScope s_BadName___init__) [("__class__", cc_BadName___init__)] .none .none dc_BadName___init__ pm_BadName___init__ an_BadName___init__ (.ref cda_BadName___init__) ct_BadName___init__), sl_BadName___init__⟩)
    (c_BadName___init__ : PySem.W.codeIn K (.ref cda_BadName___init__) "BadName.__init__" = true)
    (lc_BadName___init__ : K.lookup cda_BadName___init__ = some ⟨q1_BadName___init__, e1_BadName___init__, .fields vs_BadName___init__, g1_BadName___init__⟩)
    (hv_BadName___init__ : vs_BadName___init__[2]? = some (.str fi_BadName___init__ tf_BadName___init__))
    (hf_BadName___init__ : ((l.prog.main.file : Str) == fi_BadName___init__) = true)
    (lx_BadName___init__ : K.lookup cc_BadName___init__ = some ⟨q2_BadName___init__, e2_BadName___init__, .cell (some (.ref A_BadName)), g2_BadName___init__⟩)
    (xi_TwiceNamed : PySem.W.excInitIn K A_TwiceNamed (eTail "ValueError") "ValueError.__new__" = true)
    (xo_TwiceNamed : PySem.W.excOver K A_TwiceNamed (eTail "ValueError") = true)
    (xs_TwiceNamed : PySem.W.findIn K (.ref A_TwiceNamed) "__setattr__" = some (some (.builtin "object.__setattr__")))
    (xb_TwiceNamed : PySem.W.subIn K (.ref A_TwiceNamed) (.type "ValueError") = some true)
    (xt_TwiceNamed : PySem.W.typeIn K (.ref A_TwiceNamed) = some (.type "type"))
    (xn_TwiceNamed : PySem.W.findIn K (.ref A_TwiceNamed) "name" = some none)
    (xm_TwiceNamed : PySem.W.mroIn K A_TwiceNamed (.ref A_TwiceNamed) = some true)
    (xsup_TwiceNamed : PySem.W.ks_superIn K A_TwiceNamed A_TwiceNamed "__init__" = some (some (.builtin "ValueError.__init__")))
    (a_f_TwiceNamed___init__ : PySem.W.findIn K (.ref A_TwiceNamed) "__init__" = some (some (.ref f_TwiceNamed___init__)))
    (ty_TwiceNamed___init__ : PySem.W.typeIn K (.ref f_TwiceNamed___init__) = some (.type "function"))
    (l_TwiceNamed___init__ : K.lookup f_TwiceNamed___init__ = some ⟨oc_TwiceNamed___init__, od_TwiceNamed___init__, .func (PySem.W.fnX "__init__" "TwiceNamed.__init__" (defArgs s_TwiceNamed___init__) (defBody s_TwiceNamed___init__) (defScope s_TwiceNamed___init__) [("__class__", cc_TwiceNamed___init__)] .none .none dc_TwiceNamed___init__ pm_TwiceNamed___init__ an_TwiceNamed___init__ (.ref cda_TwiceNamed___init__) ct_TwiceNamed___init__), sl_TwiceNamed___init__⟩)
    (c_TwiceNamed___init__ : PySem.W.codeIn K (.ref cda_TwiceNamed___init__) "TwiceNamed.__init__" = true)
    (lc_TwiceNamed___init__ : K.lookup cda_TwiceNamed___init__ = some ⟨q1_TwiceNamed___init__, e1_TwiceNamed___init__, .fields vs_TwiceNamed___init__, g1_TwiceNamed___init__⟩)
    (hv_TwiceNamed___init__ : vs_TwiceNamed___init__[2]? = some (.str fi_TwiceNamed___init__ tf_TwiceNamed___init__))
    (hf_TwiceNamed___init__ : ((l.prog.main.file : Str) == fi_TwiceNamed___init__) = true)
    (lx_TwiceNamed___init__ : K.lookup cc_TwiceNamed___init__ = some ⟨q2_TwiceNamed___init__, e2_TwiceNamed___init__, .cell (some (.ref A_TwiceNamed)), g2_TwiceNamed___init__⟩)
    (xi_BadCount : PySem.W.excInitIn K A_BadCount (eTail "ValueError") "ValueError.__new__" = true)
    (xo_BadCount : PySem.W.excOver K A_BadCount (eTail "ValueError") = true)
    (xs_BadCount : PySem.W.findIn K (.ref A_BadCount) "__setattr__" = some (some (.builtin "object.__setattr__")))
    (xb_BadCount : PySem.W.subIn K (.ref A_BadCount) (.type "ValueError") = some true)
    (xt_BadCount : PySem.W.typeIn K (.ref A_BadCount) = some (.type "type"))
    (xn_BadCount : PySem.W.findIn K (.ref A_BadCount) "count" = some none)
    (xm_BadCount : PySem.W.mroIn K A_BadCount (.ref A_BadCount) = some true)
    (xsup_BadCount : PySem.W.ks_superIn K A_BadCount A_BadCount "__init__" = some (some (.builtin "ValueError.__init__")))
    (a_f_BadCount___init__ : PySem.W.findIn K (.ref A_BadCount) "__init__" = some (some (.ref f_BadCount___init__)))
    (ty_BadCount___init__ : PySem.W.typeIn K (.ref f_BadCount___init__) = some (.type "function"))
    (l_BadCount___init__ : K.lookup f_BadCount___init__ = some ⟨oc_BadCount___init__, od_BadCount___init__, .func (PySem.W.fnX "__init__" "BadCount.__init__" (defArgs s_BadCount___init__) (defBody s_BadCount___init__) (defScope s_BadCount___init__) [("__class__", cc_BadCount___init__)] .none .none dc_BadCount___init__ pm_BadCount___init__ an_BadCount___init__ (.ref cda_BadCount___init__) ct_BadCount___init__), sl_BadCount___init__⟩)
    (c_BadCount___init__ : PySem.W.codeIn K (.ref cda_BadCount___init__) "BadCount.__init__" = true)
    (lc_BadCount___init__ : K.lookup cda_BadCount___init__ = some ⟨q1_BadCount___init__, e1_BadCount___init__, .fields vs_BadCount___init__, g1_BadCount___init__⟩)
    (hv_BadCount___init__ : vs_BadCount___init__[2]? = some (.str fi_BadCount___init__ tf_BadCount___init__))
    (hf_BadCount___init__ : ((l.prog.main.file : Str) == fi_BadCount___init__) = true)
    (lx_BadCount___init__ : K.lookup cc_BadCount___init__ = some ⟨q2_BadCount___init__, e2_BadCount___init__, .cell (some (.ref A_BadCount)), g2_BadCount___init__⟩)
    (xi_BadPick : PySem.W.excInitIn K A_BadPick (eTail "ValueError") "ValueError.__new__" = true)
    (xo_BadPick : PySem.W.excOver K A_BadPick (eTail "ValueError") = true)
    (xs_BadPick : PySem.W.findIn K (.ref A_BadPick) "__setattr__" = some (some (.builtin "object.__setattr__")))
    (xb_BadPick : PySem.W.subIn K (.ref A_BadPick) (.type "ValueError") = some true)
    (xt_BadPick : PySem.W.typeIn K (.ref A_BadPick) = some (.type "type"))
    (xn_BadPick : PySem.W.findIn K (.ref A_BadPick) "number" = some none)
    (xm_BadPick : PySem.W.mroIn K A_BadPick (.ref A_BadPick) = some true)
    (xsup_BadPick : PySem.W.ks_superIn K A_BadPick A_BadPick "__init__" = some (some (.builtin "ValueError.__init__")))
    (a_f_BadPick___init__ : PySem.W.findIn K (.ref A_BadPick) "__init__" = some (some (.ref f_BadPick___init__)))
    (ty_BadPick___init__ : PySem.W.typeIn K (.ref f_BadPick___init__) = some (.type "function"))
    (l_BadPick___init__ : K.lookup f_BadPick___init__ = some ⟨oc_BadPick___init__, od_BadPick___init__, .func (PySem.W.fnX "__init__" "BadPick.__init__" (defArgs s_BadPick___init__) (defBody s_BadPick___init__) (defScope s_BadPick___init__) [("__class__", cc_BadPick___init__)] .none .none dc_BadPick___init__ pm_BadPick___init__ an_BadPick___init__ (.ref cda_BadPick___init__) ct_BadPick___init__), sl_BadPick___init__⟩)
    (c_BadPick___init__ : PySem.W.codeIn K (.ref cda_BadPick___init__) "BadPick.__init__" = true)
    (lc_BadPick___init__ : K.lookup cda_BadPick___init__ = some ⟨q1_BadPick___init__, e1_BadPick___init__, .fields vs_BadPick___init__, g1_BadPick___init__⟩)
    (hv_BadPick___init__ : vs_BadPick___init__[2]? = some (.str fi_BadPick___init__ tf_BadPick___init__))
    (hf_BadPick___init__ : ((l.prog.main.file : Str) == fi_BadPick___init__) = true)
    (lx_BadPick___init__ : K.lookup cc_BadPick___init__ = some ⟨q2_BadPick___init__, e2_BadPick___init__, .cell (some (.ref A_BadPick)), g2_BadPick___init__⟩)
    (xi_BadPaper : PySem.W.excInitIn K A_BadPaper (eTail "ValueError") "ValueError.__new__" = true)
    (xo_BadPaper : PySem.W.excOver K A_BadPaper (eTail "ValueError") = true)
    (xs_BadPaper : PySem.W.findIn K (.ref A_BadPaper) "__setattr__" = some (some (.builtin "object.__setattr__")))
    (xb_BadPaper : PySem.W.subIn K (.ref A_BadPaper) (.type "ValueError") = some true)
    (xt_BadPaper : PySem.W.typeIn K (.ref A_BadPaper) = some (.type "type"))
    (xn_BadPaper : PySem.W.findIn K (.ref A_BadPaper) "number" = some none)
    (xm_BadPaper : PySem.W.mroIn K A_BadPaper (.ref A_BadPaper) = some true)
    (xsup_BadPaper : PySem.W.ks_superIn K A_BadPaper A_BadPaper "__init__" = some (some (.builtin "ValueError.__init__")))
    (a_f_BadPaper___init__ : PySem.W.findIn K (.ref A_BadPaper) "__init__" = some (some (.ref f_BadPaper___init__)))
    (ty_BadPaper___init__ : PySem.W.typeIn K (.ref f_BadPaper___init__) = some (.type "function"))
    (l_BadPaper___init__ : K.lookup f_BadPaper___init__ = some ⟨oc_BadPaper___init__, od_BadPaper___init__, .func (PySem.W.fnX "__init__" "BadPaper.__init__" (defArgs s_BadPaper___init__) (defBody s_BadPaper___init__) (defScope s_BadPaper___init__) [("__class__", cc_BadPaper___init__)] .none .none dc_BadPaper___init__ pm_BadPaper___init__ an_BadPaper___init__ (.ref cda_BadPaper___init__) ct_BadPaper___init__), sl_BadPaper___init__⟩)
    (c_BadPaper___init__ : PySem.W.codeIn K (.ref cda_BadPaper___init__) "BadPaper.__init__" = true)
    (lc_BadPaper___init__ : K.lookup cda_BadPaper___init__ = some ⟨q1_BadPaper___init__, e1_BadPaper___init__, .fields vs_BadPaper___init__, g1_BadPaper___init__⟩)
    (hv_BadPaper___init__ : vs_BadPaper___init__[2]? = some (.str fi_BadPaper___init__ tf_BadPaper___init__))
    (hf_BadPaper___init__ : ((l.prog.main.file : Str) == fi_BadPaper___init__) = true)
    (lx_BadPaper___init__ : K.lookup cc_BadPaper___init__ = some ⟨q2_BadPaper___init__, e2_BadPaper___init__, .cell (some (.ref A_BadPaper)), g2_BadPaper___init__⟩)
    (xi_TooMany : PySem.W.excInitIn K A_TooMany (eTail "ValueError") "ValueError.__new__" = true)
    (xo_TooMany : PySem.W.excOver K A_TooMany (eTail "ValueError") = true)
    (xs_TooMany : PySem.W.findIn K (.ref A_TooMany) "__setattr__" = some (some (.builtin "object.__setattr__")))
    (xb_TooMany : PySem.W.subIn K (.ref A_TooMany) (.type "ValueError") = some true)
    (xt_TooMany : PySem.W.typeIn K (.ref A_TooMany) = some (.type "type"))
    (xn_TooMany : PySem.W.findIn K (.ref A_TooMany) "size" = some none)
    (xm_TooMany : PySem.W.mroIn K A_TooMany (.ref A_TooMany) = some true)
    (xsup_TooMany : PySem.W.ks_superIn K A_TooMany A_TooMany "__init__" = some (some (.builtin "ValueError.__init__")))
    (a_f_TooMany___init__ : PySem.W.findIn K (.ref A_TooMany) "__init__" = some (some (.ref f_TooMany___init__)))
    (ty_TooMany___init__ : PySem.W.typeIn K (.ref f_TooMany___init__) = some (.type "function"))
    (l_TooMany___init__ : K.lookup f_TooMany___init__ = some ⟨oc_TooMany___init__, od_TooMany___init__, .func (PySem.W.fnX "__init__" "TooMany.__init__" (defArgs s_TooMany___init__) (defBody s_TooMany___init__) (defScope s_TooMany___init__) [("__class__", cc_TooMany___init__)] .none .none dc_TooMany___init__ pm_TooMany___init__ an_TooMany___init__ (.ref cda_TooMany___init__) ct_TooMany___init__), sl_TooMany___init__⟩)
    (c_TooMany___init__ : PySem.W.codeIn K (.ref cda_TooMany___init__) "TooMany.__init__" = true)
    (lc_TooMany___init__ : K.lookup cda_TooMany___init__ = some ⟨q1_TooMany___init__, e1_TooMany___init__, .fields vs_TooMany___init__, g1_TooMany___init__⟩)
    (hv_TooMany___init__ : vs_TooMany___init__[2]? = some (.str fi_TooMany___init__ tf_TooMany___init__))
    (hf_TooMany___init__ : ((l.prog.main.file : Str) == fi_TooMany___init__) = true)
    (lx_TooMany___init__ : K.lookup cc_TooMany___init__ = some ⟨q2_TooMany___init__, e2_TooMany___init__, .cell (some (.ref A_TooMany)), g2_TooMany___init__⟩)
    (xi_UnknownWorth : PySem.W.excInitIn K A_UnknownWorth (eTail "LookupError") "LookupError.__new__" = true)
    (xo_UnknownWorth : PySem.W.excOver K A_UnknownWorth (eTail "LookupError") = true)
    (xs_UnknownWorth : PySem.W.findIn K (.ref A_UnknownWorth) "__setattr__" = some (some (.builtin "object.__setattr__")))
    (xb_UnknownWorth : PySem.W.subIn K (.ref A_UnknownWorth) (.type "LookupError") = some true)
    (xt_UnknownWorth : PySem.W.typeIn K (.ref A_UnknownWorth) = some (.type "type"))
    (xn_UnknownWorth : PySem.W.findIn K (.ref A_UnknownWorth) "name" = some none)
    (xm_UnknownWorth : PySem.W.mroIn K A_UnknownWorth (.ref A_UnknownWorth) = some true)
    (xsup_UnknownWorth : PySem.W.ks_superIn K A_UnknownWorth A_UnknownWorth "__init__" = some (some (.builtin "LookupError.__init__")))
    (a_f_UnknownWorth___init__ : PySem.W.findIn K (.ref A_UnknownWorth) "__init__" = some (some (.ref f_UnknownWorth___init__)))
    (ty_UnknownWorth___init__ : PySem.W.typeIn K (.ref f_UnknownWorth___init__) = some (.type "function"))
    (l_UnknownWorth___init__ : K.lookup f_UnknownWorth___init__ = some ⟨oc_UnknownWorth___init__, od_UnknownWorth___init__, .func (PySem.W.fnX "__init__" "UnknownWorth.__init__" (defArgs s_UnknownWorth___init__) (defBody s_UnknownWorth___init__) (defScope s_UnknownWorth___init__) [("__class__", cc_UnknownWorth___init__)] .none .none dc_UnknownWorth___init__ pm_UnknownWorth___init__ an_UnknownWorth___init__ (.ref cda_UnknownWorth___init__) ct_UnknownWorth___init__), sl_UnknownWorth___init__⟩)
    (c_UnknownWorth___init__ : PySem.W.codeIn K (.ref cda_UnknownWorth___init__) "UnknownWorth.__init__" = true)
    (lc_UnknownWorth___init__ : K.lookup cda_UnknownWorth___init__ = some ⟨q1_UnknownWorth___init__, e1_UnknownWorth___init__, .fields vs_UnknownWorth___init__, g1_UnknownWorth___init__⟩)
    (hv_UnknownWorth___init__ : vs_UnknownWorth___init__[2]? = some (.str fi_UnknownWorth___init__ tf_UnknownWorth___init__))
    (hf_UnknownWorth___init__ : ((l.prog.main.file : Str) == fi_UnknownWorth___init__) = true)
    (lx_UnknownWorth___init__ : K.lookup cc_UnknownWorth___init__ = some ⟨q2_UnknownWorth___init__, e2_UnknownWorth___init__, .cell (some (.ref A_UnknownWorth)), g2_UnknownWorth___init__⟩)
    (xi_UnknownDeed : PySem.W.excInitIn K A_UnknownDeed (eTail "LookupError") "LookupError.__new__" = true)
    (xo_UnknownDeed : PySem.W.excOver K A_UnknownDeed (eTail "LookupError") = true)
    (xs_UnknownDeed : PySem.W.findIn K (.ref A_UnknownDeed) "__setattr__" = some (some (.builtin "object.__setattr__")))
    (xb_UnknownDeed : PySem.W.subIn K (.ref A_UnknownDeed) (.type "LookupError") = some true)
    (xt_UnknownDeed : PySem.W.typeIn K (.ref A_UnknownDeed) = some (.type "type"))
    (xn_UnknownDeed : PySem.W.findIn K (.ref A_UnknownDeed) "name" = some none)
    (xm_UnknownDeed : PySem.W.mroIn K A_UnknownDeed (.ref A_UnknownDeed) = some true)
    (xsup_UnknownDeed : PySem.W.ks_superIn K A_UnknownDeed A_UnknownDeed "__init__" = some (some (.builtin "LookupError.__init__")))
    (a_f_UnknownDeed___init__ : PySem.W.findIn K (.ref A_UnknownDeed) "__init__" = some (some (.ref f_UnknownDeed___init__)))
    (ty_UnknownDeed___init__ : PySem.W.typeIn K (.ref f_UnknownDeed___init__) = some (.type "function"))
    (l_UnknownDeed___init__ : K.lookup f_UnknownDeed___init__ = some ⟨oc_UnknownDeed___init__, od_UnknownDeed___init__, .func (PySem.W.fnX "__init__" "UnknownDeed.__init__" (defArgs s_UnknownDeed___init__) (defBody s_UnknownDeed___init__) (defScope s_UnknownDeed___init__) [("__class__", cc_UnknownDeed___init__)] .none .none dc_UnknownDeed___init__ pm_UnknownDeed___init__ an_UnknownDeed___init__ (.ref cda_UnknownDeed___init__) ct_UnknownDeed___init__), sl_UnknownDeed___init__⟩)
    (c_UnknownDeed___init__ : PySem.W.codeIn K (.ref cda_UnknownDeed___init__) "UnknownDeed.__init__" = true)
    (lc_UnknownDeed___init__ : K.lookup cda_UnknownDeed___init__ = some ⟨q1_UnknownDeed___init__, e1_UnknownDeed___init__, .fields vs_UnknownDeed___init__, g1_UnknownDeed___init__⟩)
    (hv_UnknownDeed___init__ : vs_UnknownDeed___init__[2]? = some (.str fi_UnknownDeed___init__ tf_UnknownDeed___init__))
    (hf_UnknownDeed___init__ : ((l.prog.main.file : Str) == fi_UnknownDeed___init__) = true)
    (lx_UnknownDeed___init__ : K.lookup cc_UnknownDeed___init__ = some ⟨q2_UnknownDeed___init__, e2_UnknownDeed___init__, .cell (some (.ref A_UnknownDeed)), g2_UnknownDeed___init__⟩)
    (xi_UnknownProcedure : PySem.W.excInitIn K A_UnknownProcedure (eTail "LookupError") "LookupError.__new__" = true)
    (xo_UnknownProcedure : PySem.W.excOver K A_UnknownProcedure (eTail "LookupError") = true)
    (xs_UnknownProcedure : PySem.W.findIn K (.ref A_UnknownProcedure) "__setattr__" = some (some (.builtin "object.__setattr__")))
    (xb_UnknownProcedure : PySem.W.subIn K (.ref A_UnknownProcedure) (.type "LookupError") = some true)
    (xt_UnknownProcedure : PySem.W.typeIn K (.ref A_UnknownProcedure) = some (.type "type"))
    (xn_UnknownProcedure : PySem.W.findIn K (.ref A_UnknownProcedure) "name" = some none)
    (xm_UnknownProcedure : PySem.W.mroIn K A_UnknownProcedure (.ref A_UnknownProcedure) = some true)
    (xsup_UnknownProcedure : PySem.W.ks_superIn K A_UnknownProcedure A_UnknownProcedure "__init__" = some (some (.builtin "LookupError.__init__")))
    (a_f_UnknownProcedure___init__ : PySem.W.findIn K (.ref A_UnknownProcedure) "__init__" = some (some (.ref f_UnknownProcedure___init__)))
    (ty_UnknownProcedure___init__ : PySem.W.typeIn K (.ref f_UnknownProcedure___init__) = some (.type "function"))
    (l_UnknownProcedure___init__ : K.lookup f_UnknownProcedure___init__ = some ⟨oc_UnknownProcedure___init__, od_UnknownProcedure___init__, .func (PySem.W.fnX "__init__" "UnknownProcedure.__init__" (defArgs s_UnknownProcedure___init__) (defBody s_UnknownProcedure___init__) (defScope s_UnknownProcedure___init__) [("__class__", cc_UnknownProcedure___init__)] .none .none dc_UnknownProcedure___init__ pm_UnknownProcedure___init__ an_UnknownProcedure___init__ (.ref cda_UnknownProcedure___init__) ct_UnknownProcedure___init__), sl_UnknownProcedure___init__⟩)
    (c_UnknownProcedure___init__ : PySem.W.codeIn K (.ref cda_UnknownProcedure___init__) "UnknownProcedure.__init__" = true)
    (lc_UnknownProcedure___init__ : K.lookup cda_UnknownProcedure___init__ = some ⟨q1_UnknownProcedure___init__, e1_UnknownProcedure___init__, .fields vs_UnknownProcedure___init__, g1_UnknownProcedure___init__⟩)
    (hv_UnknownProcedure___init__ : vs_UnknownProcedure___init__[2]? = some (.str fi_UnknownProcedure___init__ tf_UnknownProcedure___init__))
    (hf_UnknownProcedure___init__ : ((l.prog.main.file : Str) == fi_UnknownProcedure___init__) = true)
    (lx_UnknownProcedure___init__ : K.lookup cc_UnknownProcedure___init__ = some ⟨q2_UnknownProcedure___init__, e2_UnknownProcedure___init__, .cell (some (.ref A_UnknownProcedure)), g2_UnknownProcedure___init__⟩)
    (xi_NoDeed : PySem.W.excInitIn K A_NoDeed (eTail "LookupError") "LookupError.__new__" = true)
    (xo_NoDeed : PySem.W.excOver K A_NoDeed (eTail "LookupError") = true)
    (xs_NoDeed : PySem.W.findIn K (.ref A_NoDeed) "__setattr__" = some (some (.builtin "object.__setattr__")))
    (xb_NoDeed : PySem.W.subIn K (.ref A_NoDeed) (.type "LookupError") = some true)
    (xt_NoDeed : PySem.W.typeIn K (.ref A_NoDeed) = some (.type "type"))
    (xn_NoDeed : PySem.W.findIn K (.ref A_NoDeed) "number" = some none)
    (xm_NoDeed : PySem.W.mroIn K A_NoDeed (.ref A_NoDeed) = some true)
    (xsup_NoDeed : PySem.W.ks_superIn K A_NoDeed A_NoDeed "__init__" = some (some (.builtin "LookupError.__init__")))
    (a_f_NoDeed___init__ : PySem.W.findIn K (.ref A_NoDeed) "__init__" = some (some (.ref f_NoDeed___init__)))
    (ty_NoDeed___init__ : PySem.W.typeIn K (.ref f_NoDeed___init__) = some (.type "function"))
    (l_NoDeed___init__ : K.lookup f_NoDeed___init__ = some ⟨oc_NoDeed___init__, od_NoDeed___init__, .func (PySem.W.fnX "__init__" "NoDeed.__init__" (defArgs s_NoDeed___init__) (defBody s_NoDeed___init__) (defScope s_NoDeed___init__) [("__class__", cc_NoDeed___init__)] .none .none dc_NoDeed___init__ pm_NoDeed___init__ an_NoDeed___init__ (.ref cda_NoDeed___init__) ct_NoDeed___init__), sl_NoDeed___init__⟩)
    (c_NoDeed___init__ : PySem.W.codeIn K (.ref cda_NoDeed___init__) "NoDeed.__init__" = true)
    (lc_NoDeed___init__ : K.lookup cda_NoDeed___init__ = some ⟨q1_NoDeed___init__, e1_NoDeed___init__, .fields vs_NoDeed___init__, g1_NoDeed___init__⟩)
    (hv_NoDeed___init__ : vs_NoDeed___init__[2]? = some (.str fi_NoDeed___init__ tf_NoDeed___init__))
    (hf_NoDeed___init__ : ((l.prog.main.file : Str) == fi_NoDeed___init__) = true)
    (lx_NoDeed___init__ : K.lookup cc_NoDeed___init__ = some ⟨q2_NoDeed___init__, e2_NoDeed___init__, .cell (some (.ref A_NoDeed)), g2_NoDeed___init__⟩)
    (kt : ((List.range ([A_BadScale, A_MixedScales, A_NoPick, A_BadMap, A_NegativeCount, A_BadText, A_BadName, A_TwiceNamed, A_BadCount, A_BadPick, A_BadPaper, A_TooMany, A_UnknownWorth, A_UnknownDeed, A_UnknownProcedure, A_NoDeed] : List Addr).length).all fun i => (List.range ([A_BadScale, A_MixedScales, A_NoPick, A_BadMap, A_NegativeCount, A_BadText, A_BadName, A_TwiceNamed, A_BadCount, A_BadPick, A_BadPaper, A_TooMany, A_UnknownWorth, A_UnknownDeed, A_UnknownProcedure, A_NoDeed] : List Addr).length).all fun j => decide (PySem.W.kitOne K (.ref (([A_BadScale, A_MixedScales, A_NoPick, A_BadMap, A_NegativeCount, A_BadText, A_BadName, A_TwiceNamed, A_BadCount, A_BadPick, A_BadPaper, A_TooMany, A_UnknownWorth, A_UnknownDeed, A_UnknownProcedure, A_NoDeed] : List Addr).getD i 0)) (.ref (([A_BadScale, A_MixedScales, A_NoPick, A_BadMap, A_NegativeCount, A_BadText, A_BadName, A_TwiceNamed, A_BadCount, A_BadPick, A_BadPaper, A_TooMany, A_UnknownWorth, A_UnknownDeed, A_UnknownProcedure, A_NoDeed] : List Addr).getD j 0)) = some (decide (i = j)))) = true)
    (kD : ((List.range ([A_BadScale, A_MixedScales, A_NoPick, A_BadMap, A_NegativeCount, A_BadText, A_BadName, A_TwiceNamed, A_BadCount, A_BadPick, A_BadPaper, A_TooMany, A_UnknownWorth, A_UnknownDeed, A_UnknownProcedure, A_NoDeed] : List Addr).length).all fun i => decide (PySem.W.kitOne K (.ref (([A_BadScale, A_MixedScales, A_NoPick, A_BadMap, A_NegativeCount, A_BadText, A_BadName, A_TwiceNamed, A_BadCount, A_BadPick, A_BadPaper, A_TooMany, A_UnknownWorth, A_UnknownDeed, A_UnknownProcedure, A_NoDeed] : List Addr).getD i 0)) (.ref A_DeedscaleError) = some (decide (i < 12)))) = true)
    (kV : ((List.range ([A_BadScale, A_MixedScales, A_NoPick, A_BadMap, A_NegativeCount, A_BadText, A_BadName, A_TwiceNamed, A_BadCount, A_BadPick, A_BadPaper, A_TooMany, A_UnknownWorth, A_UnknownDeed, A_UnknownProcedure, A_NoDeed] : List Addr).length).all fun i => decide (PySem.W.kitOne K (.ref (([A_BadScale, A_MixedScales, A_NoPick, A_BadMap, A_NegativeCount, A_BadText, A_BadName, A_TwiceNamed, A_BadCount, A_BadPick, A_BadPaper, A_TooMany, A_UnknownWorth, A_UnknownDeed, A_UnknownProcedure, A_NoDeed] : List Addr).getD i 0)) (.type "ValueError") = some (decide (i < 12)))) = true)
    (kN : ((List.range ([A_BadScale, A_MixedScales, A_NoPick, A_BadMap, A_NegativeCount, A_BadText, A_BadName, A_TwiceNamed, A_BadCount, A_BadPick, A_BadPaper, A_TooMany, A_UnknownWorth, A_UnknownDeed, A_UnknownProcedure, A_NoDeed] : List Addr).length).all fun i => decide (PySem.W.kitOne K (.ref (([A_BadScale, A_MixedScales, A_NoPick, A_BadMap, A_NegativeCount, A_BadText, A_BadName, A_TwiceNamed, A_BadCount, A_BadPick, A_BadPaper, A_TooMany, A_UnknownWorth, A_UnknownDeed, A_UnknownProcedure, A_NoDeed] : List Addr).getD i 0)) (.ref A_NameMissing) = some (decide (11 < i)))) = true)
    (kL : ((List.range ([A_BadScale, A_MixedScales, A_NoPick, A_BadMap, A_NegativeCount, A_BadText, A_BadName, A_TwiceNamed, A_BadCount, A_BadPick, A_BadPaper, A_TooMany, A_UnknownWorth, A_UnknownDeed, A_UnknownProcedure, A_NoDeed] : List Addr).length).all fun i => decide (PySem.W.kitOne K (.ref (([A_BadScale, A_MixedScales, A_NoPick, A_BadMap, A_NegativeCount, A_BadText, A_BadName, A_TwiceNamed, A_BadCount, A_BadPick, A_BadPaper, A_TooMany, A_UnknownWorth, A_UnknownDeed, A_UnknownProcedure, A_NoDeed] : List Addr).getD i 0)) (.type "LookupError") = some (decide (11 < i)))) = true)
    (a_f__law_source : PySem.W.nsIn K mainGlobals "_law_source" = some (some (.ref f__law_source)))
    (l__law_source : K.lookup f__law_source = some ⟨oc__law_source, od__law_source, .func (PySem.W.fnOf "_law_source" "_law_source" (defArgs s__law_source) (defBody s__law_source) (defScope s__law_source) .none kV__law_source dc__law_source pm__law_source an__law_source cd__law_source ct__law_source), sl__law_source⟩)
    (c__law_source : PySem.W.codeIn K cd__law_source "_law_source" = true)
    (k__law_source : PySem.W.keepIn K (.ref f__law_source) = true)
    (a_f__law_pick : PySem.W.nsIn K mainGlobals "_law_pick" = some (some (.ref f__law_pick)))
    (l__law_pick : K.lookup f__law_pick = some ⟨oc__law_pick, od__law_pick, .func (PySem.W.fnOf "_law_pick" "_law_pick" (defArgs s__law_pick) (defBody s__law_pick) (defScope s__law_pick) .none kV__law_pick dc__law_pick pm__law_pick an__law_pick cd__law_pick ct__law_pick), sl__law_pick⟩)
    (c__law_pick : PySem.W.codeIn K cd__law_pick "_law_pick" = true)
    (k__law_pick : PySem.W.keepIn K (.ref f__law_pick) = true)
    (a_f__law_classes : PySem.W.nsIn K mainGlobals "_law_classes" = some (some (.ref f__law_classes)))
    (l__law_classes : K.lookup f__law_classes = some ⟨oc__law_classes, od__law_classes, .func (PySem.W.fnOf "_law_classes" "_law_classes" (defArgs s__law_classes) (defBody s__law_classes) (defScope s__law_classes) .none kV__law_classes dc__law_classes pm__law_classes an__law_classes cd__law_classes ct__law_classes), sl__law_classes⟩)
    (c__law_classes : PySem.W.codeIn K cd__law_classes "_law_classes" = true)
    (k__law_classes : PySem.W.keepIn K (.ref f__law_classes) = true)
    (a_f__law_bases : PySem.W.nsIn K mainGlobals "_law_bases" = some (some (.ref f__law_bases)))
    (l__law_bases : K.lookup f__law_bases = some ⟨oc__law_bases, od__law_bases, .func (PySem.W.fnOf "_law_bases" "_law_bases" (defArgs s__law_bases) (defBody s__law_bases) (defScope s__law_bases) .none kV__law_bases dc__law_bases pm__law_bases an__law_bases cd__law_bases ct__law_bases), sl__law_bases⟩)
    (c__law_bases : PySem.W.codeIn K cd__law_bases "_law_bases" = true)
    (k__law_bases : PySem.W.keepIn K (.ref f__law_bases) = true)
    (a_f_law : PySem.W.nsIn K mainGlobals "law" = some (some (.ref f_law)))
    (l_law : K.lookup f_law = some ⟨oc_law, od_law, .func (PySem.W.fnOf "law" "law" (defArgs s_law) (defBody s_law) (defScope s_law) .none kV_law dc_law pm_law an_law cd_law ct_law), sl_law⟩)
    (c_law : PySem.W.codeIn K cd_law "law" = true)
    (k_law : PySem.W.keepIn K (.ref f_law) = true)
    : ∃ fd : FuncData, (∀ (s : Shared) (v : Value), BindsTo s fd ⟨[v], []⟩ [("_law_script", v)]) ∧ ∀ base : Heap, K.In base → base.Ns mainGlobals mg → FnOk l.prog w K mg base CX0 6 fa fd ["_law_script"] (sp_law K) := by
  have e := hfa.symm.trans (PySem.W.mg_of X G a_f_law)
  cases e
  refine ⟨PySem.W.fnOf "law" "law" (defArgs s_law) (defBody s_law) (defScope s_law) .none kV_law dc_law pm_law an_law cd_law ct_law, fun s v => .of_eq rfl, fun base _ _ => ?_⟩
  have Z : Bi mg := ⟨PySem.W.mg_none_of X G z_int, PySem.W.mg_none_of X G z_abs, PySem.W.mg_none_of X G z_range, PySem.W.mg_none_of X G z_len, PySem.W.mg_none_of X G z_isinstance, PySem.W.mg_none_of X G z_bool, PySem.W.mg_none_of X G z_str, PySem.W.mg_none_of X G z_list, PySem.W.mg_none_of X G z_tuple, PySem.W.mg_none_of X G z_dict, PySem.W.mg_none_of X G z_enumerate, PySem.W.mg_none_of X G z_zip, PySem.W.mg_none_of X G z_reversed, PySem.W.mg_none_of X G z_ValueError, PySem.W.mg_none_of X G z_LookupError, PySem.W.mg_none_of X G z_KeyError, PySem.W.mg_none_of X G z_Exception, PySem.W.mg_none_of X G z_super, PySem.W.mg_none_of X G z_sum, PySem.W.mg_none_of X G z_any, PySem.W.mg_none_of X G z_all, PySem.W.mg_none_of X G z_sorted, PySem.W.mg_none_of X G z_max, PySem.W.mg_none_of X G z_min, PySem.W.mg_none_of X G z_NotImplementedError, PySem.W.mg_none_of X G z_set, PySem.W.mg_none_of X G z_repr⟩
  have X_BadScale : ExcC K A_BadScale := ⟨xg_BadScale, xgg_BadScale, xe_BadScale, xh_BadScale, xcl_BadScale, xsp, xtk, xmo_BadScale⟩
  have X_MixedScales : ExcC K A_MixedScales := ⟨xg_MixedScales, xgg_MixedScales, xe_MixedScales, xh_MixedScales, xcl_MixedScales, xsp, xtk, xmo_MixedScales⟩
  have X_NoPick : ExcC K A_NoPick := ⟨xg_NoPick, xgg_NoPick, xe_NoPick, xh_NoPick, xcl_NoPick, xsp, xtk, xmo_NoPick⟩
  have X_BadMap : ExcC K A_BadMap := ⟨xg_BadMap, xgg_BadMap, xe_BadMap, xh_BadMap, xcl_BadMap, xsp, xtk, xmo_BadMap⟩
  have X_NegativeCount : ExcC K A_NegativeCount := ⟨xg_NegativeCount, xgg_NegativeCount, xe_NegativeCount, xh_NegativeCount, xcl_NegativeCount, xsp, xtk, xmo_NegativeCount⟩
  have X_BadText : ExcC K A_BadText := ⟨xg_BadText, xgg_BadText, xe_BadText, xh_BadText, xcl_BadText, xsp, xtk, xmo_BadText⟩
  have X_BadName : ExcC K A_BadName := ⟨xg_BadName, xgg_BadName, xe_BadName, xh_BadName, xcl_BadName, xsp, xtk, xmo_BadName⟩
  have X_TwiceNamed : ExcC K A_TwiceNamed := ⟨xg_TwiceNamed, xgg_TwiceNamed, xe_TwiceNamed, xh_TwiceNamed, xcl_TwiceNamed, xsp, xtk, xmo_TwiceNamed⟩
  have X_BadCount : ExcC K A_BadCount := ⟨xg_BadCount, xgg_BadCount, xe_BadCount, xh_BadCount, xcl_BadCount, xsp, xtk, xmo_BadCount⟩
  have X_BadPick : ExcC K A_BadPick := ⟨xg_BadPick, xgg_BadPick, xe_BadPick, xh_BadPick, xcl_BadPick, xsp, xtk, xmo_BadPick⟩
  have X_BadPaper : ExcC K A_BadPaper := ⟨xg_BadPaper, xgg_BadPaper, xe_BadPaper, xh_BadPaper, xcl_BadPaper, xsp, xtk, xmo_BadPaper⟩
  have X_TooMany : ExcC K A_TooMany := ⟨xg_TooMany, xgg_TooMany, xe_TooMany, xh_TooMany, xcl_TooMany, xsp, xtk, xmo_TooMany⟩
  have X_UnknownWorth : ExcC K A_UnknownWorth := ⟨xg_UnknownWorth, xgg_UnknownWorth, xe_UnknownWorth, xh_UnknownWorth, xcl_UnknownWorth, xsp, xtk, xmo_UnknownWorth⟩
  have X_UnknownDeed : ExcC K A_UnknownDeed := ⟨xg_UnknownDeed, xgg_UnknownDeed, xe_UnknownDeed, xh_UnknownDeed, xcl_UnknownDeed, xsp, xtk, xmo_UnknownDeed⟩
  have X_UnknownProcedure : ExcC K A_UnknownProcedure := ⟨xg_UnknownProcedure, xgg_UnknownProcedure, xe_UnknownProcedure, xh_UnknownProcedure, xcl_UnknownProcedure, xsp, xtk, xmo_UnknownProcedure⟩
  have X_NoDeed : ExcC K A_NoDeed := ⟨xg_NoDeed, xgg_NoDeed, xe_NoDeed, xh_NoDeed, xcl_NoDeed, xsp, xtk, xmo_NoDeed⟩
  have x_NegativeCount : ExI l.prog K mg A_NegativeCount f_NegativeCount___init__ "count" "ValueError" "ValueError.__new__" "ValueError.__init__" := mk_exi (txt := "") ⟨xi_NegativeCount, xo_NegativeCount, xh_NegativeCount, xs_NegativeCount, xe_NegativeCount, xb_NegativeCount, xt_NegativeCount, xk_NegativeCount⟩ a_f_NegativeCount___init__ ty_NegativeCount___init__ xn_NegativeCount xsup_NegativeCount xm_NegativeCount Z.z_super opq top0 l_NegativeCount___init__ c_NegativeCount___init__ lc_NegativeCount___init__ hv_NegativeCount___init__ hf_NegativeCount___init__ lx_NegativeCount___init__
    ⟨_, _, _, _, _, _, _, _, _, _, _, _, rfl, fun _ => rfl, fun _ _ => rfl, fun _ _ => rfl⟩ ⟨rfl, rfl, rfl, by decide +kernel⟩ ⟨rfl, rfl, rfl, rfl⟩ ⟨_, rfl, rfl⟩ (by decide +kernel) (by decide +kernel) fun fd s x v => exi_NegativeCount
  have g_NegativeCount : ExG K A_NegativeCount "count" := ⟨xg_NegativeCount, xgg_NegativeCount, xe_NegativeCount, xh_NegativeCount, xn_NegativeCount⟩
  have x_BadText : ExI l.prog K mg A_BadText f_BadText___init__ "at" "ValueError" "ValueError.__new__" "ValueError.__init__" := mk_exi (txt := "") ⟨xi_BadText, xo_BadText, xh_BadText, xs_BadText, xe_BadText, xb_BadText, xt_BadText, xk_BadText⟩ a_f_BadText___init__ ty_BadText___init__ xn_BadText xsup_BadText xm_BadText Z.z_super opq top0 l_BadText___init__ c_BadText___init__ lc_BadText___init__ hv_BadText___init__ hf_BadText___init__ lx_BadText___init__
    ⟨_, _, _, _, _, _, _, _, _, _, _, _, rfl, fun _ => rfl, fun _ _ => rfl, fun _ _ => rfl⟩ ⟨rfl, rfl, rfl, by decide +kernel⟩ ⟨rfl, rfl, rfl, rfl⟩ ⟨_, rfl, rfl⟩ (by decide +kernel) (by decide +kernel) fun fd s x v => exi_BadText
  have g_BadText : ExG K A_BadText "at" := ⟨xg_BadText, xgg_BadText, xe_BadText, xh_BadText, xn_BadText⟩
  have x_BadName : ExI l.prog K mg A_BadName f_BadName___init__ "name" "ValueError" "ValueError.__new__" "ValueError.__init__" := mk_exi (txt := "") ⟨xi_BadName, xo_BadName, xh_BadName, xs_BadName, xe_BadName, xb_BadName, xt_BadName, xk_BadName⟩ a_f_BadName___init__ ty_BadName___init__ xn_BadName xsup_BadName xm_BadName Z.z_super opq top0 l_BadName___init__ c_BadName___init__ lc_BadName___init__ hv_BadName___init__ hf_BadName___init__ lx_BadName___init__
    ⟨_, _, _, _, _, _, _, _, _, _, _, _, rfl, fun _ => rfl, fun _ _ => rfl, fun _ _ => rfl⟩ ⟨rfl, rfl, rfl, by decide +kernel⟩ ⟨rfl, rfl, rfl, rfl⟩ ⟨_, rfl, rfl⟩ (by decide +kernel) (by decide +kernel) fun fd s x v => exi_BadName
  have g_BadName : ExG K A_BadName "name" := ⟨xg_BadName, xgg_BadName, xe_BadName, xh_BadName, xn_BadName⟩
  have x_TwiceNamed : ExI l.prog K mg A_TwiceNamed f_TwiceNamed___init__ "name" "ValueError" "ValueError.__new__" "ValueError.__init__" := mk_exi (txt := "") ⟨xi_TwiceNamed, xo_TwiceNamed, xh_TwiceNamed, xs_TwiceNamed, xe_TwiceNamed, xb_TwiceNamed, xt_TwiceNamed, xk_TwiceNamed⟩ a_f_TwiceNamed___init__ ty_TwiceNamed___init__ xn_TwiceNamed xsup_TwiceNamed xm_TwiceNamed Z.z_super opq top0 l_TwiceNamed___init__ c_TwiceNamed___init__ lc_TwiceNamed___init__ hv_TwiceNamed___init__ hf_TwiceNamed___init__ lx_TwiceNamed___init__
    ⟨_, _, _, _, _, _, _, _, _, _, _, _, rfl, fun _ => rfl, fun _ _ => rfl, fun _ _ => rfl⟩ ⟨rfl, rfl, rfl, by decide +kernel⟩ ⟨rfl, rfl, rfl, rfl⟩ ⟨_, rfl, rfl⟩ (by decide +kernel) (by decide +kernel) fun fd s x v => exi_TwiceNamed
  have g_TwiceNamed : ExG K A_TwiceNamed "name" := ⟨xg_TwiceNamed, xgg_TwiceNamed, xe_TwiceNamed, xh_TwiceNamed, xn_TwiceNamed⟩
  have x_BadCount : ExI l.prog K mg A_BadCount f_BadCount___init__ "count" "ValueError" "ValueError.__new__" "ValueError.__init__" := mk_exi (txt := "") ⟨xi_BadCount, xo_BadCount, xh_BadCount, xs_BadCount, xe_BadCount, xb_BadCount, xt_BadCount, xk_BadCount⟩ a_f_BadCount___init__ ty_BadCount___init__ xn_BadCount xsup_BadCount xm_BadCount Z.z_super opq top0 l_BadCount___init__ c_BadCount___init__ lc_BadCount___init__ hv_BadCount___init__ hf_BadCount___init__ lx_BadCount___init__
    ⟨_, _, _, _, _, _, _, _, _, _, _, _, rfl, fun _ => rfl, fun _ _ => rfl, fun _ _ => rfl⟩ ⟨rfl, rfl, rfl, by decide +kernel⟩ ⟨rfl, rfl, rfl, rfl⟩ ⟨_, rfl, rfl⟩ (by decide +kernel) (by decide +kernel) fun fd s x v => exi_BadCount
  have g_BadCount : ExG K A_BadCount "count" := ⟨xg_BadCount, xgg_BadCount, xe_BadCount, xh_BadCount, xn_BadCount⟩
  have x_BadPick : ExI l.prog K mg A_BadPick f_BadPick___init__ "number" "ValueError" "ValueError.__new__" "ValueError.__init__" := mk_exi (txt := "") ⟨xi_BadPick, xo_BadPick, xh_BadPick, xs_BadPick, xe_BadPick, xb_BadPick, xt_BadPick, xk_BadPick⟩ a_f_BadPick___init__ ty_BadPick___init__ xn_BadPick xsup_BadPick xm_BadPick Z.z_super opq top0 l_BadPick___init__ c_BadPick___init__ lc_BadPick___init__ hv_BadPick___init__ hf_BadPick___init__ lx_BadPick___init__
    ⟨_, _, _, _, _, _, _, _, _, _, _, _, rfl, fun _ => rfl, fun _ _ => rfl, fun _ _ => rfl⟩ ⟨rfl, rfl, rfl, by decide +kernel⟩ ⟨rfl, rfl, rfl, rfl⟩ ⟨_, rfl, rfl⟩ (by decide +kernel) (by decide +kernel) fun fd s x v => exi_BadPick
  have g_BadPick : ExG K A_BadPick "number" := ⟨xg_BadPick, xgg_BadPick, xe_BadPick, xh_BadPick, xn_BadPick⟩
  have x_BadPaper : ExI l.prog K mg A_BadPaper f_BadPaper___init__ "number" "ValueError" "ValueError.__new__" "ValueError.__init__" := mk_exi (txt := "") ⟨xi_BadPaper, xo_BadPaper, xh_BadPaper, xs_BadPaper, xe_BadPaper, xb_BadPaper, xt_BadPaper, xk_BadPaper⟩ a_f_BadPaper___init__ ty_BadPaper___init__ xn_BadPaper xsup_BadPaper xm_BadPaper Z.z_super opq top0 l_BadPaper___init__ c_BadPaper___init__ lc_BadPaper___init__ hv_BadPaper___init__ hf_BadPaper___init__ lx_BadPaper___init__
    ⟨_, _, _, _, _, _, _, _, _, _, _, _, rfl, fun _ => rfl, fun _ _ => rfl, fun _ _ => rfl⟩ ⟨rfl, rfl, rfl, by decide +kernel⟩ ⟨rfl, rfl, rfl, rfl⟩ ⟨_, rfl, rfl⟩ (by decide +kernel) (by decide +kernel) fun fd s x v => exi_BadPaper
  have g_BadPaper : ExG K A_BadPaper "number" := ⟨xg_BadPaper, xgg_BadPaper, xe_BadPaper, xh_BadPaper, xn_BadPaper⟩
  have x_TooMany : ExI l.prog K mg A_TooMany f_TooMany___init__ "size" "ValueError" "ValueError.__new__" "ValueError.__init__" := mk_exi (txt := "") ⟨xi_TooMany, xo_TooMany, xh_TooMany, xs_TooMany, xe_TooMany, xb_TooMany, xt_TooMany, xk_TooMany⟩ a_f_TooMany___init__ ty_TooMany___init__ xn_TooMany xsup_TooMany xm_TooMany Z.z_super opq top0 l_TooMany___init__ c_TooMany___init__ lc_TooMany___init__ hv_TooMany___init__ hf_TooMany___init__ lx_TooMany___init__
    ⟨_, _, _, _, _, _, _, _, _, _, _, _, rfl, fun _ => rfl, fun _ _ => rfl, fun _ _ => rfl⟩ ⟨rfl, rfl, rfl, by decide +kernel⟩ ⟨rfl, rfl, rfl, rfl⟩ ⟨_, rfl, rfl⟩ (by decide +kernel) (by decide +kernel) fun fd s x v => exi_TooMany
  have g_TooMany : ExG K A_TooMany "size" := ⟨xg_TooMany, xgg_TooMany, xe_TooMany, xh_TooMany, xn_TooMany⟩
  have x_UnknownWorth : ExI l.prog K mg A_UnknownWorth f_UnknownWorth___init__ "name" "LookupError" "LookupError.__new__" "LookupError.__init__" := mk_exi (txt := "") ⟨xi_UnknownWorth, xo_UnknownWorth, xh_UnknownWorth, xs_UnknownWorth, xe_UnknownWorth, xb_UnknownWorth, xt_UnknownWorth, xk_UnknownWorth⟩ a_f_UnknownWorth___init__ ty_UnknownWorth___init__ xn_UnknownWorth xsup_UnknownWorth xm_UnknownWorth Z.z_super opq top0 l_UnknownWorth___init__ c_UnknownWorth___init__ lc_UnknownWorth___init__ hv_UnknownWorth___init__ hf_UnknownWorth___init__ lx_UnknownWorth___init__
    ⟨_, _, _, _, _, _, _, _, _, _, _, _, rfl, fun _ => rfl, fun _ _ => rfl, fun _ _ => rfl⟩ ⟨rfl, rfl, rfl, by decide +kernel⟩ ⟨rfl, rfl, rfl, rfl⟩ ⟨_, rfl, rfl⟩ (by decide +kernel) (by decide +kernel) fun fd s x v => exi_UnknownWorth
  have g_UnknownWorth : ExG K A_UnknownWorth "name" := ⟨xg_UnknownWorth, xgg_UnknownWorth, xe_UnknownWorth, xh_UnknownWorth, xn_UnknownWorth⟩
  have x_UnknownDeed : ExI l.prog K mg A_UnknownDeed f_UnknownDeed___init__ "name" "LookupError" "LookupError.__new__" "LookupError.__init__" := mk_exi (txt := "") ⟨xi_UnknownDeed, xo_UnknownDeed, xh_UnknownDeed, xs_UnknownDeed, xe_UnknownDeed, xb_UnknownDeed, xt_UnknownDeed, xk_UnknownDeed⟩ a_f_UnknownDeed___init__ ty_UnknownDeed___init__ xn_UnknownDeed xsup_UnknownDeed xm_UnknownDeed Z.z_super opq top0 l_UnknownDeed___init__ c_UnknownDeed___init__ lc_UnknownDeed___init__ hv_UnknownDeed___init__ hf_UnknownDeed___init__ lx_UnknownDeed___init__
    ⟨_, _, _, _, _, _, _, _, _, _, _, _, rfl, fun _ => rfl, fun _ _ => rfl, fun _ _ => rfl⟩ ⟨rfl, rfl, rfl, by decide +kernel⟩ ⟨rfl, rfl, rfl, rfl⟩ ⟨_, rfl, rfl⟩ (by decide +kernel) (by decide +kernel) fun fd s x v => exi_UnknownDeed
  have g_UnknownDeed : ExG K A_UnknownDeed "name" := ⟨xg_UnknownDeed, xgg_UnknownDeed, xe_UnknownDeed, xh_UnknownDeed, xn_UnknownDeed⟩
  have x_UnknownProcedure : ExI l.prog K mg A_UnknownProcedure f_UnknownProcedure___init__ "name" "LookupError" "LookupError.__new__" "LookupError.__init__" := mk_exi (txt := "") ⟨xi_UnknownProcedure, xo_UnknownProcedure, xh_UnknownProcedure, xs_UnknownProcedure, xe_UnknownProcedure, xb_UnknownProcedure, xt_UnknownProcedure, xk_UnknownProcedure⟩ a_f_UnknownProcedure___init__ ty_UnknownProcedure___init__ xn_UnknownProcedure xsup_UnknownProcedure xm_UnknownProcedure Z.z_super opq top0 l_UnknownProcedure___init__ c_UnknownProcedure___init__ lc_UnknownProcedure___init__ hv_UnknownProcedure___init__ hf_UnknownProcedure___init__ lx_UnknownProcedure___init__
    ⟨_, _, _, _, _, _, _, _, _, _, _, _, rfl, fun _ => rfl, fun _ _ => rfl, fun _ _ => rfl⟩ ⟨rfl, rfl, rfl, by decide +kernel⟩ ⟨rfl, rfl, rfl, rfl⟩ ⟨_, rfl, rfl⟩ (by decide +kernel) (by decide +kernel) fun fd s x v => exi_UnknownProcedure
  have g_UnknownProcedure : ExG K A_UnknownProcedure "name" := ⟨xg_UnknownProcedure, xgg_UnknownProcedure, xe_UnknownProcedure, xh_UnknownProcedure, xn_UnknownProcedure⟩
  have x_NoDeed : ExI l.prog K mg A_NoDeed f_NoDeed___init__ "number" "LookupError" "LookupError.__new__" "LookupError.__init__" := mk_exi (txt := "") ⟨xi_NoDeed, xo_NoDeed, xh_NoDeed, xs_NoDeed, xe_NoDeed, xb_NoDeed, xt_NoDeed, xk_NoDeed⟩ a_f_NoDeed___init__ ty_NoDeed___init__ xn_NoDeed xsup_NoDeed xm_NoDeed Z.z_super opq top0 l_NoDeed___init__ c_NoDeed___init__ lc_NoDeed___init__ hv_NoDeed___init__ hf_NoDeed___init__ lx_NoDeed___init__
    ⟨_, _, _, _, _, _, _, _, _, _, _, _, rfl, fun _ => rfl, fun _ _ => rfl, fun _ _ => rfl⟩ ⟨rfl, rfl, rfl, by decide +kernel⟩ ⟨rfl, rfl, rfl, rfl⟩ ⟨_, rfl, rfl⟩ (by decide +kernel) (by decide +kernel) fun fd s x v => exi_NoDeed
  have g_NoDeed : ExG K A_NoDeed "number" := ⟨xg_NoDeed, xgg_NoDeed, xe_NoDeed, xh_NoDeed, xn_NoDeed⟩
  have T : ∀ C ∈ ([A_BadScale, A_MixedScales, A_NoPick, A_BadMap, A_NegativeCount, A_BadText, A_BadName, A_TwiceNamed, A_BadCount, A_BadPick, A_BadPaper, A_TooMany, A_UnknownWorth, A_UnknownDeed, A_UnknownProcedure, A_NoDeed] : List Addr), ExcC K C := by
    intro C hC
    simp only [List.mem_cons, List.not_mem_nil, or_false] at hC
    rcases hC with rfl | rfl | rfl | rfl | rfl | rfl | rfl | rfl | rfl | rfl | rfl | rfl | rfl | rfl | rfl | rfl
    · exact X_BadScale
    · exact X_MixedScales
    · exact X_NoPick
    · exact X_BadMap
    · exact X_NegativeCount
    · exact X_BadText
    · exact X_BadName
    · exact X_TwiceNamed
    · exact X_BadCount
    · exact X_BadPick
    · exact X_BadPaper
    · exact X_TooMany
    · exact X_UnknownWorth
    · exact X_UnknownDeed
    · exact X_UnknownProcedure
    · exact X_NoDeed
  have F__law_source := fun_mk (st := s__law_source) l__law_source c__law_source k__law_source
  have F__law_pick := fun_mk (st := s__law_pick) l__law_pick c__law_pick k__law_pick
  have F__law_classes := fun_mk (st := s__law_classes) l__law_classes c__law_classes k__law_classes
  have F__law_bases := fun_mk (st := s__law_bases) l__law_bases c__law_bases k__law_bases
  have F_law := fun_mk (st := s_law) l_law c_law k_law
  have b__law_source := F__law_source.binds (ps := ["_law_script"]) fun _ _ _ _ _ _ us hl => match us, hl with | [_], _ => rfl
  have c___law_source : Callee l.prog w K mg base "_law_source" CX0 1 ["_law_script"] [] (sp_source K) := ⟨f__law_source, _, [], PySem.W.mg_of X G a_f__law_source, k__law_source, ok_source Z F__law_source, b__law_source, .nil⟩
  have b__law_pick := F__law_pick.binds (ps := ["_law_source_here", "_law_many"]) fun _ _ _ _ _ _ us hl => match us, hl with | [_, _], _ => rfl
  have c___law_pick : Callee l.prog w K mg base "_law_pick" CX0 1 ["_law_source_here", "_law_many"] [] sp_pick := ⟨f__law_pick, _, [], PySem.W.mg_of X G a_f__law_pick, k__law_pick, ok_pick Z F__law_pick, b__law_pick, .nil⟩
  have b__law_classes := F__law_classes.binds (ps := ["_law_e"]) fun _ _ _ _ _ _ us hl => match us, hl with | [_], _ => rfl
  have c___law_classes : Callee l.prog w K mg base "_law_classes" CX0 1 ["_law_e"] [] (spP (PCl K [A_BadScale, A_MixedScales, A_NoPick, A_BadMap, A_NegativeCount, A_BadText, A_BadName, A_TwiceNamed, A_BadCount, A_BadPick, A_BadPaper, A_TooMany, A_UnknownWorth, A_UnknownDeed, A_UnknownProcedure, A_NoDeed])) := ⟨f__law_classes, _, [], PySem.W.mg_of X G a_f__law_classes, k__law_classes, ok_classes Z rfl (kit_all kt) (PySem.W.mg_of X G a_A_BadScale) (PySem.W.mg_of X G a_A_MixedScales) (PySem.W.mg_of X G a_A_NoPick) (PySem.W.mg_of X G a_A_BadMap) (PySem.W.mg_of X G a_A_NegativeCount) (PySem.W.mg_of X G a_A_BadText) (PySem.W.mg_of X G a_A_BadName) (PySem.W.mg_of X G a_A_TwiceNamed) (PySem.W.mg_of X G a_A_BadCount) (PySem.W.mg_of X G a_A_BadPick) (PySem.W.mg_of X G a_A_BadPaper) (PySem.W.mg_of X G a_A_TooMany) (PySem.W.mg_of X G a_A_UnknownWorth) (PySem.W.mg_of X G a_A_UnknownDeed) (PySem.W.mg_of X G a_A_UnknownProcedure) (PySem.W.mg_of X G a_A_NoDeed) F__law_classes, b__law_classes, .nil⟩
  have b__law_bases := F__law_bases.binds (ps := ["_law_e"]) fun _ _ _ _ _ _ us hl => match us, hl with | [_], _ => rfl
  have c___law_bases : Callee l.prog w K mg base "_law_bases" CX0 1 ["_law_e"] [] (spP (PBa K [A_BadScale, A_MixedScales, A_NoPick, A_BadMap, A_NegativeCount, A_BadText, A_BadName, A_TwiceNamed, A_BadCount, A_BadPick, A_BadPaper, A_TooMany, A_UnknownWorth, A_UnknownDeed, A_UnknownProcedure, A_NoDeed])) := ⟨f__law_bases, _, [], PySem.W.mg_of X G a_f__law_bases, k__law_bases, ok_bases Z (kit_row kD) (kit_row kV) (kit_row kN) (kit_row kL) (PySem.W.mg_of X G a_A_DeedscaleError) (PySem.W.mg_of X G a_A_NameMissing) F__law_bases, b__law_bases, .nil⟩
  exact ok_law Z rfl T c___law_source c___law_pick c___law_classes c___law_bases q_BadScale (PySem.W.mg_of X G a_A_BadScale) xk_BadScale q_MixedScales (PySem.W.mg_of X G a_A_MixedScales) xk_MixedScales q_NoPick (PySem.W.mg_of X G a_A_NoPick) xk_NoPick q_BadMap (PySem.W.mg_of X G a_A_BadMap) xk_BadMap x_NegativeCount (PySem.W.mg_of X G a_A_NegativeCount) g_NegativeCount x_BadText (PySem.W.mg_of X G a_A_BadText) g_BadText x_BadName (PySem.W.mg_of X G a_A_BadName) g_BadName x_TwiceNamed (PySem.W.mg_of X G a_A_TwiceNamed) g_TwiceNamed x_BadCount (PySem.W.mg_of X G a_A_BadCount) g_BadCount x_BadPick (PySem.W.mg_of X G a_A_BadPick) g_BadPick x_BadPaper (PySem.W.mg_of X G a_A_BadPaper) g_BadPaper x_TooMany (PySem.W.mg_of X G a_A_TooMany) g_TooMany x_UnknownWorth (PySem.W.mg_of X G a_A_UnknownWorth) g_UnknownWorth x_UnknownDeed (PySem.W.mg_of X G a_A_UnknownDeed) g_UnknownDeed x_UnknownProcedure (PySem.W.mg_of X G a_A_UnknownProcedure) g_UnknownProcedure x_NoDeed (PySem.W.mg_of X G a_A_NoDeed) g_NoDeed F_law
end L2.DS
open PySem PySem.W PyProof.Rows
set_option maxRecDepth 100000 in
set_option maxHeartbeats 0 in
theorem PySem.Challenge.cw_deedscale_k82_errors_holds : PySem.Challenge.rw_deedscale_k82_errors.Holds := by
  w_on; o_law; k_headL; (case hw => w_witness2)
  k_fill
  refine L2.walk_of (l := PySem.Challenge.rw_deedscale_k82_errors) (n := 63) (k := 6) (x := "_law_script") (CX := fun _ => L2.CX0) (sp := fun w => L2.DS.sp_law _) rfl (by decide) rfl ⟨rfl, by decide, by decide⟩ (fun w h Y => PySem.W.kIn_of Y) ?F (fun _ _ a ns hl _ hS => ⟨a, ns, rfl, hS, hl, fun _ => rfl⟩) fun _ _ _ _ _ z => z
  case F =>
    intro w mg fa h KX G hmg
    refine' L2.DS.all_mk KX G hmg ?z_int ?z_abs ?z_range ?z_len ?z_isinstance ?z_bool ?z_str ?z_list ?z_tuple ?z_dict ?z_enumerate ?z_zip ?z_reversed ?z_ValueError ?z_LookupError ?z_KeyError ?z_Exception ?z_super ?z_sum ?z_any ?z_all ?z_sorted ?z_max ?z_min ?z_NotImplementedError ?z_set ?z_repr ?opq ?top0 ?a_A_BadScale ?a_A_MixedScales ?a_A_NoPick ?a_A_BadMap ?a_A_NegativeCount ?a_A_BadText ?a_A_BadName ?a_A_TwiceNamed ?a_A_BadCount ?a_A_BadPick ?a_A_BadPaper ?a_A_TooMany ?a_A_UnknownWorth ?a_A_UnknownDeed ?a_A_UnknownProcedure ?a_A_NoDeed ?a_A_DeedscaleError ?a_A_NameMissing ?xsp ?xtk ?xh_BadScale ?xe_BadScale ?xk_BadScale ?xg_BadScale ?xgg_BadScale ?xcl_BadScale ?xmo_BadScale ?xh_MixedScales ?xe_MixedScales ?xk_MixedScales ?xg_MixedScales ?xgg_MixedScales ?xcl_MixedScales ?xmo_MixedScales ?xh_NoPick ?xe_NoPick ?xk_NoPick ?xg_NoPick ?xgg_NoPick ?xcl_NoPick ?xmo_NoPick ?xh_BadMap ?xe_BadMap ?xk_BadMap ?xg_BadMap ?xgg_BadMap ?xcl_BadMap ?xmo_BadMap ?xh_NegativeCount ?xe_NegativeCount ?xk_NegativeCount ?xg_NegativeCount ?xgg_NegativeCount ?xcl_NegativeCount ?xmo_NegativeCount ?xh_BadText ?xe_BadText ?xk_BadText ?xg_BadText ?xgg_BadText ?xcl_BadText ?xmo_BadText ?xh_BadName ?xe_BadName ?xk_BadName ?xg_BadName ?xgg_BadName ?xcl_BadName ?xmo_BadName ?xh_TwiceNamed ?xe_TwiceNamed ?xk_TwiceNamed ?xg_TwiceNamed ?xgg_TwiceNamed ?xcl_TwiceNamed ?xmo_TwiceNamed ?xh_BadCount ?xe_BadCount ?xk_BadCount ?xg_BadCount ?xgg_BadCount ?xcl_BadCount ?xmo_BadCount ?xh_BadPick ?xe_BadPick ?xk_BadPick ?xg_BadPick ?xgg_BadPick ?xcl_BadPick ?xmo_BadPick ?xh_BadPaper ?xe_BadPaper ?xk_BadPaper ?xg_BadPaper ?xgg_BadPaper ?xcl_BadPaper ?xmo_BadPaper ?xh_TooMany ?xe_TooMany ?xk_TooMany ?xg_TooMany ?xgg_TooMany ?xcl_TooMany ?xmo_TooMany ?xh_UnknownWorth ?xe_UnknownWorth ?xk_UnknownWorth ?xg_UnknownWorth ?xgg_UnknownWorth ?xcl_UnknownWorth ?xmo_UnknownWorth ?xh_UnknownDeed ?xe_UnknownDeed ?xk_UnknownDeed ?xg_UnknownDeed ?xgg_UnknownDeed ?xcl_UnknownDeed ?xmo_UnknownDeed ?xh_UnknownProcedure ?xe_UnknownProcedure ?xk_UnknownProcedure ?xg_UnknownProcedure ?xgg_UnknownProcedure ?xcl_UnknownProcedure ?xmo_UnknownProcedure ?xh_NoDeed ?xe_NoDeed ?xk_NoDeed ?xg_NoDeed ?xgg_NoDeed ?xcl_NoDeed ?xmo_NoDeed ?q_BadScale ?q_MixedScales ?q_NoPick ?q_BadMap ?xi_NegativeCount ?xo_NegativeCount ?xs_NegativeCount ?xb_NegativeCount ?xt_NegativeCount ?xn_NegativeCount ?xm_NegativeCount ?xsup_NegativeCount ?a_f_NegativeCount___init__ ?ty_NegativeCount___init__ ?l_NegativeCount___init__ ?c_NegativeCount___init__ ?lc_NegativeCount___init__ ?hv_NegativeCount___init__ ?hf_NegativeCount___init__ ?lx_NegativeCount___init__ ?xi_BadText ?xo_BadText ?xs_BadText ?xb_BadText ?xt_BadText ?xn_BadText ?xm_BadText ?xsup_BadText ?a_f_BadText___init__ ?ty_BadText___init__ ?l_BadText___init__ ?c_BadText___init__ ?lc_BadText___init__ ?hv_BadText___init__ ?hf_BadText___init__ ?lx_BadText___init__ ?xi_BadName ?xo_BadName ?xs_BadName ?xb_BadName ?xt_BadName ?xn_BadName ?xm_BadName ?xsup_BadName ?a_f_BadName___init__ ?ty_BadName___init__ ?l_BadName___init__ ?c_BadName___init__ ?lc_BadName___init__ ?hv_BadName___init__ ?hf_BadName___init__ ?lx_BadName___init__ ?xi_TwiceNamed ?xo_TwiceNamed ?xs_TwiceNamed ?xb_TwiceNamed ?xt_TwiceNamed ?xn_TwiceNamed ?xm_TwiceNamed ?xsup_TwiceNamed ?a_f_TwiceNamed___init__ ?ty_TwiceNamed___init__ ?l_TwiceNamed___init__ ?c_TwiceNamed___init__ ?lc_TwiceNamed___init__ ?hv_TwiceNamed___init__ ?hf_TwiceNamed___init__ ?lx_TwiceNamed___init__ ?xi_BadCount ?xo_BadCount ?xs_BadCount ?xb_BadCount ?xt_BadCount ?xn_BadCount ?xm_BadCount ?xsup_BadCount ?a_f_BadCount___init__ ?ty_BadCount___init__ ?l_BadCount___init__ ?c_BadCount___init__ ?lc_BadCount___init__ ?hv_BadCount___init__ ?hf_BadCount___init__ ?lx_BadCount___init__ ?xi_BadPick ?xo_BadPick ?xs_BadPick ?xb_BadPick ?xt_BadPick ?xn_BadPick ?xm_BadPick ?xsup_BadPick ?a_f_BadPick___init__ ?ty_BadPick___init__ ?l_BadPick___init__ ?c_BadPick___init__ ?lc_BadPick___init__ ?hv_BadPick___init__ ?hf_BadPick___init__ ?lx_BadPick___init__ ?xi_BadPaper ?xo_BadPaper ?xs_BadPaper ?xb_BadPaper ?xt_BadPaper ?xn_BadPaper ?xm_BadPaper ?xsup_BadPaper ?a_f_BadPaper___init__ ?ty_BadPaper___init__ ?l_BadPaper___init__ ?c_BadPaper___init__ ?lc_BadPaper___init__ ?hv_BadPaper___init__ ?hf_BadPaper___init__ ?lx_BadPaper___init__ ?xi_TooMany ?xo_TooMany ?xs_TooMany ?xb_TooMany ?xt_TooMany ?xn_TooMany ?xm_TooMany ?xsup_TooMany ?a_f_TooMany___init__ ?ty_TooMany___init__ ?l_TooMany___init__ ?c_TooMany___init__ ?lc_TooMany___init__ ?hv_TooMany___init__ ?hf_TooMany___init__ ?lx_TooMany___init__ ?xi_UnknownWorth ?xo_UnknownWorth ?xs_UnknownWorth ?xb_UnknownWorth ?xt_UnknownWorth ?xn_UnknownWorth ?xm_UnknownWorth ?xsup_UnknownWorth ?a_f_UnknownWorth___init__ ?ty_UnknownWorth___init__ ?l_UnknownWorth___init__ ?c_UnknownWorth___init__ ?lc_UnknownWorth___init__ ?hv_UnknownWorth___init__ ?hf_UnknownWorth___init__ ?lx_UnknownWorth___init__ ?xi_UnknownDeed ?xo_UnknownDeed ?xs_UnknownDeed ?xb_UnknownDeed ?xt_UnknownDeed ?xn_UnknownDeed ?xm_UnknownDeed ?xsup_UnknownDeed ?a_f_UnknownDeed___init__ ?ty_UnknownDeed___init__ ?l_UnknownDeed___init__ ?c_UnknownDeed___init__ ?lc_UnknownDeed___init__ ?hv_UnknownDeed___init__ ?hf_UnknownDeed___init__ ?lx_UnknownDeed___init__ ?xi_UnknownProcedure ?xo_UnknownProcedure ?xs_UnknownProcedure ?xb_UnknownProcedure ?xt_UnknownProcedure ?xn_UnknownProcedure ?xm_UnknownProcedure ?xsup_UnknownProcedure ?a_f_UnknownProcedure___init__ ?ty_UnknownProcedure___init__ ?l_UnknownProcedure___init__ ?c_UnknownProcedure___init__ ?lc_UnknownProcedure___init__ ?hv_UnknownProcedure___init__ ?hf_UnknownProcedure___init__ ?lx_UnknownProcedure___init__ ?xi_NoDeed ?xo_NoDeed ?xs_NoDeed ?xb_NoDeed ?xt_NoDeed ?xn_NoDeed ?xm_NoDeed ?xsup_NoDeed ?a_f_NoDeed___init__ ?ty_NoDeed___init__ ?l_NoDeed___init__ ?c_NoDeed___init__ ?lc_NoDeed___init__ ?hv_NoDeed___init__ ?hf_NoDeed___init__ ?lx_NoDeed___init__ ?kt ?kD ?kV ?kN ?kL ?a_f__law_source ?l__law_source ?c__law_source ?k__law_source ?a_f__law_pick ?l__law_pick ?c__law_pick ?k__law_pick ?a_f__law_classes ?l__law_classes ?c__law_classes ?k__law_classes ?a_f__law_bases ?l__law_bases ?c__law_bases ?k__law_bases ?a_f_law ?l_law ?c_law ?k_law
    (case z_int => k_is)
    (case z_abs => k_is)
    (case z_range => k_is)
    (case z_len => k_is)
    (case z_isinstance => k_is)
    (case z_bool => k_is)
    (case z_str => k_is)
    (case z_list => k_is)
    (case z_tuple => k_is)
    (case z_dict => k_is)
    (case z_enumerate => k_is)
    (case z_zip => k_is)
    (case z_reversed => k_is)
    (case z_ValueError => k_is)
    (case z_LookupError => k_is)
    (case z_KeyError => k_is)
    (case z_Exception => k_is)
    (case z_super => k_is)
    (case z_sum => k_is)
    (case z_any => k_is)
    (case z_all => k_is)
    (case z_sorted => k_is)
    (case z_max => k_is)
    (case z_min => k_is)
    (case z_NotImplementedError => k_is)
    (case z_set => k_is)
    (case z_repr => k_is)
    (case opq => k_is)
    (case top0 => rfl)
    (case a_A_BadScale => k_is)
    (case a_A_MixedScales => k_is)
    (case a_A_NoPick => k_is)
    (case a_A_BadMap => k_is)
    (case a_A_NegativeCount => k_is)
    (case a_A_BadText => k_is)
    (case a_A_BadName => k_is)
    (case a_A_TwiceNamed => k_is)
    (case a_A_BadCount => k_is)
    (case a_A_BadPick => k_is)
    (case a_A_BadPaper => k_is)
    (case a_A_TooMany => k_is)
    (case a_A_UnknownWorth => k_is)
    (case a_A_UnknownDeed => k_is)
    (case a_A_UnknownProcedure => k_is)
    (case a_A_NoDeed => k_is)
    (case a_A_DeedscaleError => k_is)
    (case a_A_NameMissing => k_is)
    (case xsp => k_is)
    (case xtk => k_is)
    (case xh_BadScale => k_is)
    (case xe_BadScale => k_is)
    (case xk_BadScale => k_is)
    (case xg_BadScale => k_is)
    (case xgg_BadScale => k_is)
    (case xcl_BadScale => k_is)
    (case xmo_BadScale => k_is)
    (case xh_MixedScales => k_is)
    (case xe_MixedScales => k_is)
    (case xk_MixedScales => k_is)
    (case xg_MixedScales => k_is)
    (case xgg_MixedScales => k_is)
    (case xcl_MixedScales => k_is)
    (case xmo_MixedScales => k_is)
    (case xh_NoPick => k_is)
    (case xe_NoPick => k_is)
    (case xk_NoPick => k_is)
    (case xg_NoPick => k_is)
    (case xgg_NoPick => k_is)
    (case xcl_NoPick => k_is)
    (case xmo_NoPick => k_is)
    (case xh_BadMap => k_is)
    (case xe_BadMap => k_is)
    (case xk_BadMap => k_is)
    (case xg_BadMap => k_is)
    (case xgg_BadMap => k_is)
    (case xcl_BadMap => k_is)
    (case xmo_BadMap => k_is)
    (case xh_NegativeCount => k_is)
    (case xe_NegativeCount => k_is)
    (case xk_NegativeCount => k_is)
    (case xg_NegativeCount => k_is)
    (case xgg_NegativeCount => k_is)
    (case xcl_NegativeCount => k_is)
    (case xmo_NegativeCount => k_is)
    (case xh_BadText => k_is)
    (case xe_BadText => k_is)
    (case xk_BadText => k_is)
    (case xg_BadText => k_is)
    (case xgg_BadText => k_is)
    (case xcl_BadText => k_is)
    (case xmo_BadText => k_is)
    (case xh_BadName => k_is)
    (case xe_BadName => k_is)
    (case xk_BadName => k_is)
    (case xg_BadName => k_is)
    (case xgg_BadName => k_is)
    (case xcl_BadName => k_is)
    (case xmo_BadName => k_is)
    (case xh_TwiceNamed => k_is)
    (case xe_TwiceNamed => k_is)
    (case xk_TwiceNamed => k_is)
    (case xg_TwiceNamed => k_is)
    (case xgg_TwiceNamed => k_is)
    (case xcl_TwiceNamed => k_is)
    (case xmo_TwiceNamed => k_is)
    (case xh_BadCount => k_is)
    (case xe_BadCount => k_is)
    (case xk_BadCount => k_is)
    (case xg_BadCount => k_is)
    (case xgg_BadCount => k_is)
    (case xcl_BadCount => k_is)
    (case xmo_BadCount => k_is)
    (case xh_BadPick => k_is)
    (case xe_BadPick => k_is)
    (case xk_BadPick => k_is)
    (case xg_BadPick => k_is)
    (case xgg_BadPick => k_is)
    (case xcl_BadPick => k_is)
    (case xmo_BadPick => k_is)
    (case xh_BadPaper => k_is)
    (case xe_BadPaper => k_is)
    (case xk_BadPaper => k_is)
    (case xg_BadPaper => k_is)
    (case xgg_BadPaper => k_is)
    (case xcl_BadPaper => k_is)
    (case xmo_BadPaper => k_is)
    (case xh_TooMany => k_is)
    (case xe_TooMany => k_is)
    (case xk_TooMany => k_is)
    (case xg_TooMany => k_is)
    (case xgg_TooMany => k_is)
    (case xcl_TooMany => k_is)
    (case xmo_TooMany => k_is)
    (case xh_UnknownWorth => k_is)
    (case xe_UnknownWorth => k_is)
    (case xk_UnknownWorth => k_is)
    (case xg_UnknownWorth => k_is)
    (case xgg_UnknownWorth => k_is)
    (case xcl_UnknownWorth => k_is)
    (case xmo_UnknownWorth => k_is)
    (case xh_UnknownDeed => k_is)
    (case xe_UnknownDeed => k_is)
    (case xk_UnknownDeed => k_is)
    (case xg_UnknownDeed => k_is)
    (case xgg_UnknownDeed => k_is)
    (case xcl_UnknownDeed => k_is)
    (case xmo_UnknownDeed => k_is)
    (case xh_UnknownProcedure => k_is)
    (case xe_UnknownProcedure => k_is)
    (case xk_UnknownProcedure => k_is)
    (case xg_UnknownProcedure => k_is)
    (case xgg_UnknownProcedure => k_is)
    (case xcl_UnknownProcedure => k_is)
    (case xmo_UnknownProcedure => k_is)
    (case xh_NoDeed => k_is)
    (case xe_NoDeed => k_is)
    (case xk_NoDeed => k_is)
    (case xg_NoDeed => k_is)
    (case xgg_NoDeed => k_is)
    (case xcl_NoDeed => k_is)
    (case xmo_NoDeed => k_is)
    (case q_BadScale => kernel_rfl)
    (case q_MixedScales => kernel_rfl)
    (case q_NoPick => kernel_rfl)
    (case q_BadMap => kernel_rfl)
    (case xi_NegativeCount => kernel_rfl)
    (case xo_NegativeCount => kernel_rfl)
    (case xs_NegativeCount => k_is)
    (case xb_NegativeCount => k_is)
    (case xt_NegativeCount => k_is)
    (case xn_NegativeCount => k_is)
    (case xm_NegativeCount => k_is)
    (case xsup_NegativeCount => kernel_rfl)
    (case a_f_NegativeCount___init__ => k_is)
    (case ty_NegativeCount___init__ => k_is)
    (case l_NegativeCount___init__ => k_is)
    (case c_NegativeCount___init__ => k_is)
    (case lc_NegativeCount___init__ => k_is)
    (case hv_NegativeCount___init__ => exact rfl)
    (case hf_NegativeCount___init__ => kernel_rfl)
    (case lx_NegativeCount___init__ => k_is)
    (case xi_BadText => kernel_rfl)
    (case xo_BadText => kernel_rfl)
    (case xs_BadText => k_is)
    (case xb_BadText => k_is)
    (case xt_BadText => k_is)
    (case xn_BadText => k_is)
    (case xm_BadText => k_is)
    (case xsup_BadText => kernel_rfl)
    (case a_f_BadText___init__ => k_is)
    (case ty_BadText___init__ => k_is)
    (case l_BadText___init__ => k_is)
    (case c_BadText___init__ => k_is)
    (case lc_BadText___init__ => k_is)
    (case hv_BadText___init__ => exact rfl)
    (case hf_BadText___init__ => kernel_rfl)
    (case lx_BadText___init__ => k_is)
    (case xi_BadName => kernel_rfl)
    (case xo_BadName => kernel_rfl)
    (case xs_BadName => k_is)
    (case xb_BadName => k_is)
    (case xt_BadName => k_is)
    (case xn_BadName => k_is)
    (case xm_BadName => k_is)
    (case xsup_BadName => kernel_rfl)
    (case a_f_BadName___init__ => k_is)
    (case ty_BadName___init__ => k_is)
    (case l_BadName___init__ => k_is)
    (case c_BadName___init__ => k_is)
    (case lc_BadName___init__ => k_is)
    (case hv_BadName___init__ => exact rfl)
    (case hf_BadName___init__ => kernel_rfl)
    (case lx_BadName___init__ => k_is)
    (case xi_TwiceNamed => kernel_rfl)
    (case xo_TwiceNamed => kernel_rfl)
    (case xs_TwiceNamed => k_is)
    (case xb_TwiceNamed => k_is)
    (case xt_TwiceNamed => k_is)
    (case xn_TwiceNamed => k_is)
    (case xm_TwiceNamed => k_is)
    (case xsup_TwiceNamed => kernel_rfl)
    (case a_f_TwiceNamed___init__ => k_is)
    (case ty_TwiceNamed___init__ => k_is)
    (case l_TwiceNamed___init__ => k_is)
    (case c_TwiceNamed___init__ => k_is)
    (case lc_TwiceNamed___init__ => k_is)
    (case hv_TwiceNamed___init__ => exact rfl)
    (case hf_TwiceNamed___init__ => kernel_rfl)
    (case lx_TwiceNamed___init__ => k_is)
    (case xi_BadCount => kernel_rfl)
    (case xo_BadCount => kernel_rfl)
    (case xs_BadCount => k_is)
    (case xb_BadCount => k_is)
    (case xt_BadCount => k_is)
    (case xn_BadCount => k_is)
    (case xm_BadCount => k_is)
    (case xsup_BadCount => kernel_rfl)
    (case a_f_BadCount___init__ => k_is)
    (case ty_BadCount___init__ => k_is)
    (case l_BadCount___init__ => k_is)
    (case c_BadCount___init__ => k_is)
    (case lc_BadCount___init__ => k_is)
    (case hv_BadCount___init__ => exact rfl)
    (case hf_BadCount___init__ => kernel_rfl)
    (case lx_BadCount___init__ => k_is)
    (case xi_BadPick => kernel_rfl)
    (case xo_BadPick => kernel_rfl)
    (case xs_BadPick => k_is)
    (case xb_BadPick => k_is)
    (case xt_BadPick => k_is)
    (case xn_BadPick => k_is)
    (case xm_BadPick => k_is)
    (case xsup_BadPick => kernel_rfl)
    (case a_f_BadPick___init__ => k_is)
    (case ty_BadPick___init__ => k_is)
    (case l_BadPick___init__ => k_is)
    (case c_BadPick___init__ => k_is)
    (case lc_BadPick___init__ => k_is)
    (case hv_BadPick___init__ => exact rfl)
    (case hf_BadPick___init__ => kernel_rfl)
    (case lx_BadPick___init__ => k_is)
    (case xi_BadPaper => kernel_rfl)
    (case xo_BadPaper => kernel_rfl)
    (case xs_BadPaper => k_is)
    (case xb_BadPaper => k_is)
    (case xt_BadPaper => k_is)
    (case xn_BadPaper => k_is)
    (case xm_BadPaper => k_is)
    (case xsup_BadPaper => kernel_rfl)
    (case a_f_BadPaper___init__ => k_is)
    (case ty_BadPaper___init__ => k_is)
    (case l_BadPaper___init__ => k_is)
    (case c_BadPaper___init__ => k_is)
    (case lc_BadPaper___init__ => k_is)
    (case hv_BadPaper___init__ => exact rfl)
    (case hf_BadPaper___init__ => kernel_rfl)
    (case lx_BadPaper___init__ => k_is)
    (case xi_TooMany => kernel_rfl)
    (case xo_TooMany => kernel_rfl)
    (case xs_TooMany => k_is)
    (case xb_TooMany => k_is)
    (case xt_TooMany => k_is)
    (case xn_TooMany => k_is)
    (case xm_TooMany => k_is)
    (case xsup_TooMany => kernel_rfl)
    (case a_f_TooMany___init__ => k_is)
    (case ty_TooMany___init__ => k_is)
    (case l_TooMany___init__ => k_is)
    (case c_TooMany___init__ => k_is)
    (case lc_TooMany___init__ => k_is)
    (case hv_TooMany___init__ => exact rfl)
    (case hf_TooMany___init__ => kernel_rfl)
    (case lx_TooMany___init__ => k_is)
    (case xi_UnknownWorth => kernel_rfl)
    (case xo_UnknownWorth => kernel_rfl)
    (case xs_UnknownWorth => k_is)
    (case xb_UnknownWorth => k_is)
    (case xt_UnknownWorth => k_is)
    (case xn_UnknownWorth => k_is)
    (case xm_UnknownWorth => k_is)
    (case xsup_UnknownWorth => kernel_rfl)
    (case a_f_UnknownWorth___init__ => k_is)
    (case ty_UnknownWorth___init__ => k_is)
    (case l_UnknownWorth___init__ => k_is)
    (case c_UnknownWorth___init__ => k_is)
    (case lc_UnknownWorth___init__ => k_is)
    (case hv_UnknownWorth___init__ => exact rfl)
    (case hf_UnknownWorth___init__ => kernel_rfl)
    (case lx_UnknownWorth___init__ => k_is)
    (case xi_UnknownDeed => kernel_rfl)
    (case xo_UnknownDeed => kernel_rfl)
    (case xs_UnknownDeed => k_is)
    (case xb_UnknownDeed => k_is)
    (case xt_UnknownDeed => k_is)
    (case xn_UnknownDeed => k_is)
    (case xm_UnknownDeed => k_is)
    (case xsup_UnknownDeed => kernel_rfl)
    (case a_f_UnknownDeed___init__ => k_is)
    (case ty_UnknownDeed___init__ => k_is)
    (case l_UnknownDeed___init__ => k_is)
    (case c_UnknownDeed___init__ => k_is)
    (case lc_UnknownDeed___init__ => k_is)
    (case hv_UnknownDeed___init__ => exact rfl)
    (case hf_UnknownDeed___init__ => kernel_rfl)
    (case lx_UnknownDeed___init__ => k_is)
    (case xi_UnknownProcedure => kernel_rfl)
    (case xo_UnknownProcedure => kernel_rfl)
    (case xs_UnknownProcedure => k_is)
    (case xb_UnknownProcedure => k_is)
    (case xt_UnknownProcedure => k_is)
    (case xn_UnknownProcedure => k_is)
    (case xm_UnknownProcedure => k_is)
    (case xsup_UnknownProcedure => kernel_rfl)
    (case a_f_UnknownProcedure___init__ => k_is)
    (case ty_UnknownProcedure___init__ => k_is)
    (case l_UnknownProcedure___init__ => k_is)
    (case c_UnknownProcedure___init__ => k_is)
    (case lc_UnknownProcedure___init__ => k_is)
    (case hv_UnknownProcedure___init__ => exact rfl)
    (case hf_UnknownProcedure___init__ => kernel_rfl)
    (case lx_UnknownProcedure___init__ => k_is)
    (case xi_NoDeed => kernel_rfl)
    (case xo_NoDeed => kernel_rfl)
    (case xs_NoDeed => k_is)
    (case xb_NoDeed => k_is)
    (case xt_NoDeed => k_is)
    (case xn_NoDeed => k_is)
    (case xm_NoDeed => k_is)
    (case xsup_NoDeed => kernel_rfl)
    (case a_f_NoDeed___init__ => k_is)
    (case ty_NoDeed___init__ => k_is)
    (case l_NoDeed___init__ => k_is)
    (case c_NoDeed___init__ => k_is)
    (case lc_NoDeed___init__ => k_is)
    (case hv_NoDeed___init__ => exact rfl)
    (case hf_NoDeed___init__ => kernel_rfl)
    (case lx_NoDeed___init__ => k_is)
    (case kt => kernel_rfl)
    (case kD => kernel_rfl)
    (case kV => kernel_rfl)
    (case kN => kernel_rfl)
    (case kL => kernel_rfl)
    (case a_f__law_source => k_is)
    (case l__law_source => k_is)
    (case c__law_source => k_is)
    (case k__law_source => k_is)
    (case a_f__law_pick => k_is)
    (case l__law_pick => k_is)
    (case c__law_pick => k_is)
    (case k__law_pick => k_is)
    (case a_f__law_classes => k_is)
    (case l__law_classes => k_is)
    (case c__law_classes => k_is)
    (case k__law_classes => k_is)
    (case a_f__law_bases => k_is)
    (case l__law_bases => k_is)
    (case c__law_bases => k_is)
    (case k__law_bases => k_is)
    (case a_f_law => k_is)
    (case l_law => k_is)
    (case c_law => k_is)
    (case k_law => k_is)
#print axioms PySem.Challenge.cw_deedscale_k82_errors_holds
