import PyProof.Rows.All
import Wide.All
import OpenK.AllK
import Wide.FinOn
import HandS.ForMost
import KE.KSuper
import HandS.Wide
import HandS.IsInst
import HandS.ClsMeth
import HandS.FStr
import HandS.RaiseMore
import KE.KCallOwn
import PyProof.ReprRoads
import KE.KStateDown
import HandS.Head0
import HandS.Head1
import HandS.Head2
import HandS.HeadEnd
import HandS.HeadHook1
import HandS.HeadHook2
import HandS.HeadHook3
import PyProof.EnumMake
import PyProof.EnumFor
import KE.GoesMore
import KE.GoesEnum
import HandS.Walk
import HandS.Iter
import HandS.DictComp
import HandS.Codes
import KE.KIntText
import KE.IntTextLaws
import KE.KxText
import KE.KxLen
import PyProof.ReprLen
import PyProof.StrLawsChain
import PyProof.StrBlock2
import HandS.Style
import HandS.Sort
import HandS.SortOrd
import HandS.SortRule
import KE.KSortTup
import KE.KSortTupAny
import PyProof.Rows.SetFrom
import PyProof.Rows.SortShellAny
import HandS.Set
import HandS.SetFor
import HandS.Strs
import HandS.Dict
import HandS.DictEq
import KE.KEqDict
import KE.KAssignIn
import PyProof.Rows.RegReprOcc
import PyProof.ListStr
import PyProof.Rows.StrJoinStr
import PyProof.TupleOfSeq
import KE.KLam
import KE.SortKeyHeap
import HandS.Keys
import HandS.Lambda
import HandS.EndTab
import HandS.SortKw
import KE.SortCalls
import HandS.TupAny
import HandS.Words
import HandS.Deep
import KE.KeyNested
import KE.KDictPairs
import KE.KDictCopyH
import KE.KDictWalk
import KE.KDictZip
import KE.KTurns
import KE.KItemsList
import HandS.Conv
import PyProof.TupleOfStr
import HandS.Exc
import HandS.ExcOwn
import HandS.ExcValue
import HandS.ExcInit
import HandS.ExcField
import KE.KExcIs
import HandS.NoneIn
import HandS.TupLe
import HandS.WordsExc
import HandS.ExcIs
import HandS.Zip
import HandS.Small
import PyProof.EqKinds
import PyProof.P3In
import HandS.TryMany
import HandS.TupSets
import PySem.Challenge.RW_stepblocks_k82_lines_of_targets
set_option Elab.async false
set_option linter.all false
set_option maxRecDepth 100000
set_option maxHeartbeats 2000000
namespace SupX
open PySem PySem.W PyProof.Rows L2

theorem cellsFrom_app : ∀ (names : List (Str × NameKind)) (n : Nat) (a b : List (Str × Addr)), cellsFrom n names (a ++ b) = cellsFrom n names a ++ b
  | [], _, _, _ => rfl
  | (name, kind) :: r, n, a, b => by
    unfold cellsFrom
    split
    · exact cellsFrom_app r (n + 1) ((name, n) :: a) b
    · exact cellsFrom_app r n a b
theorem look_app {l r : List (Str × Addr)} {x : Str} {c : Addr} (h : l.lookup x = some c) : (l ++ r).lookup x = some c := by
  rw [List.lookup_append, h] <;> rfl

section
variable {M : Model} {A : Around} {E : Value → Shared → Prop} {s₀ s : Shared} {m cm : Str → Option Value} {env : Env} {cs : List (Str × Addr)}
theorem stLX {n : Str} {v : Value} {Q : Unit → Shared → Prop} (x : InCallC s₀ env.locals m cs cm s) (hk : env.scope.kind = .function) (hl : env.kindOf n = some .local)
    (h : ∀ s', InCallC s₀ env.locals (fun y => if y = n then some v else m y) cs cm s' → Q () s') : wpAny M A (storeName env n v) Q E s := by
  refine wpAny_storeName_local hl x.toInCall.ns (fun h' hn' hs' => h _ ⟨⟨?_, hn', fun b o e => ?_, x.toInCall.fresh⟩, fun k c hc => ?_, x.apart, x.above⟩) (by rw [hk]; rfl)
  · obtain ⟨h₁, tk, rfl⟩ := x.toInCall.same
    exact ⟨h', _, rfl⟩
  · exact hs'.extBut b o (Nat.ne_of_lt (Nat.lt_of_lt_of_le (Heap.lt_size e) x.toInCall.fresh)) (x.toInCall.keep b o e)
  · exact (x.cell k c hc).sameBut hs' (Nat.ne_of_gt (x.above k c (PySem.mem_of_lookup hc)))
theorem stCX {n : Str} {c : Addr} {v : Value} {Q : Unit → Shared → Prop} (x : InCallC s₀ env.locals m cs cm s) (hk : env.scope.kind = .function) (hl : env.kindOf n = some .cell)
    (hc0 : cs.lookup n = some c) (hc : env.cells.lookup n = some c)
    (h : ∀ s', InCallC s₀ env.locals m cs (fun y => if y = n then some v else cm y) s' → Q () s') : wpAny M A (storeName env n v) Q E s := by
  have hLc := x.above n c (PySem.mem_of_lookup hc0)
  refine wpAny_storeName_cell hk hl hc (x.cell n c hc0) fun h' hc' hs' => h _ ⟨⟨?_, x.toInCall.ns.sameBut hs' (Nat.ne_of_lt hLc), fun b o e => ?_, x.toInCall.fresh⟩, fun k c' hk' => ?_, x.apart, x.above⟩
  · obtain ⟨h₁, tk, rfl⟩ := x.toInCall.same
    exact ⟨h', _, rfl⟩
  · exact hs'.extBut b o (Nat.ne_of_lt (Nat.lt_trans (Nat.lt_of_lt_of_le (Heap.lt_size e) x.toInCall.fresh) hLc)) (x.toInCall.keep b o e)
  · by_cases hkn : k = n
    · subst hkn
      rw [hc0] at hk'; cases hk'
      simpa using hc'
    · rw [if_neg hkn]
      exact (x.cell k c' hk').sameBut hs' fun e => hkn (name_of_addr x.apart (PySem.mem_of_lookup hk') (e ▸ PySem.mem_of_lookup hc0))
theorem bindX (f : Str × Value → PUnit → Sem (ForInStep PUnit)) (hf : ∀ n v u, f (n, v) u = (do storeName env n v; pure (.yield ⟨⟩))) (hk : env.scope.kind = .function) (hcs : ∀ n c, cs.lookup n = some c → env.cells.lookup n = some c) :
    ∀ (binds : List (Str × Value)) (m cm : Str → Option Value) (s : Shared) (Q : PUnit → Shared → Prop), InCallC s₀ env.locals m cs cm s →
      (∀ x ∈ binds, env.kindOf x.1 = some .local ∨ (env.kindOf x.1 = some .cell ∧ (cs.lookup x.1).isSome = true)) →
      (∀ s', InCallC s₀ env.locals (bindL env.kindOf binds m) cs (bindC env.kindOf binds cm) s' → Q ⟨⟩ s') → wpAny M A (forIn binds ⟨⟩ f) Q E s
  | [], m, cm, s, Q, x, _, h => by rw [List.forIn_nil]; exact wpAny_pure (h s x)
  | (n, v) :: r, m, cm, s, Q, x, hkind, h => by
    rw [List.forIn_cons, hf]
    have hr : ∀ y ∈ r, env.kindOf y.1 = some .local ∨ (env.kindOf y.1 = some .cell ∧ (cs.lookup y.1).isSome = true) := fun y hy => hkind y (List.mem_cons_of_mem _ hy)
    rcases hkind (n, v) List.mem_cons_self with hl | ⟨hl, hc⟩
    · refine wpAny_bind (wpAny_bind (stLX x hk hl fun s' x' => wpAny_pure (bindX f hf hk hcs r _ _ s' Q x' hr fun s'' x'' => h s'' ?_)))
      unfold bindL bindC; rw [if_pos hl, if_pos hl]; exact x''
    · obtain ⟨c, hc⟩ := Option.isSome_iff_exists.mp hc
      have hnl : ¬ env.kindOf n = some .local := by rw [hl]; decide
      refine wpAny_bind (wpAny_bind (stCX x hk hl hc (hcs _ _ hc) fun s' x' => wpAny_pure (bindX f hf hk hcs r _ _ s' Q x' hr fun s'' x'' => h s'' ?_)))
      unfold bindL bindC; rw [if_neg hnl, if_neg hnl]; exact x''
theorem newEnvX {scope : Scope} {globals : Addr} {clo : List (Str × Addr)} {binds : List (Str × Value)} {qual : Str} {func : Option Addr} {code : Value} {builtins : Addr} {Q : Env → Shared → Prop}
    (hk : scope.kind = .function)
    (hkind : ∀ x ∈ binds, scope.names.lookup x.1 = some .local ∨ (scope.names.lookup x.1 = some .cell ∧ ((cellsFrom (s.heap.objs.size + 1) scope.names []).lookup x.1).isSome = true))
    (hQ : ∀ env, env = newEnv scope s.heap.objs.size globals (cellsFrom (s.heap.objs.size + 1) scope.names clo) qual func code none builtins →
      ∀ s', InCallC s env.locals (bindL env.kindOf binds fun _ => none) (cellsFrom (s.heap.objs.size + 1) scope.names []) (bindC env.kindOf binds fun _ => none) s' → Q env s') :
    wpAny M A (newFunctionEnv scope globals clo binds qual func code none builtins) Q E s := by
  simp only [newFunctionEnv, Option.isSome_none, Bool.false_eq_true, if_false]
  refine wpAny_bind (wpAny_alloc ?_)
  refine wpAny_bind (wpAny_layCells _ (fun name kind cells => by cases hkc : kind == NameKind.cell <;> simp [hkc]) _ _ _ _ ?_)
  have ok := cellsFrom_ok scope.names (s.heap.push { cls := .type "frame", data := .dict #[] }) (s.heap.objs.size + 1) [] ⟨fun _ _ hm => (nomatch hm), List.Pairwise.nil⟩ (by rw [Heap.size_push]; exact Nat.le_refl _)
  rw [Heap.size_push] at ok
  rw [show ({ s with heap := s.heap.push { cls := .type "frame", data := .dict #[] } } : Shared).heap.objs.size = s.heap.objs.size + 1 from Heap.size_push ..]
  refine wpAny_bind (bindX (s₀ := s) (cs := cellsFrom (s.heap.objs.size + 1) scope.names []) (env := newEnv scope s.heap.objs.size globals (cellsFrom (s.heap.objs.size + 1) scope.names clo) qual func code none builtins)
    _ (fun _ _ _ => rfl) hk (fun n c h => ?_) binds (fun _ => none) (fun _ => none) _ _
    ⟨⟨⟨_, _, rfl⟩, (Heap.Ns.new s.heap (.type "frame")).keeps (pushCells_keeps _ _), fun b o e => pushCells_keeps _ _ b o (Heap.get?_push_of_some _ e), Nat.le_refl _⟩,
      fun n c hc => (ok.empty n c (PySem.mem_of_lookup hc)).1, ok.apart, fun n c hm => (ok.empty n c hm).2⟩
    hkind fun s' x => wpAny_pure (hQ _ rfl s' x))
  show (cellsFrom (s.heap.objs.size + 1) scope.names clo).lookup n = some c
  rw [show clo = [] ++ clo from rfl, cellsFrom_app]
  exact look_app h
end

abbrev envS (qual : Str) (scope : Scope) (L a : Addr) (cd : Value) (cc : Addr) : Env :=
  { scope := scope, locals := L, globals := mainGlobals, cells := cellsFrom (L + 1) scope.names [("__class__", cc)], qual := qual ++ ".<locals>.", func := some a, code := cd, frame := some L, builtins := builtinsNs }
structure SScope (N ps : List Str) (sc : Scope) : Prop where
  kind : sc.kind = .function
  co : sc.isCoroutine = false
  gen : sc.isGenerator = false
  nd : N.Nodup
  pre : N.take ps.length = ps
  par : ∀ x ∈ ps, sc.names.lookup x = some .local ∨ sc.names.lookup x = some .cell
  free : ∀ y ∈ sc.names, y.2 = NameKind.free → y.1 = ("__class__" : Str)
  cls : sc.names.lookup ("__class__" : Str) = some NameKind.free
  nocls : (("__class__" : Str), NameKind.cell) ∉ sc.names
  sup : sc.names.lookup ("super" : Str) = some NameKind.globalImplicit
def cxS (CX : CXT) (P : Program) (w : World) (K : PySem.W.Frag) (mg : Str → Option Value) (base : Heap) (N : List Str) (qual : Str) (scope : Scope) (f : Addr) (cd : Value) (cc : Addr) (A : Around) (outer : List Env) (s : Shared) (H : Hp) (E : XK) : Cx where
  prog := P
  w := w
  K := K
  mg := mg
  base := base
  A := A.deeper (envS qual scope s.heap.objs.size f cd cc)
  N := N
  s_0 := s
  H_0 := H
  env := envS qual scope s.heap.objs.size f cd cc
  outer := outer
  stack := envS qual scope s.heap.objs.size f cd cc :: outer
  ex := []
  calm := true
  fn := fun y => !(y == "__class__")
  pn := []
  xe := fun e s' => wpAny (model P w) (A.deeper (envS qual scope s.heap.objs.size f cd cc)) (leaving (envS qual scope s.heap.objs.size f cd cc) e) (fun _ s'' => CX outer H s E e s'') (fun e' s'' => CX outer H s E e' s'') s'

theorem cells_eq (n : Nat) (names : List (Str × NameKind)) (cc : Addr) : cellsFrom n names [(("__class__" : Str), cc)] = cellsFrom n names [] ++ [(("__class__" : Str), cc)] := cellsFrom_app names n [] _
theorem names_of_cells : ∀ {names : List (Str × NameKind)} {n : Nat} {acc : List (Str × Addr)} {x : Str} {c : Addr}, (x, c) ∈ cellsFrom n names acc → (x, c) ∈ acc ∨ (x, NameKind.cell) ∈ names
  | [], _, _, _, _, h => .inl h
  | (name, kind) :: r, n, acc, x, c, h => by
    unfold cellsFrom at h
    split at h
    · rename_i hk
      rcases names_of_cells h with q | q
      · rcases List.mem_cons.mp q with e | q
        · cases e
          exact .inr (by rw [beq_iff_eq.mp hk]; exact List.mem_cons_self)
        · exact .inl q
      · exact .inr (List.mem_cons_of_mem _ q)
    · rcases names_of_cells h with q | q
      · exact .inl q
      · exact .inr (List.mem_cons_of_mem _ q)
/-- a name's cell: one of the frame's own, or the class's -/
theorem cell_cases {n : Nat} {names : List (Str × NameKind)} {cc : Addr} {x : Str} {c : Addr} (h : (cellsFrom n names [(("__class__" : Str), cc)]).lookup x = some c) :
    (cellsFrom n names []).lookup x = some c ∨ ((cellsFrom n names []).lookup x = none ∧ x = "__class__" ∧ c = cc) := by
  rw [cells_eq, List.lookup_append] at h
  cases e : (cellsFrom n names []).lookup x with
  | some d => rw [e] at h; exact .inl h
  | none =>
    rw [e] at h
    have h2 : List.lookup x [(("__class__" : Str), cc)] = some c := h
    rw [List.lookup_cons] at h2
    split at h2
    · rename_i hx
      exact .inr ⟨rfl, beq_iff_eq.mp hx, (Option.some.inj h2).symm⟩
    · cases h2

theorem inv_startS {CX : CXT} {P : Program} {w : World} {K : PySem.W.Frag} {mg : Str → Option Value} {base : Heap} {N ps : List Str} {qual : Str} {scope : Scope} {f : Addr} {cd : Value} {cc : Addr} {A : Around} {outer : List Env} {s s1 : Shared} {H : Hp} {E : XK} {us : List Value} {vs : List V} {cv : Option Value}
    (S : SScope N ps scope) (hd : A.handled = none) (e0 : Env0 P w K mg base A outer s H) (hl : vs.length = ps.length) (r : Vals vs us) (hcc : base.IsCell cc cv)
    (x : InCallC s s.heap.objs.size (bindL (envS qual scope s.heap.objs.size f cd cc).kindOf (ps.zip us) fun _ => none) (cellsFrom (s.heap.objs.size + 1) scope.names []) (bindC (envS qual scope s.heap.objs.size f cd cc).kindOf (ps.zip us) fun _ => none) s1) :
    Inv (cxS CX P w K mg base N qual scope f cd cc A outer s H E) [] (L2.start N vs) H s1 := by
  have hpl : ps.length ≤ N.length := by have := congrArg List.length S.pre; rw [List.length_take] at this; omega
  obtain ⟨oc, hoc, hocd⟩ := hcc
  have hcs : s.heap.get? cc = some oc ∧ H cc = none := e0.bs cc oc hoc
  have hlt : cc < s.heap.objs.size := Heap.lt_size hcs.1
  obtain ⟨h1, tk, rfl, hk⟩ := x.done
  have noA : ∀ b : Addr, b ∉ (cxS CX P w K mg base N qual scope f cd cc A outer s H E).ex := fun b z => absurd (show b ∈ ([] : List Addr) from z) (by simp)
  have own : ∀ {y : Str} {c : Addr}, (cellsFrom (s.heap.objs.size + 1) scope.names []).lookup y = some c → s.heap.objs.size < c := fun h => x.above _ _ (PySem.mem_of_lookup h)
  refine ⟨⟨e0.mod, S.kind, rfl, rfl, Nat.le_refl _, fun y z c h1 h2 => ?_, fun y hy => ?_, fun y c hf h => ?_, fun _ => hd, Around.frames_deeper e0.frames, .inr ⟨rfl, rfl⟩, fun b z => absurd z (noA b), e0.bs, e0.bsz, fun b _ _ => noA b, fun b z => absurd z (noA b), e0.funs, e0.frf⟩,
    rfl, e0.bare, Un.kept hk, ⟨_, x.toInCall.ns, fun i y v h1 h2 h3 => ?_⟩, fun y c h => ?_, e0.hok.fresh (Nat.le_refl _), fun y c h => ?_, fun p hp => absurd (show p ∈ ([] : List (Addr × Obj)) from hp) (by simp), e0.hok.kept hk, ?_⟩
  · rcases cell_cases h1 with q1 | ⟨_, q1, e1⟩
    · rcases cell_cases h2 with q2 | ⟨_, q2, e2⟩
      · exact name_of_addr x.apart (PySem.mem_of_lookup q1) (PySem.mem_of_lookup q2)
      · have z := own q1
        rw [e2] at z
        exact absurd (Nat.lt_trans z hlt) (Nat.lt_irrefl _)
    · rcases cell_cases h2 with q2 | ⟨_, q2, e2⟩
      · have z := own q2
        rw [e1] at z
        exact absurd (Nat.lt_trans z hlt) (Nat.lt_irrefl _)
      · rw [q1, q2]
  · have hy : scope.names.lookup y = some .cell ∨ scope.names.lookup y = some .free := hy
    rcases hy with hy | hy
    · obtain ⟨c, e⟩ := cell_has (n := s.heap.objs.size + 1) hy
      refine ⟨c, ?_⟩
      show (cellsFrom (s.heap.objs.size + 1) scope.names [("__class__", cc)]).lookup y = some c
      rw [cells_eq]
      exact look_app e
    · have e := S.free _ (PySem.mem_of_lookup hy) rfl
      have e : y = "__class__" := e
      subst e
      cases q : (cellsFrom (s.heap.objs.size + 1) scope.names []).lookup ("__class__" : Str) with
      | some c =>
        refine ⟨c, ?_⟩
        show (cellsFrom (s.heap.objs.size + 1) scope.names [("__class__", cc)]).lookup ("__class__" : Str) = some c
        rw [cells_eq]
        exact look_app q
      | none =>
        refine ⟨cc, ?_⟩
        show (cellsFrom (s.heap.objs.size + 1) scope.names [("__class__", cc)]).lookup ("__class__" : Str) = some cc
        rw [cells_eq, List.lookup_append, q]
        simp [List.lookup]
  · rcases cell_cases h with q | ⟨_, q, _⟩
    · exact Nat.le_of_lt (own q)
    · have hf : (!(y == ("__class__" : Str))) = true := hf
      rw [q] at hf
      simp at hf
  · have hi : i < vs.length := by
      unfold L2.start at h2
      by_cases hi : i < vs.length
      · exact hi
      · rw [List.getElem?_append_right (by simpa using hi)] at h2
        rw [List.getElem?_replicate] at h2
        split at h2 <;> cases h2
    have ha : vs[i]? = some v := by
      unfold L2.start at h2
      rw [List.getElem?_append_left (by simpa using hi), List.getElem?_map] at h2
      cases e : vs[i]? with
      | none => rw [e] at h2; cases h2
      | some a => rw [e] at h2; cases h2; rfl
    obtain ⟨u, hu, rv⟩ := r.get ha
    have hp : ps[i]? = some y := by
      rw [← S.pre, List.getElem?_take_of_lt (by omega)]; exact h1
    have ndP : ps.Nodup := by rw [← S.pre]; exact S.nd.sublist (List.take_sublist _ _)
    refine ⟨u, rv, ?_⟩
    rcases S.par y (List.mem_of_getElem? hp) with k | k
    · exact .inl ⟨k, bindL_get ndP hp hu k⟩
    · obtain ⟨c, e⟩ := cell_has (n := s.heap.objs.size + 1) k
      refine .inr ⟨.inl k, c, ?_, ?_⟩
      · show (cellsFrom (s.heap.objs.size + 1) scope.names [("__class__", cc)]).lookup y = some c
        rw [cells_eq]
        exact look_app e
      · have q := x.cell y c e
        rw [bindC_get ndP hp hu (by show scope.names.lookup y ≠ _; rw [k]; decide)] at q
        exact q
  · rcases cell_cases h with q | ⟨_, _, q⟩
    · exact ⟨_, x.cell y c q⟩
    · rw [q]
      exact ⟨cv, oc, hk _ _ hcs.1, hocd⟩
  · rcases cell_cases h with q | ⟨_, _, q⟩
    · exact e0.hok.fresh (Nat.le_of_lt (own q))
    · rw [q]
      exact hcs.2
  · unfold L2.start
    show _ = N.length
    rw [List.length_append, List.length_map, List.length_replicate]
    omega
end SupX

set_option maxRecDepth 100000
set_option maxHeartbeats 2000000
namespace SupX
open PySem PySem.W PyProof.Rows L2

/-- what the written part tells of super() in a def of the class at C, the def at f with the code object at cda and the class's cell at cc; f2 is the base's __init__ -/
structure SupF (P : Program) (K : Frag) (mg : Str → Option Value) (C f cda cc f2 : Addr) (slf : Str) : Prop where
  cl : Cls K C
  cd : ∃ c, clsIn K C = some c
  fn : ∃ (oc : Value) (od : Option Addr) (fd : FuncData) (osl : Array (Option Value)) (ar : Arg), K.lookup f = some ⟨oc, od, .func fd, osl⟩ ∧ (fd.params.posonlyargs ++ fd.params.args).head? = some ar ∧ ar.arg = slf
  code : ∃ (ccl : Value) (cdd : Option Addr) (vs : Array Value) (ccs : Array (Option Value)) (file : Str) (tf : Tok), K.lookup cda = some ⟨ccl, cdd, .fields vs, ccs⟩ ∧ vs[2]? = some (.str file tf) ∧ ((P.main.file : Str) == file) = true
  cell : ∃ (cl : Value) (cld : Option Addr) (csl : Array (Option Value)), K.lookup cc = some ⟨cl, cld, .cell (some (.ref C)), csl⟩
  sub : mroIn K C (.ref C) = some true
  gsup : mg "super" = none
  tp : nsIn K cStatics "thirdparty.any" = some none
  sin : ks_superIn K C C "__init__" = some (some (.ref f2))
  tf2 : typeIn K (.ref f2) = some (.type "function")
  ff2 : fnIn K f2 = true
  htop : (P.main.scope.names.lookup ("super" : Str)).isSome = false

theorem boot_super : bootBuiltins "super" = some (.type "super") := by first | boot_by_name | rfl | kernel_rfl | decide +kernel

section
variable {X : Cx} {body : List Stmt} {pins : List (Addr × Obj)} {σ : L2.St} {H : Hp} {s : Shared} {C f cda cc f2 x dx : Addr} {slf : Str} {fs : List (Str × V)} {pos p0 p1 : Pos}
/-- super(), in a def of the class at C: the object stands behind, all else is kept -/
theorem sup_base {attr : Str} {whole : Sem Value} {Q : Value → Shared → Prop} {E : Value → Shared → Prop} (I : Inv X pins σ H s) (T : SupF X.prog X.K X.mg C f cda cc f2 slf)
    (hks : X.env.kindOf "super" = some .globalImplicit) (hkc : X.env.kindOf "__class__" = some .free) (hat : (attr == ("__class__" : Str)) = false) (hfu : X.env.func = some f) (hco : X.env.code = .ref cda)
    (hcl : X.env.cells.lookup ("__class__" : Str) = some cc) (hN : X.N[0]? = some slf) (hl : X.env.scope.names.lookup slf = some .local) (hσ : σ[0]? = some (some (.ref x))) (hx : H x = some (.ins C dx fs))
    (h : ∀ so h' , (∀ b o, s.heap.get? b = some o → h'.get? b = some o) → s.heap.objs.size ≤ so → h'.get? so = some (ks_superObj C x C) → Q (.ref so) { s with heap := h' }) :
    _root_.PySem.wpAt (model X.prog X.w) X.A (.func body X.env) (attributeBase (.Call (.Name "super" p0) [] [] p1) attr X.env whole) Q E s := by
  obtain ⟨oc, od, fd, osl, ar, hf, hp, har⟩ := T.fn
  obtain ⟨ccl, cdd, vs, ccs, file, tf, hcode, hvs, hfile⟩ := T.code
  obtain ⟨cl, cld, csl, hcell⟩ := T.cell
  obtain ⟨cdD, hD⟩ := T.cd
  have KI : X.K.In s.heap := I.kIn
  obtain ⟨m, hns, hlk⟩ := id I.loc
  obtain ⟨u, ru, lu⟩ := hlk 0 slf (.ref x) hN hσ (.inl hl)
  obtain rfl : u = Value.ref x := ru
  obtain ⟨mA, O, _⟩ := ins_get I.hok hx
  obtain ⟨odx, J, _⟩ := O.look
  obtain ⟨mb, hb1, hb2⟩ := I.mod.blt
  obtain ⟨hh, g, d, t, os⟩ := s
  obtain ⟨oD, hD1, hD2⟩ : ∃ oD, hh.get? C = some oD ∧ oD.data = .cls cdD := by
    unfold clsIn at hD
    split at hD
    · rename_i c d cd' sl ho
      cases hD
      exact ⟨_, KI _ _ ho, rfl⟩
    · cases hD
  have hself : m slf = some (.ref x) := by
    rcases lu with ⟨_, q⟩ | ⟨q, _⟩
    · exact q
    · have q' : X.env.scope.names.lookup slf = some .cell ∨ X.env.scope.names.lookup slf = some .free := q
      rw [hl] at q'
      rcases q' with q' | q' <;> cases q'
  refine ks_wpAt_super_base (env := X.env) hks hkc hat hfu (KI _ _ hf) rfl hp hco (KI _ _ hcode) rfl hvs hfile T.htop ?_
  refine ks_loadName_global I.ok.kind hks (Calls.loadGlobal_builtin (env := X.env) (by rw [I.ok.glob]; exact I.mod.glob.keeps I.bk) T.gsup (by rw [I.ok.blt]; exact hb1.keeps I.bk) ((hb2 _ (by decide +kernel)).trans boot_super) ⟨rfl, ?_⟩)
  refine wpAny_loadName_free I.ok.kind hkc hcl ⟨_, KI _ _ hcell, rfl⟩ ?_
  rw [har]
  refine wpAny_loadName_local I.ok.kind hl hns hself ?_
  refine ks_wpAny_isType_cls hD1 hD2 ⟨rfl, ?_⟩
  refine ks_wpAny_call_super hD1 hD2 J.at_ J.cls (fun c e => ?_) (looks_mroIn KI T.sub) (fun h' e k => ?_)
  · have q := J.no
    unfold notCls at q
    rw [e] at q
    exact Bool.noConfusion q
  · exact h _ _ k (Nat.le_refl _) e
/-- .. its method of this name: a bound method, the base's def and the instance -/
theorem sup_method {so : Addr} {pl : Sem Bool} {Q : Value × List Value → Shared → Prop} {A : Around} {E : Value → Shared → Prop} (I : Inv X pins σ H s) (T : SupF X.prog X.K X.mg C f cda cc f2 slf) (hx : H x = some (.ins C dx fs))
    (hso : s.heap.get? so = some (ks_superObj C x C))
    (h : ∀ q h', (∀ b o, s.heap.get? b = some o → h'.get? b = some o) → s.heap.objs.size ≤ q → h'.get? q = some (methodObj (.ref f2) (.ref x)) → Q (.ref q, []) { s with heap := h', toks := s.toks + 1 }) :
    wpAny (model X.prog X.w) A (getMethod (.ref so) "__init__" pl) Q E s := by
  have KI : X.K.In s.heap := I.kIn
  obtain ⟨mA, O, _⟩ := ins_get I.hok hx
  obtain ⟨odx, J, _⟩ := O.look
  obtain ⟨hh, g, d, t, os⟩ := s
  have hm := T.sin
  cases hc : clsIn X.K C with
  | none => unfold ks_superIn at hm; rw [hc] at hm; cases hm
  | some cd =>
    unfold ks_superIn at hm
    rw [hc] at hm
    obtain ⟨of, hof, hofc⟩ : ∃ of, hh.get? f2 = some of ∧ of.cls = .type "function" := by
      have ht' : (X.K.lookup f2).map (·.cls) = some (.type "function") := T.tf2
      cases z : X.K.lookup f2 with
      | none => rw [z] at ht'; cases ht'
      | some of => rw [z] at ht'; exact ⟨of, KI _ _ z, Option.some.inj ht'⟩
    refine ks_wpAny_getMethod_super hso (looks_opaque KI T.tp) (l₀ := cd.mro) ?_ rfl KI hm hof hofc (ks_ne KI J hc) (by decide) ?_
    · exact fun A Q E s k q => wpAny_bind ((looks_clsIn KI hc) A _ E s k (wpAny_pure q))
    · exact h _ _ (fun b o e => Heap.get?_push_of_some _ e) (Nat.le_refl _) (Heap.get?_push_at rfl rfl)
end

section
variable {X : Cx} {body : List Stmt} {pins : List (Addr × Obj)} {σ : L2.St} {H : Hp} {s : Shared} {C f cda cc f2 x dx : Addr} {slf : Str} {fs : List (Str × V)} {p0 p1 p2 p3 p4 : Pos} {e : Expr} {es : List Expr} {t : TA}
  {CX : CXT} {k : Nat} {fd2 : FuncData} {ps : List Str} {sp : Sp} {E : XK}
/-- super().__init__(e, ..), the first statement -/
theorem sup_stmt (I : Inv X pins σ H s) (T : SupF X.prog X.K X.mg C f cda cc f2 slf) (F2 : FnOk X.prog X.w X.K X.mg X.base CX k f2 fd2 ps sp) (hr : Room k X.A) (hb : Binds X.K fd2 ps []) (hxs : Passes CX X E) (ha : PA X (e :: es) t) {D : Ends}
    (hks : X.env.kindOf "super" = some .globalImplicit) (hkc : X.env.kindOf "__class__" = some .free) (hfu : X.env.func = some f) (hco : X.env.code = .ref cda)
    (hcl : X.env.cells.lookup ("__class__" : Str) = some cc) (hN : X.N[0]? = some slf) (hl : X.env.scope.names.lookup slf = some .local) (hσ : σ[0]? = some (some (.ref x))) (hx : H x = some (.ins C dx fs))
    (h : t σ H fun vs H1 => sp (.ref x :: vs) H1 (fun v H2 => D.nx σ H2) E)
    (he : starEach (e :: es) X.env = (false, eval e X.env) :: starEach es X.env := by rfl) (hpl : (backTo p3 (starEach es X.env)).any (·.1) = false := by rfl)
    (hi : interactive X.env = false := by rfl) (hsw : swapsWith (.Call (.Attribute (.Call (.Name "super" p0) [] [] p1) "__init__" p2) (e :: es) [] p3) none p4.line X.env = pure false := by rfl) {pl : Sem Bool}
    (hcall : eval (.Call (.Attribute (.Call (.Name "super" p0) [] [] p1) "__init__" p2) (e :: es) [] p3) X.env = (do
      let ov ← attributeBase (.Call (.Name "super" p0) [] [] p1) "__init__" X.env (eval (.Call (.Name "super" p0) [] [] p1) X.env)
      standAt p2.atName
      let (f, first) ← holding [ov] (getMethod ov "__init__" pl)
      callWith p3 f first (backTo p3 (starEach (e :: es) X.env)) []) := by rfl) :
    _root_.PySem.wpAt (model X.prog X.w) X.A (.func body X.env) (exec (.Expr (.Call (.Attribute (.Call (.Name "super" p0) [] [] p1) "__init__" p2) (e :: es) [] p3) p4) X.env)
      (fun fl s' => fl = .next ∧ ∃ H', Inv X pins σ H' s' ∧ D.nx σ H') X.xe s := by
  refine ks_wpAt_Expr_any ?_ hi hsw
  refine ks_wpAt_MethodCall (pl := pl) ?_ hcall
  refine sup_base I T hks hkc (by decide) hfu hco hcl hN hl hσ hx fun so h1 k1 l1 e1 => ?_
  have I1 : Inv X pins σ H { s with heap := h1 } := I.kept (t' := s.toks) k1
  refine sup_method I1 T hx e1 fun q h2 k2 l2 e2 => ?_
  have I2 : Inv X pins σ H { s with heap := h2, toks := s.toks + 1 } := I1.kept (h' := h2) (t' := s.toks + 1) k2
  have hqf : H q = none := I1.hok.fresh l2
  have I3 : Inv X ((q, methodObj (.ref f2) (.ref x)) :: pins) σ H { s with heap := h2, toks := s.toks + 1 } := I2.pins_of fun p hp => by
    rcases List.mem_cons.mp hp with rfl | hp
    · refine ⟨e2, hqf, fun z => ?_, I1.nofs l2, fun v z => by cases z⟩
      have q1 := I1.lt
      rw [← z] at q1
      exact absurd (Nat.lt_of_lt_of_le q1 l2) (Nat.lt_irrefl _)
    · exact I2.pin p (List.mem_append_right _ hp)
  have hrun : wpAny (model X.prog X.w) X.A (spliced (backTo p3 (starEach (e :: es) X.env))) (fun us s1 => MethP X.K q f2 (.ref x) s1.heap ∧ wpAny (model X.prog X.w) X.A (call (.ref q) ([] ++ us)) (fun _ s' => (Flow.next = Flow.next) ∧ ∃ H', Inv X pins σ H' s' ∧ D.nx σ H') X.xe s1) X.xe { s with heap := h2, toks := s.toks + 1 } := by
    refine thn (ha.run p3 _ _ σ H _ I3 h) fun us s1 ⟨vs, H1, J1, r, hsp⟩ => ?_
    have hq1 : s1.heap.get? q = some (methodObj (.ref f2) (.ref x)) := (J1.pin (q, methodObj (.ref f2) (.ref x)) (List.mem_append_right _ List.mem_cons_self)).1
    have J2 : Inv X pins σ H1 s1 := J1.pins_of fun p hp => J1.pin p (List.mem_append_right _ (List.mem_cons_of_mem _ hp))
    refine ⟨⟨hq1, J1.kIn⟩, ?_⟩
    show wpAny _ _ (call (.ref q) us) _ _ s1
    refine wpAny_call (ks_codeAny_call_bound hq1 ?_)
    have r2 : Vals (V.ref x :: vs) (Value.ref x :: us) := .cons rfl r
    have hl2 : ((Value.ref x :: us) ++ []).length = ps.length := by rw [List.append_nil, ← r2.length]; exact F2.len _ _ _ _ hsp
    have hbt := hb s1 (Value.ref x :: us) J2.kIn hl2
    rw [List.append_nil] at hbt
    refine codeAny_mono (F2.run X.A X.stack s1 H1 ⟨Value.ref x :: us, []⟩ (Value.ref x :: us) (V.ref x :: vs) _ E hr J2.env0 hbt r2 hsp) fun rr s' hq' => ?_
    cases rr with
    | error e => exact hxs pins σ H1 s1 e s' J2 hq'
    | ok fl =>
      cases fl with
      | ret u =>
        obtain ⟨v, H', I4, rv, q4⟩ := J2.after hq'
        exact ⟨rfl, H', I4, q4⟩
      | next => exact False.elim hq'
      | brk => exact False.elim hq'
      | cont => exact False.elim hq'
  rw [he] at hrun ⊢
  exact callWith_of (P := MethP X.K q f2 (.ref x)) (by show ((false || (backTo p3 (starEach es X.env)).any (·.1)) || false) = false; rw [hpl]; rfl) (keeps_M T.ff2) (Calls.evalArgs_plain hrun)
theorem PAnox {X : Cx} {es : List Expr} {t : TA} (h : PA X.nox es t) : PA X es t := ⟨fun pos pins s σ H Q I hw =>
  wpAny_mono (h.run pos pins s σ H Q (I.wish _) hw) (fun _ _ ⟨v, H', I', r, q⟩ => ⟨v, H', I'.unwish, r, q⟩) fun _ _ z => False.elim z⟩
end
end SupX

set_option maxRecDepth 100000
set_option maxHeartbeats 2000000
namespace SupX
open PySem PySem.W PyProof.Rows L2

/-- a def (at f) of the class at C that says super(): its text st, its class's cell at cc -/
structure FunS (P : Program) (K : Frag) (mg : Str → Option Value) (nm qual : Str) (st : Stmt) (C f cc cda f2 : Addr) (slf : Str) (fd : FuncData) : Prop where
  ex : ∃ (oc : Value) (od : Option Addr) (kV doc pm : Value) (an : Option Addr) (ct : Value) (osl : Array (Option Value)),
    fd = fnX nm qual (defArgs st) (defBody st) (defScope st) [("__class__", cc)] .none kV doc pm an (.ref cda) ct ∧ K.lookup f = some ⟨oc, od, .func fd, osl⟩ ∧ codeIn K (.ref cda) qual = true
  kp : keepIn K (.ref f) = true
  sup : SupF P K mg C f cda cc f2 slf
  hl : (defScope st).names.lookup slf = some NameKind.local

section
variable {P : Program} {w : World} {K : Frag} {mg : Str → Option Value} {base : Heap}
theorem FunS.binds {nm qual : Str} {st : Stmt} {C f cc cda f2 : Addr} {slf : Str} {fd : FuncData} {ps : List Str} (F : FunS P K mg nm qual st C f cc cda f2 slf fd)
    (h : ∀ (kV doc pm : Value) (an : Option Addr) (ct : Value) (us : List Value), us.length = ps.length → bindArgs (fnX nm qual (defArgs st) (defBody st) (defScope st) [("__class__", cc)] .none kV doc pm an (.ref cda) ct) ⟨us, []⟩ = pure (ps.zip us)) : Binds K fd ps [] := by
  obtain ⟨oc, od, kV, doc, pm, an, ct, osl, rfl, lk, hcd⟩ := F.ex
  exact .all (h kV doc pm an ct)
/-- THE RULE -/
theorem FunS.ok {nm qual : Str} {st : Stmt} {C f cc cda f2 : Addr} {slf : Str} {fd fd2 : FuncData} {N ps ps2 : List Str} {k k2 : Nat} {sp sp2 : Sp} {e : Expr} {es : List Expr} {rest : List Stmt} {p0 p1 p2 p3 p4 : Pos}
    (F : FunS P K mg nm qual st C f cc cda f2 slf fd) (S : SScope N ps (defScope st)) (hN : N[0]? = some slf)
    (hst : defBody st = .Expr (.Call (.Attribute (.Call (.Name "super" p0) [] [] p1) "__init__" p2) (e :: es) [] p3) p4 :: rest)
    (F2 : FnOk P w K mg base CX0 k2 f2 fd2 ps2 sp2) (hk : k2 ≤ k) (hb2 : Binds K fd2 ps2 [])
    (len : ∀ vs H Q E, sp vs H Q E → vs.length = ps.length)
    (hbody : ∀ (A : Around) (outer : List Env) (s : Shared) (H : Hp) (vs : List V) (Q : VK) (E : XK), Room k (A.deeper (envS qual (defScope st) s.heap.objs.size f (.ref cda) cc)) → sp vs H Q E →
      ∃ x dx fs ta t, vs[0]? = some (.ref x) ∧ H x = some (.ins C dx fs) ∧ PA (cxS CX0 P w K mg base N qual (defScope st) f (.ref cda) cc A outer s H E).nox (e :: es) ta ∧
        PSs (cxS CX0 P w K mg base N qual (defScope st) f (.ref cda) cc A outer s H E).nox rest t ∧
        ta (L2.start N vs) H fun vs' H1 => sp2 (.ref x :: vs') H1 (fun v H2 => t { nx := fun _ H' => Q .non H', rt := Q } (L2.start N vs) H2) E0)
    {pl : Sem Bool} 
    (he : ∀ env : Env, env.scope = defScope st → starEach (e :: es) env = (false, eval e env) :: starEach es env) (hpl : ∀ env : Env, env.scope = defScope st → (backTo p3 (starEach es env)).any (·.1) = false)
    (hi : ∀ env : Env, env.scope = defScope st → interactive env = false) (hsw : ∀ env : Env, env.scope = defScope st → swapsWith (.Call (.Attribute (.Call (.Name "super" p0) [] [] p1) "__init__" p2) (e :: es) [] p3) none p4.line env = pure false)
    (hcall : ∀ env : Env, env.scope = defScope st → eval (.Call (.Attribute (.Call (.Name "super" p0) [] [] p1) "__init__" p2) (e :: es) [] p3) env = (do
      let ov ← attributeBase (.Call (.Name "super" p0) [] [] p1) "__init__" env (eval (.Call (.Name "super" p0) [] [] p1) env)
      standAt p2.atName
      let (f, first) ← holding [ov] (getMethod ov "__init__" pl)
      callWith p3 f first (backTo p3 (starEach (e :: es) env)) [])) : FnOk P w K mg base CX0 (k + 1) f fd ps sp := by
  obtain ⟨oc, od, kV, doc, pm, an, ct, osl, rfl, lk, hcd⟩ := F.ex
  obtain ⟨cl, cld, csl, hcell⟩ := F.sup.cell
  refine ⟨len, fun A outer s H args us vs Q E hr e0 hb r hsp => ?_⟩
  have hl := len _ _ _ _ hsp
  have KX : K.In s.heap := e0.mod.kin.keeps fun b o e => (e0.bs b o e).1
  have lim : s.heap.NoLimit := e0.mod.nolimit.keeps fun b o e => (e0.bs b o e).1
  have hkind : ∀ y ∈ ps.zip us, (defScope st).names.lookup y.1 = some .local ∨ ((defScope st).names.lookup y.1 = some .cell ∧ ((cellsFrom (s.heap.objs.size + 1) (defScope st).names []).lookup y.1).isSome = true) := fun ⟨n, v⟩ hy => by
    rcases S.par n (List.of_mem_zip hy).1 with q | q
    · exact .inl q
    · exact .inr ⟨q, PySem.W.cellsFrom_some _ _ _ (.inl q)⟩
  refine codeAny_call_function hr.depth (KX _ _ lk) rfl S.co S.gen rfl (PySem.W.codeRec_of KX hcd) (hb _ _ _ _ ?_)
  refine newEnvX S.kind hkind fun env he' s1 x => ?_
  subst he'
  refine ⟨lim.keeps x.toInCall.keep, ?_⟩
  show codeAny _ _ (.func (defBody st) (envS qual (defScope st) s.heap.objs.size f (.ref cda) cc)) _ _
  refine ks_codeAny_funcAt ?_
  obtain ⟨xa, dx, fs, ta, t, hx0, hx, hta, ht, hq⟩ := hbody A outer s H vs Q E (hr.deeper _) hsp
  have I : Inv (cxS CX0 P w K mg base N qual (defScope st) f (.ref cda) cc A outer s H E) [] (L2.start N vs) H s1 := inv_startS S hr.hd e0 hl r (cv := some (.ref C)) ⟨_, e0.mod.kin _ _ hcell, rfl⟩ x
  have hσ : (L2.start N vs)[0]? = some (some (.ref xa)) := by
    unfold L2.start
    have h0 : 0 < vs.length := (List.getElem?_eq_some_iff.mp hx0).1
    rw [List.getElem?_append_left (by simpa using h0), List.getElem?_map, hx0] <;> rfl
  have fin : ∀ {s' : Shared} {σ' : L2.St} {H' : Hp} {v : V} {u : Value}, Inv (cxS CX0 P w K mg base N qual (defScope st) f (.ref cda) cc A outer s H E) [] σ' H' s' → RelV v u → Q v H' → CE outer P w H s Q u s' :=
    fun {s' σ' H' v u} J rv q => ⟨v, H', J.os, J.bare, J.base, J.hok, rv, q⟩
  rw [hst]
  refine ks_wpAt_execs_cons ?_
  have first := sup_stmt (X := cxS CX0 P w K mg base N qual (defScope st) f (.ref cda) cc A outer s H E) (body := defBody st) (D := { nx := fun σ' H2 => σ' = L2.start N vs ∧ t { nx := fun _ H' => Q .non H', rt := Q } (L2.start N vs) H2, rt := Q }) I F.sup F2 (Room.mono (hr.deeper _) hk) hb2 (E := E0) pass0 (PAnox hta) (p0 := p0) (p1 := p1) (p2 := p2) (p3 := p3) (p4 := p4) (pl := pl)
    S.sup S.cls rfl rfl (by
      show (cellsFrom (s.heap.objs.size + 1) (defScope st).names [("__class__", cc)]).lookup ("__class__" : Str) = some cc
      rw [cells_eq, List.lookup_append]
      have hn : (cellsFrom (s.heap.objs.size + 1) (defScope st).names []).lookup ("__class__" : Str) = none := by
        cases q : (cellsFrom (s.heap.objs.size + 1) (defScope st).names []).lookup ("__class__" : Str) with
        | none => rfl
        | some c =>
          rcases names_of_cells (PySem.mem_of_lookup q) with z | z
          · cases z
          · exact absurd z (S.nocls)
      rw [hn]
      simp [List.lookup]) hN F.hl hσ hx (by
        refine (?_ : ta (L2.start N vs) H _)
        have e0 : (fun (vs' : List V) (H1 : Hp) => sp2 (.ref xa :: vs') H1 (fun v H2 => (L2.start N vs) = L2.start N vs ∧ t { nx := fun _ H' => Q .non H', rt := Q } (L2.start N vs) H2) E0) = (fun vs' H1 => sp2 (.ref xa :: vs') H1 (fun v H2 => t { nx := fun _ H' => Q .non H', rt := Q } (L2.start N vs) H2) E0) := by
          funext vs' H1
          congr 1
          funext v H2
          exact propext ⟨fun z => z.2, fun z => ⟨rfl, z⟩⟩
        rw [e0]
        exact hq) (he _ rfl) (hpl _ rfl) (hi _ rfl) (hsw _ rfl) (hcall _ rfl)
  rw [← hst]
  refine ks_wpAt_mono first (fun fl s' hfl => ?_) fun e s' hs => hs
  obtain ⟨rfl, H', J, _, hts⟩ := hfl
  refine wpAt_of_wpAny (wpAny_mono (ht.nox.run [] s' (L2.start N vs) H' _ J hts) (fun fl s'' hs => ?_) fun e s'' hs => hs)
  cases fl with
  | ret u =>
    obtain ⟨v, σ', H', J, rv, q⟩ := hs
    exact fin J rv q
  | next =>
    obtain ⟨σ', H', J, q⟩ := hs
    exact fin (v := V.non) (u := Value.none) J rfl q
  | brk =>
    obtain ⟨_, _, _, q⟩ := hs
    exact False.elim q
  | cont =>
    obtain ⟨_, _, _, q⟩ := hs
    exact False.elim q
end
end SupX

set_option maxRecDepth 100000
set_option maxHeartbeats 4000000
namespace Ly
open PySem PySem.Spec PyProof.Rows L2
section
variable {X : Cx}
theorem ix_listK (K : PySem.W.Frag) (hK : X.K = K := by rfl) : IxR X (rIxL K) := hK ▸ ix_list
theorem ix_tupK (K : PySem.W.Frag) (hK : X.K = K := by rfl) : IxR X (rIxT K) := hK ▸ ix_tup
theorem ix_kdictK (K : PySem.W.Frag) (w : World) (hK : X.K = K := by rfl) (hw : X.w = w := by rfl) : IxR X (rIxD K w) := hK ▸ hw ▸ ix_kdict
theorem op_in_seqK (K : PySem.W.Frag) (hK : X.K = K := by rfl) : OpR X (compareOp .In) (rIn K false) := hK ▸ op_in_seq
theorem op_eqDK (K : PySem.W.Frag) (hu : X.A.units + 64 < cLine) (hK : X.K = K := by rfl) : OpR X (compareOp .Eq) (rEqD K) := hK ▸ op_eqD hu
theorem op_neDK (K : PySem.W.Frag) (hu : X.A.units + 64 < cLine) (hK : X.K = K := by rfl) : OpR X (compareOp .NotEq) (rNeD K) := hK ▸ op_neD hu
def rLenQ (K : PySem.W.Frag) : List V → Hp → VK → Prop := fun xs H Q => ∃ p ys, xs = [.ref p] ∧ (SqL K H p ys ∨ SqT K H p ys) ∧ Q (.int ys.length) H
theorem call_lenK (K : PySem.W.Frag) (hK : X.K = K := by rfl) : CallR X (.builtin "len") (rLenQ K) := hK ▸ call_len_seq
def rTupOf (K : PySem.W.Frag) : List V → Hp → VK → Prop := fun xs H Q => ∃ p ys, xs = [.ref p] ∧ ((SqL K H p ys ∧ ∀ l, H l = none → Q (.ref l) (upd H l (.tup ys))) ∨ (SqT K H p ys ∧ Q (.ref p) H))
theorem call_tupleK (K : PySem.W.Frag) (hK : X.K = K := by rfl) : CallR X (.type "tuple") (rTupOf K) := hK ▸ call_tuple_of
theorem call_isiK (K : PySem.W.Frag) (hK : X.K = K := by rfl) : CallR X (.builtin "isinstance") (rIsi K) := hK ▸ call_isi
theorem pe_fldK (K : PySem.W.Frag) {e : Expr} {f : Str} {pos : Pos} {ta : TE} (he : PE X e ta) (hb : attributeBase e f X.env (eval e X.env) = eval e X.env) (hK : X.K = K := by rfl) : PE X (.Attribute e f pos) (tFld K ta f) := hK ▸ pe_fld he hb
theorem sl_listK (K : PySem.W.Frag) (hK : X.K = K := by rfl) : SlR X (rSlL K) := hK ▸ sl_list
theorem pi_listK (K : PySem.W.Frag) {tg e : Expr} {te : TE} (he : PE X e te) (hK : X.K = K := by rfl) : PI X tg e (iList K te) := hK ▸ pi_list he
theorem pi_tupK (K : PySem.W.Frag) {tg e : Expr} {te : TE} (he : PE X e te) (hK : X.K = K := by rfl) : PI X tg e (iTup K te) := hK ▸ pi_tup he
theorem ps_fldK (K : PySem.W.Frag) {o value : Expr} {f : Str} {pos pos' : Pos} {ta tv : TE} (ha : PE X o ta) (hv : PE X value tv) (hs : swapsWith value (some (.Attribute o f pos')) pos.line X.env = pure false) (hK : X.K = K := by rfl) : PS X (.Assign [.Attribute o f pos'] value pos) (sFld K ta tv f) := hK ▸ ps_fld ha hv hs
end
/-- cls(e, ..), cls a name that holds the class -/
def tMakeV (C : Addr) (sp : Sp) (dvs : List V) (E : XK) (tf : TE) (t : TA) : TE := fun σ H Q => tf σ H fun v H1 => v = .ref C ∧ tMake C sp dvs E t σ H1 Q
theorem pe_makeV {X : Cx} {CX : CXT} {k : Nat} {f C : Addr} {fd : FuncData} {ps : List Str} {sp : Sp} {dvs : List V} {ds : List Value} {E : XK} {x : Str} {p pos : Pos} {e : Expr} {es : List Expr} {t : TA} {tf : TE} (M : Mk X.K C f) (F : FnOk X.prog X.w X.K X.mg X.base CX k f fd ps sp) (hr : Room (k + 1) X.A)
    (hv : PE X (.Name x p) tf) (hb : Binds X.K fd ps ds) (hd : Vals dvs ds) (hx : Passes CX X E)
    (ha : PA X (e :: es) t) (he : starEach (e :: es) X.env = (false, eval e X.env) :: starEach es X.env := by rfl) (hpl : (backTo pos (starEach es X.env)).any (·.1) = false := by rfl) :
    PE X (.Call (.Name x p) (e :: es) [] pos) (tMakeV C sp dvs E tf t) := by
  refine ⟨fun pins s σ H Q I h => ?_⟩
  refine wpAny_Call_Name_kw (thn (hv.run pins s σ H _ I h) fun u s0 ⟨v, H0, I0, rv, ev, h0⟩ => ?_)
  subst ev
  obtain rfl : u = Value.ref C := rv
  refine PySem.W.callWith_K (h₀ := X.base) I.ok.mod.kin M.kp (thn (ha.run pos pins s0 σ H0 _ I0 h0) fun us s1 ⟨vs, H1, I1, r, q⟩ => ⟨I1.kIn, ?_⟩) he hpl
  exact run_make M F hr hb hd hx I1 r q
theorem szl {n : Nat} (h : n ≤ 100000) : n ≤ sizeLine := Nat.le_trans h (by decide)
theorem szt {n : Nat} (h : n < 100000) : n < sizeLine := Nat.lt_of_lt_of_le h (by decide)
theorem asg {te : TE} {g : TG} {D : Ends} {σ : L2.St} {H : Hp} (R : V → Hp → Prop) (hi : ∀ Q' : VK, (∀ v H1, R v H1 → Q' v H1) → te σ H Q') (h : ∀ v H1, R v H1 → g v σ H1 D.nx) : tAsg te g D σ H := hi _ h
theorem same_new {H : Hp} {p : Addr} {o : HO} (h : H p = none) : Same H (upd H p o) := fun b u e => by
  rw [upd_ne (ne_of_none e h)]
  exact e
theorem same_mut {H H' : Hp} {p : Addr} {o : HO} (s : Same H H') (h : H p = none) : Same H (upd H' p o) := fun b u e => by
  rw [upd_ne (ne_of_none e h)]
  exact s b u e
theorem same_sqt {K : PySem.W.Frag} {H H' : Hp} {q : Addr} {xs : List V} (s : Same H H') (h : SqT K H q xs) : SqT K H' q xs := by
  rcases h with (h | ⟨ob, h⟩) | h
  · exact .inl (.inl (s _ _ h))
  · exact .inl (.inr ⟨ob, s _ _ h⟩)
  · exact .inr h
theorem same_sql {K : PySem.W.Frag} {H H' : Hp} {q : Addr} {xs : List V} (s : Same H H') (h : SqL K H q xs) : SqL K H' q xs := s.seq h
theorem sql_upd {K : PySem.W.Frag} {H : Hp} {p q : Addr} {o : HO} {xs : List V} (h : SqL K H q xs) (ne : q ≠ p) : SqL K (upd H p o) q xs := by
  rcases h with (h | ⟨ob, h⟩) | h
  · exact .inl (.inl (by rw [upd_ne ne]; exact h))
  · exact .inl (.inr ⟨ob, by rw [upd_ne ne]; exact h⟩)
  · exact .inr h
theorem sqt_upd {K : PySem.W.Frag} {H : Hp} {p q : Addr} {o u : HO} {xs : List V} (h : SqT K H q xs) (hp : H p = some o) (ho : ∀ xs, o ≠ .tup xs) (hf : ∀ ob xs, o ≠ .frz ob xs) : SqT K (upd H p u) q xs := by
  rcases h with (h | ⟨ob, h⟩) | h
  · have ne : q ≠ p := ne_of h hp (Ne.symm (ho _))
    exact .inl (.inl (by rw [upd_ne ne]; exact h))
  · have ne : q ≠ p := ne_of h hp (Ne.symm (hf _ _))
    exact .inl (.inr ⟨ob, by rw [upd_ne ne]; exact h⟩)
  · exact .inr h
/-- the items of a written tuple -/
theorem sqt_K {K : PySem.W.Frag} {a : Addr} {c : Option Addr} {its : Array Value} {n : Nat} {sl : Array (Option Value)} {xs : List V} (l : K.lookup a = some ⟨.type "tuple", c, .seq its n, sl⟩) (hz : its.size ≤ sizeLine) (r : Vals xs its.toList) : ∀ H, SqT K H a xs := fun _ =>
  .inr ⟨_, its, n, l, rfl, rfl, hz, r⟩
end Ly

set_option maxRecDepth 100000
set_option maxHeartbeats 4000000
namespace Ly
open PySem PySem.Spec PyProof.Rows L2
abbrev Idle (A : Around) : Prop := A.guards = some []
structure FnG (P : Program) (w : World) (K : PySem.W.Frag) (mg : Str → Option Value) (base : Heap) (CX : CXT) (k : Nat) (f : Addr) (fd : FuncData) (ps : List Str) (sp : Sp) : Prop where
  len : ∀ vs H Q E, sp vs H Q E → vs.length = ps.length
  run : ∀ (A : Around) (outer : List Env) (s : Shared) (H : Hp) (args : Args) (us : List Value) (vs : List V) (Q : VK) (E : XK), Idle A → Room k A → Env0 P w K mg base A outer s H → BindsTo s fd args (ps.zip us) → Vals vs us → sp vs H Q E →
    codeAny (model P w) A (.call (.ref f) args) (CR CX outer P w H s Q E) s
section
variable {P : Program} {w : World} {K : PySem.W.Frag} {mg : Str → Option Value} {base : Heap} {CX : CXT}
theorem FnG.of {k : Nat} {f : Addr} {fd : FuncData} {ps : List Str} {sp : Sp} (F : FnOk P w K mg base CX k f fd ps sp) : FnG P w K mg base CX k f fd ps sp :=
  ⟨F.len, fun A outer s H args us vs Q E _ hr => F.run A outer s H args us vs Q E hr⟩
theorem FnG.mono {j k : Nat} {f : Addr} {fd : FuncData} {ps : List Str} {sp : Sp} (F : FnG P w K mg base CX j f fd ps sp) (h : j ≤ k) : FnG P w K mg base CX k f fd ps sp :=
  ⟨F.len, fun A outer s H args us vs Q E hg hr => F.run A outer s H args us vs Q E hg (hr.mono h)⟩
/-- a def by its body -/
theorem fnG_of {k : Nat} {f : Addr} {name qual : Str} {params : Arguments} {body : List Stmt} {scope : Scope} {dV kV doc pm cdv ct oc : Value} {an od : Option Addr} {osl : Array (Option Value)} {N ps : List Str} {sp : Sp}
    (lk : K.lookup f = some ⟨oc, od, .func (PySem.W.fnOf name qual params body scope dV kV doc pm an cdv ct), osl⟩) (hcd : PySem.W.codeIn K cdv qual = true) (S : FnScope N ps scope)
    (len : ∀ vs H Q E, sp vs H Q E → vs.length = ps.length)
    (hbody : ∀ (A : Around) (outer : List Env) (s : Shared) (H : Hp) (vs : List V) (Q : VK) (E : XK), Idle (A.deeper (envOfC qual scope s.heap.objs.size f cdv)) → Room k (A.deeper (envOfC qual scope s.heap.objs.size f cdv)) → sp vs H Q E →
      ∃ t, PSs (cxOf CX P w K mg base N qual scope f cdv A outer s H E) body t ∧ t { nx := fun _ H' => Q .non H', rt := Q } (L2.start N vs) H) :
    FnG P w K mg base CX (k + 1) f (PySem.W.fnOf name qual params body scope dV kV doc pm an cdv ct) ps sp := by
  refine ⟨len, fun A outer s H args us vs Q E hg hr e0 hb r hsp => ?_⟩
  have KX : K.In s.heap := e0.mod.kin.keeps fun b o e => (e0.bs b o e).1
  refine codeAny_call_function hr.depth (KX _ _ lk) rfl S.co S.gen rfl (PySem.W.codeRec_of KX hcd) (hb _ _ _ _ ?_)
  have hkind : ∀ y ∈ ps.zip us, scope.names.lookup y.1 = some .local ∨ (scope.names.lookup y.1 = some .cell ∧ ((cellsFrom (s.heap.objs.size + 1) scope.names []).lookup y.1).isSome = true) := fun y hy =>
    (S.par y.1 (List.of_mem_zip (a := y.1) (b := y.2) hy).1).elim .inl fun q => .inr ⟨q, PySem.W.cellsFrom_some _ _ _ (.inl q)⟩
  refine wpAny_newFunctionEnv_cells S.kind hkind fun env he s1 x => ?_
  subst he
  refine ⟨(e0.mod.nolimit.keeps fun b o e => (e0.bs b o e).1).keeps x.toInCall.keep, codeAny_func ?_⟩
  obtain ⟨t, ht, hq⟩ := hbody A outer s H vs Q E hg (hr.deeper _) hsp
  refine wpAny_mono (ht.run [] s1 (L2.start N vs) H _ (inv_start S hr.hd e0 (len _ _ _ _ hsp) r x) hq) (fun fl s' hs => ?_) fun e s' hs => hs
  match fl, hs with
  | .ret u, ⟨v, σ', H', J, rv, q⟩ => exact ⟨v, H', J.os, J.bare, J.base, J.hok, rv, q⟩
  | .next, ⟨σ', H', J, q⟩ => exact ⟨V.non, H', J.os, J.bare, J.base, J.hok, rfl, q⟩
  | .brk, ⟨_, _, _, q⟩ => exact q.elim
  | .cont, ⟨_, _, _, q⟩ => exact q.elim
theorem Fun.okG {x qual : Str} {st : Stmt} {f : Addr} {fd : FuncData} {N ps : List Str} {k : Nat} {sp : Sp} (F : Fun K x qual st f fd) (S : FnScope N ps (defScope st)) (len : ∀ vs H Q E, sp vs H Q E → vs.length = ps.length)
    (hbody : ∀ (cdv : Value) (A : Around) (outer : List Env) (s : Shared) (H : Hp) (vs : List V) (Q : VK) (E : XK), Idle (A.deeper (envOfC qual (defScope st) s.heap.objs.size f cdv)) → Room k (A.deeper (envOfC qual (defScope st) s.heap.objs.size f cdv)) → sp vs H Q E →
      ∃ t, PSs (cxOf CX0 P w K mg base N qual (defScope st) f cdv A outer s H E).nox (defBody st) t ∧ t { nx := fun _ H' => Q .non H', rt := Q } (L2.start N vs) H) : FnG P w K mg base CX0 (k + 1) f fd ps sp := by
  obtain ⟨oc, od, kV, doc, pm, an, cdv, ct, osl, rfl, lk, hcd⟩ := F.ex
  exact fnG_of lk hcd S len fun A outer s H vs Q E hg hr hsp => let ⟨t, h, q⟩ := hbody cdv A outer s H vs Q E hg hr hsp; ⟨t, h.nox, q⟩
end
section
variable {X : Cx} {CX : CXT} {k : Nat} {f : Addr} {fd : FuncData} {ps : List Str} {sp : Sp} {dvs : List V} {ds : List Value} {E : XK} {x : Str} {p pos : Pos} {e : Expr} {es : List Expr} {t : TA}
def rRepr (K : PySem.W.Frag) : List V → Hp → VK → Prop := fun xs H Q => ∃ a d, xs = [.ref a] ∧ Dp K H (.ref a) d ∧ d.showable = true ∧ d.hasDict = false ∧ d.depth ≤ 60 ∧ d.shown.length ≤ sizeLine ∧ Q (.str d.shown) H
theorem call_repr (K : PySem.W.Frag) (hg : Idle X.A) (hu : X.A.units + 64 < cLine) (hK : X.K = K := by rfl) : CallR X (.builtin "repr") (rRepr K) := by
  subst hK
  intro pins s σ H xs us Q I r h
  obtain ⟨a, d, rfl, hd, hs, hn, hdp, hz, q⟩ := h
  obtain ⟨u, rfl, ru⟩ := vals1 r
  obtain rfl : u = Value.ref a := ru
  obtain ⟨as, rd⟩ := Dp.reads I d (.ref a) (.ref a) hd rfl
  exact repr_of_reads' rd hs (fun z => by rw [hn] at z; cases z) hg (by omega) (fun _ _ e => e) (fun h' u tk k => ⟨.str d.shown, H, I.kept k, ⟨u, rfl⟩, q⟩) hz

end
end Ly

set_option maxRecDepth 100000
set_option maxHeartbeats 4000000
namespace Ly
open PySem PySem.Spec PyProof.Rows L2
section
variable {P : Program} {w : World} {K : PySem.W.Frag} {mg mb : Str → Option Value} {k : Nat} {fa a : Addr} {fd : FuncData} {x : Str} {sp : Sp} {s : Shared} {vs : List Value} {ns : List Int}
/-- from an abstract heap H that tracks the script at most, locked -/
theorem entryG (KX : K.In s.heap) (hns : s.heap.Ns mainGlobals mg) (hb : s.heap.Ns builtinsNs mb) (hbb : ∀ x : Str, x ≠ "__name__" → mb x = bootBuiltins x) (hlim : s.heap.NoLimit) (hg : s.gens = #[])
    (ha : s.heap.get? a = some { cls := .type "list", data := .seq vs.toArray }) (hr : Room k callerA)
    (F : ∀ base : Heap, K.In base → base.Ns mainGlobals mg → FnG P w K mg base CX0 k fa fd [x] sp) (hbind : ∀ (s : Shared) (u : Value), BindsTo s fd ⟨[u], []⟩ [(x, u)])
    (H : Hp) (hsp : sp [.ref a] H (fun v _ => v = .bl true) fun _ _ _ => False) (hok : HOk P w H s.heap) (only : ∀ b u, H b = some u → b = a ∧ K.lookup a = none ∧ ∃ o xs, u = .frz o (.lst xs)) :
    codeAny (model P w) callerA (.call (.ref fa) ⟨[.ref a], []⟩) (fun r s' => r = .ok (.ret (.bool true)) ∧ OldK s.heap s'.heap ∧ s'.os = s.os ∧ AllBare s'.gens) s := by
  have free : ∀ b, (b ≠ a ∨ K.lookup a ≠ none) → H b = none := fun b hb => by
    cases q : H b with
    | none => rfl
    | some u =>
      obtain ⟨e, l, _⟩ := only b u q
      rcases hb with z | z
      · exact absurd e z
      · exact absurd l z
  have plain : ∀ {b : Addr} {o : Obj} {es : Array DictEntry} {ep : Nat}, s.heap.get? b = some o → o.data = .dict es ep → H b = none := fun {b o es ep} e d => free b (.inl fun z => by
    rw [z, ha] at e
    cases e
    cases d)
  have nsK : ∀ {b : Addr} {m : Str → Option Value}, s.heap.Ns b m → (hidT s.heap H).Ns b m := fun {b m} ⟨o, es, ep, e, d, r⟩ => ⟨o, es, ep, hidT_get e (plain e d), d, r⟩
  have hKb : K.In (hidT s.heap H) := fun b o e => hidT_get (KX b o e) (by
    by_cases hb : b = a
    · exact free b (.inr (by rw [← hb, e]; simp))
    · exact free b (.inl hb))
  obtain ⟨mc, l1, l2⟩ := hlim
  have e0 : Env0 P w K mg (hidT s.heap H) callerA [] s H :=
    ⟨rfl, ⟨hKb, nsK hns, ⟨mb, nsK hb, hbb⟩, ⟨mc, nsK l1, l2⟩⟩, fun b o e => of_hidT e, Nat.le_of_eq (hidT_size _ _), trivial, fun b hb => absurd (show b ∈ ([] : List Addr) from hb) (by simp), hok, .of_eq hg⟩
  refine codeAny_mono ((F _ hKb (nsK hns)).run callerA [] s H ⟨[.ref a], []⟩ [.ref a] [.ref a] _ _ rfl hr e0 (hbind s (.ref a)) (.cons rfl .nil) hsp) fun r s' h => ?_
  match r, h with
  | .error e, h => exact h.elim
  | .ok .next, h => exact h.elim
  | .ok .brk, h => exact h.elim
  | .ok .cont, h => exact h.elim
  | .ok (.ret u), ⟨v, H', os, bare, un, hok', rv, q⟩ =>
    have q' : v = .bl true := q
    subst q'
    obtain rfl : u = Value.bool true := rv
    refine ⟨rfl, OldK.of_keep fun b o e => ?_, os, bare⟩
    cases q : H b with
    | none => exact un.keep b o e q (fun z => absurd (show b ∈ ([] : List Addr) from z) (by simp)) (by simp)
    | some u =>
      obtain ⟨_, _, ob, xs, rfl⟩ := only b u q
      have h1 := (hok b _ q).1
      have h2 := (hok' b _ (un.frzs b ob _ q)).1
      rw [e] at h1
      cases h1
      exact h2
theorem lawG (KX : K.In s.heap) (hns : s.heap.Ns mainGlobals mg) (hb : s.heap.Ns builtinsNs mb) (hbb : ∀ x : Str, x ≠ "__name__" → mb x = bootBuiltins x) (hlim : s.heap.NoLimit) (hg : s.gens = #[])
    (ha : s.heap.get? a = some { cls := .type "list", data := .seq vs.toArray }) (hi : IntsAre vs ns) (hl : ns.length ≤ sizeLine) (hr : Room k callerA)
    (F : ∀ base : Heap, K.In base → base.Ns mainGlobals mg → FnG P w K mg base CX0 k fa fd [x] sp) (hbind : ∀ (s : Shared) (u : Value), BindsTo s fd ⟨[u], []⟩ [(x, u)])
    (hsp : ∀ H : Hp, SqL K H a (ns.map V.int) → sp [.ref a] H (fun v _ => v = .bl true) fun _ _ _ => False) :
    codeAny (model P w) callerA (.call (.ref fa) ⟨[.ref a], []⟩) (fun r s' => r = .ok (.ret (.bool true)) ∧ OldK s.heap s'.heap ∧ s'.os = s.os ∧ AllBare s'.gens) s := by
  have rv := vals_ints hi
  have lenV := hi.length
  cases hk : K.lookup a with
  | some o =>
    have e := KX a o hk
    rw [ha] at e
    cases e
    refine entryG KX hns hb hbb hlim hg ha hr F hbind (fun _ => none) (hsp _ (.inr ⟨_, vs.toArray, _, hk, rfl, rfl, rfl, by rw [List.size_toArray, lenV]; exact hl, by simpa using rv⟩)) (fun b u z => ?_) fun b u z => ?_
    · have z' : (none : Option HO) = some u := z
      cases z'
    · have z' : (none : Option HO) = some u := z
      cases z'
  | none =>
    have at_ : ∀ {b : Addr} {u : HO}, (if b = a then some (HO.frz { cls := .type "list", data := .seq vs.toArray } (.lst (ns.map V.int))) else none) = some u → b = a ∧ u = HO.frz { cls := .type "list", data := .seq vs.toArray } (.lst (ns.map V.int)) := fun {b u} z => by
      by_cases h : b = a
      · rw [if_pos h] at z
        exact ⟨h, (Option.some.inj z).symm⟩
      · rw [if_neg h] at z
        cases z
    refine entryG KX hns hb hbb hlim hg ha hr F hbind (fun b => if b = a then some (HO.frz { cls := .type "list", data := .seq vs.toArray } (.lst (ns.map V.int))) else none) (hsp _ (.inl (.inr ⟨_, if_pos rfl⟩))) (fun b u z => ?_) fun b u z => ?_
    · obtain ⟨rfl, rfl⟩ := at_ z
      exact ⟨ha, by rw [List.length_map]; exact hl, vs, _, rv, ha⟩
    · obtain ⟨e, rfl⟩ := at_ z
      exact ⟨e, hk, _, _, rfl⟩
end
end Ly

set_option maxRecDepth 100000
set_option maxHeartbeats 4000000
namespace Hd
open PySem PySem.Spec PyProof.Rows L2 He Ly
def tk : Option (Option Value) → Tok
  | some (some (.int _ t)) => t
  | some (some (.str _ t)) => t
  | _ => 0
def rf : Option (Option Value) → Addr
  | some (some (.ref a)) => a
  | _ => 0
def clsP (K : PySem.W.Frag) (C : Addr) (m : Str) : Addr := match PySem.W.findCls K (.ref C) (.type "type") m with
  | some (.get _ (.ref p) _ _) => p
  | _ => 0
def rec1 (K : PySem.W.Frag) (p : Addr) (T : String) : Addr := match PySem.W.recIn K p T with
  | some (.ref f :: _) => f
  | _ => 0
def recR (K : PySem.W.Frag) (p : Addr) (T : String) : List Value := match PySem.W.recIn K p T with
  | some (_ :: r) => r
  | _ => []
def itsO (K : PySem.W.Frag) (a : Addr) : List Value := match K.lookup a with
  | some ⟨_, _, .seq its _, _⟩ => its.toList
  | _ => []
def sqA (K : PySem.W.Frag) (a : Addr) (i : Nat) : Addr := match (itsO K a)[i]? with
  | some (.ref b) => b
  | _ => 0
def sqK (K : PySem.W.Frag) (a : Addr) (i : Nat) : Tok := match (itsO K a)[i]? with
  | some (.str _ t) => t
  | _ => 0
def fcode (K : PySem.W.Frag) (f : Addr) : Addr := match K.lookup f with
  | some ⟨_, _, .func fd, _⟩ => (match fd.code with
    | .ref c => c
    | _ => 0)
  | _ => 0
def fcell (K : PySem.W.Frag) (f : Addr) : Addr := match K.lookup f with
  | some ⟨_, _, .func fd, _⟩ => (match fd.closure with
    | [(_, c)] => c
    | _ => 0)
  | _ => 0
theorem so_ok {α : Type} {o : Option α} (h : o.isSome = true) : ∃ a, o = some a := Option.isSome_iff_exists.mp h
def cfB : Option PySem.W.CFound → PySem.W.CFound → Bool
  | some (.val v), .val u => decide (v = u)
  | some (.get a b c d), .get a' b' c' d' => decide (a = a') && (decide (b = b') && (decide (c = c') && decide (d = d')))
  | _, _ => false
theorem cf_ok {o : Option PySem.W.CFound} {r : PySem.W.CFound} (h : cfB o r = true) : o = some r := by
  cases o with
  | none => cases h
  | some x =>
    cases x with
    | val v =>
      cases r with
      | val u => rw [show v = u from of_decide_eq_true h]
      | get => cases h
    | get a b c d =>
      cases r with
      | val => cases h
      | get a' b' c' d' =>
        obtain ⟨h1, h2⟩ := ba (show (decide (a = a') && (decide (b = b') && (decide (c = c') && decide (d = d')))) = true from h)
        obtain ⟨h2, h3⟩ := ba h2
        obtain ⟨h3, h4⟩ := ba h3
        rw [show a = a' from of_decide_eq_true h1, show b = b' from of_decide_eq_true h2, show c = c' from of_decide_eq_true h3, show d = d' from of_decide_eq_true h4]
def tupV (K : PySem.W.Frag) (a : Addr) (vs : List Value) : Bool := match K.lookup a with
  | some ⟨.type c, _, .seq its _, _⟩ => decide (c = "tuple") && decide (its.toList = vs)
  | _ => false
theorem tup_ok {K : PySem.W.Frag} {a : Addr} {vs : List Value} (h : tupV K a vs = true) : ∃ c n sl, K.lookup a = some ⟨.type "tuple", c, .seq vs.toArray n, sl⟩ := by
  unfold tupV at h
  cases q : K.lookup a with
  | none =>
    rw [q] at h
    cases h
  | some o =>
    obtain ⟨oc, od, dt, osl⟩ := o
    rw [q] at h
    cases oc with
    | type c =>
      cases dt with
      | seq its n =>
        obtain ⟨h1, h2⟩ := ba (show (decide (c = "tuple") && decide (its.toList = vs)) = true from h)
        have e1 : c = "tuple" := of_decide_eq_true h1
        have e2 : its.toList = vs := of_decide_eq_true h2
        subst e1 e2
        exact ⟨od, n, osl, by simp⟩
      | _ => cases h
    | _ => cases dt <;> cases h
def dKeys (K : PySem.W.Frag) (d : Addr) : List Value := match K.lookup d with
  | some ⟨_, _, .dict es _, _⟩ => es.toList.map (·.key)
  | _ => []
def dKeyT (K : PySem.W.Frag) (d : Addr) (i : Nat) : Tok := match (dKeys K d)[i]? with
  | some (.str _ t) => t
  | _ => 0
theorem keys_ok {K : PySem.W.Frag} {d : Addr} {c : Value} {o : Option Addr} {es : Array DictEntry} {n : Nat} {sl : Array (Option Value)} {vs : List Value} (l : K.lookup d = some ⟨c, o, .dict es n, sl⟩) (h : decide (dKeys K d = vs) = true) : es.toList.map (·.key) = vs := by
  have e : dKeys K d = vs := of_decide_eq_true h
  unfold dKeys at e
  rw [l] at e
  exact e
def fldB (K : PySem.W.Frag) (a : Addr) (file : Str) : Bool := match K.lookup a with
  | some ⟨_, _, .fields vs, _⟩ => (match (vs[2]? : Option Value) with
    | some (.str f _) => file == f
    | _ => false)
  | _ => false
theorem fld_ok {K : PySem.W.Frag} {a : Addr} {file : Str} (h : fldB K a file = true) : ∃ cl cd vs sl f t, K.lookup a = some ⟨cl, cd, .fields vs, sl⟩ ∧ vs[2]? = some (.str f t) ∧ (file == f) = true := by
  unfold fldB at h
  cases q : K.lookup a with
  | none =>
    rw [q] at h
    cases h
  | some o =>
    obtain ⟨oc, od, dt, osl⟩ := o
    rw [q] at h
    cases dt with
    | fields vs =>
      have h1 : (match (vs[2]? : Option Value) with
        | some (.str f _) => file == f
        | _ => false) = true := h
      cases e : vs[2]? with
      | none =>
        rw [e] at h1
        cases h1
      | some v =>
        rw [e] at h1
        cases v with
        | str f t => exact ⟨oc, od, vs, osl, f, t, rfl, e, h1⟩
        | _ => cases h1
    | _ => cases h
def cellB (K : PySem.W.Frag) (a C : Addr) : Bool := match K.lookup a with
  | some ⟨_, _, .cell (some (.ref D)), _⟩ => decide (D = C)
  | _ => false
theorem cell_ok {K : PySem.W.Frag} {a C : Addr} (h : cellB K a C = true) : ∃ cv cd sl, K.lookup a = some ⟨cv, cd, .cell (some (.ref C)), sl⟩ := by
  unfold cellB at h
  cases q : K.lookup a with
  | none =>
    rw [q] at h
    cases h
  | some o =>
    obtain ⟨oc, od, dt, osl⟩ := o
    rw [q] at h
    cases dt with
    | cell v =>
      cases v with
      | none => cases h
      | some v =>
        cases v with
        | ref D =>
          have e : D = C := of_decide_eq_true h
          subst e
          exact ⟨oc, od, osl, rfl⟩
        | _ => cases h
    | _ => cases h
def excB (K : PySem.W.Frag) (C : Addr) (bm : List Value) (new : String) : Bool := match K.lookup C with
  | some ⟨.type "type", _, .cls cd, sl⟩ => (match cd.mro, sl.toList with
    | .ref C' :: l, [_, _, _, _, some (.builtin n), _] => decide (C' = C) && (decide (l = bm) && (decide (n = new) && (!cd.hasDel && cd.hasDict)))
    | _, _ => false)
  | _ => false
theorem exc_ok {K : PySem.W.Frag} {C : Addr} {bm : List Value} {new : String} (h : excB K C bm new = true) :
    ∃ nm q N bs sn sub ab col dd m0 m1 m2 m3 m5, K.lookup C = some (excClassObj nm q C N bs bm true sn sub ab col dd m0 m1 m2 m3 m5 new) := by
  unfold excB at h
  split at h
  · rename_i dd cd sl ho
    split at h
    · rename_i C' l m0 m1 m2 m3 n m5 hm hsl
      obtain ⟨h1, h2⟩ := ba h
      obtain ⟨h2, h3⟩ := ba h2
      obtain ⟨h3, h4⟩ := ba h3
      obtain ⟨h4, h5⟩ := ba h4
      have e1 : C' = C := of_decide_eq_true h1
      have e2 : l = bm := of_decide_eq_true h2
      have e3 : n = new := of_decide_eq_true h3
      have e4 : cd.hasDel = false := by simpa using h4
      subst e1 e2 e3
      obtain ⟨nm, bs, mro, N, q, hd, sn, sub, ab, col, hdl⟩ := cd
      simp only at hm h5 e4
      subst hm h5 e4
      have e5 : sl = #[m0, m1, m2, m3, some (.builtin n), m5] := by
        rw [← Array.toArray_toList (xs := sl), hsl]
      subst e5
      exact ⟨_, _, _, _, _, _, _, _, _, _, _, _, _, _, ho⟩
    · cases h
  · cases h
abbrev FnH : Type := Option (Str × Str × Arguments × FuncBody × Scope × Addr × List Str × Value × Addr)
def fnH (K : PySem.W.Frag) (a : Addr) : FnH := match K.lookup a with
  | some ⟨_, _, .func fd, _⟩ => some (fd.name, fd.qualname, fd.params, fd.body, fd.scope, fd.globals, fd.closure.map (·.1), fd.defaults, fd.builtins)
  | _ => none
structure DH where
  at_ : PySem.W.Frag → Addr
  name : Str
  qual : Str
  params : Arguments
  body : List Stmt
  scope : Scope
  cl : List Str := []
def DH.val (d : DH) : FnH := some (d.name, d.qual, d.params, .stmts d.body, d.scope, mainGlobals, d.cl, .none, builtinsNs)
def codeB (K : PySem.W.Frag) (a : Addr) (q : Str) : Bool := match K.lookup a with
  | some ⟨_, _, .func fd, _⟩ => PySem.W.codeIn K fd.code q
  | _ => false
section
variable {K : PySem.W.Frag} {a : Addr} {nm qual : Str} {params : Arguments} {body : List Stmt} {scope : Scope}
theorem fn0 (e : fnH K a = (some (nm, qual, params, FuncBody.stmts body, scope, mainGlobals, [], Value.none, builtinsNs) : FnH)) (c : codeB K a qual = true) :
    ∃ oc od kV dc pm an cd ct sl, K.lookup a = some ⟨oc, od, .func (PySem.W.fnOf nm qual params body scope .none kV dc pm an cd ct), sl⟩ ∧ PySem.W.codeIn K cd qual = true := by
  unfold fnH at e
  unfold codeB at c
  cases q : K.lookup a with
  | none =>
    rw [q] at e
    cases e
  | some o =>
    obtain ⟨oc, od, dt, osl⟩ := o
    rw [q] at e c
    cases dt with
    | func fd =>
      obtain ⟨n1, n2, n3, n4, n5, n6, n7, n8, n9, n10, n11, n12, n13, n14, n15⟩ := fd
      have e2 : (some (n1, n2, n3, n4, n5, n6, n7.map (·.1), n8, n15) : FnH) = (some (nm, qual, params, FuncBody.stmts body, scope, mainGlobals, [], Value.none, builtinsNs) : FnH) := e
      simp only [Option.some.injEq, Prod.mk.injEq] at e2
      obtain ⟨h1, h2, h3, h4, h5, h6, h7, h8, h9⟩ := e2
      have h7 : n7 = [] := List.map_eq_nil_iff.mp h7
      subst h1 h2 h3 h4 h5 h6 h7 h8 h9
      exact ⟨oc, od, n9, n10, n11, n12, n13, n14, osl, rfl, c⟩
    | _ => cases e
theorem fn1 (e : fnH K a = (some (nm, qual, params, FuncBody.stmts body, scope, mainGlobals, ["__class__"], Value.none, builtinsNs) : FnH)) (c : codeB K a qual = true) :
    ∃ oc od kV dc pm an ct sl, K.lookup a = some ⟨oc, od, .func (PySem.W.fnX nm qual params body scope [("__class__", fcell K a)] .none kV dc pm an (.ref (fcode K a)) ct), sl⟩ ∧ PySem.W.codeIn K (.ref (fcode K a)) qual = true := by
  unfold fnH at e
  unfold codeB at c
  cases q : K.lookup a with
  | none =>
    rw [q] at e
    cases e
  | some o =>
    obtain ⟨oc, od, dt, osl⟩ := o
    rw [q] at e c
    cases dt with
    | func fd =>
      obtain ⟨n1, n2, n3, n4, n5, n6, n7, n8, n9, n10, n11, n12, n13, n14, n15⟩ := fd
      have e2 : (some (n1, n2, n3, n4, n5, n6, n7.map (·.1), n8, n15) : FnH) = (some (nm, qual, params, FuncBody.stmts body, scope, mainGlobals, ["__class__"], Value.none, builtinsNs) : FnH) := e
      simp only [Option.some.injEq, Prod.mk.injEq] at e2
      obtain ⟨h1, h2, h3, h4, h5, h6, h7, h8, h9⟩ := e2
      have c2 : PySem.W.codeIn K n13 qual = true := c
      match n7, h7 with
      | [(x, cc)], h7 =>
        have hx : x = "__class__" := by simpa using h7
        match n13, c2 with
        | .ref cda, c2 =>
          have f1 : fcell K a = cc := by
            unfold fcell
            rw [q]
          have f2 : fcode K a = cda := by
            unfold fcode
            rw [q]
          rw [f1, f2]
          subst h1 h2 h3 h4 h5 h6 h8 h9 hx
          exact ⟨oc, od, n9, n10, n11, n12, n14, osl, rfl, c2⟩
    | _ => cases e
end
abbrev AlH : Type := Bool × List FnH × List (Option (List (Option (Str × Int))))
def obsH (chk : PySem.W.Frag → Bool) (fn : List DH) (ts : List Tab) (K : PySem.W.Frag) : AlH := (chk K, fn.map fun d => fnH K (d.at_ K), ts.map fun t => dicW K (t.1 K))
def valH (fn : List DH) (ts : List Tab) (w : World) : AlH := (true, fn.map DH.val, ts.map fun t => some (keysIn w.params t.2))
/-- all addresses from n downwards, the module's names and the statics ahead -/
def down : Nat → List Addr
  | 0 => [0]
  | n + 1 => (n + 1) :: down n
def asH (n : Nat) : List Addr := mainGlobals :: PySem.cStatics :: down n
def obsHG (n : Nat) (chk : PySem.W.Frag → Bool) (fn : List DH) (ts : List Tab) (g : Addr → Option Obj) : AlH := obsH chk fn ts (frG g (asH n))
def SaysH (chk : PySem.W.Frag → Bool) (fn : List DH) (ts : List Tab) (w : World) (K : PySem.W.Frag) : Prop := obsH chk fn ts K = valH fn ts w
def hookH (n : Nat) (chk : PySem.W.Frag → Bool) (fn : List DH) (ts : List Tab) : PySem.W.Hook where
  α := AlH
  obs := fun s => obsHG n chk fn ts s.heap.get?
  val := fun w => valH fn ts w
  says := fun w h => ∃ K : PySem.W.Frag, K.In h ∧ SaysH chk fn ts w K
  of := fun _ _ e => ⟨_, frG_in, e⟩
  keeps := fun _ _ _ ⟨K, hK, c⟩ k => ⟨K, PySem.W.Frag.In.keeps hK k, c⟩
theorem obsHG_eq {n : Nat} {chk : PySem.W.Frag → Bool} {fn : List DH} {ts : List Tab} {g : Addr → Option Obj} {s : Shared} (h : ∀ a, g a = s.heap.get? a) : obsHG n chk fn ts g = (hookH n chk fn ts).obs s := by
  have e : g = s.heap.get? := funext h
  rw [e] <;> rfl
section
variable {chk : PySem.W.Frag → Bool} {fn : List DH} {ts : List Tab} {w : World} {K : PySem.W.Frag}
theorem SaysH.bo (c : SaysH chk fn ts w K) : chk K = true := congrArg (fun z : AlH => z.1) c
theorem SaysH.de (c : SaysH chk fn ts w K) (i : Nat) {d : DH} (h : fn[i]? = some d := by rfl) : fnH K (d.at_ K) = d.val := by
  have e : fn.map (fun d => fnH K (d.at_ K)) = fn.map DH.val := congrArg (fun z : AlH => z.2.1) c
  have e2 : (fn.map fun d => fnH K (d.at_ K))[i]? = (fn.map DH.val)[i]? := by rw [e]
  rw [List.getElem?_map, List.getElem?_map, h] at e2
  exact Option.some.inj e2
theorem SaysH.tab (c : SaysH chk fn ts w K) (i : Nat) {t : Tab} (h : ts[i]? = some t := by rfl) : ∃ es n, KDict K w (t.1 K) es n := by
  have e : ts.map (fun t => dicW K (t.1 K)) = ts.map fun t => some (keysIn w.params t.2) := congrArg (fun z : AlH => z.2.2) c
  have e2 : (ts.map fun t => dicW K (t.1 K))[i]? = (ts.map fun t => some (keysIn w.params t.2))[i]? := by rw [e]
  rw [List.getElem?_map, List.getElem?_map, h] at e2
  exact dicW_ok (Option.some.inj e2)
end
theorem walk_ofH {l : PySem.W.OpenLaw} {n k : Nat} {q : Program} {loose : List Str} {XP : (Str → Option Value) → Heap → Prop} {YP : World → Heap → Prop} {d : DefRec} {x : Str}
    (hn : l.most = some n) (hn2 : n ≤ sizeLine) (hdf : d.params.defaults = []) (hr : Room k callerA)
    (F : ∀ (w : World) (mg : Str → Option Value) (fa : Addr) (h : Heap), YP w h → h.Ns mainGlobals mg → mg d.name = some (.ref fa) →
      ∃ (K : PySem.W.Frag) (fd : FuncData) (sp : Sp), K.In h ∧ (∀ (s : Shared) (u : Value), BindsTo s fd ⟨[u], []⟩ [(x, u)]) ∧
        (∀ (H : Hp) (a : Addr) (ns : List Int), ns.length ≤ n → SqL K H a (ns.map V.int) → sp [.ref a] H (fun v _ => v = .bl true) fun _ _ _ => False) ∧
        ∀ base : Heap, K.In base → base.Ns mainGlobals mg → FnG l.prog w K mg base CX0 k fa fd [x] sp) :
    PySem.W.WalkO q loose XP YP l.row.toRowW d [] (fun f vs => PySem.call f vs) := by
  refine Att.attach_call hn hdf fun w s₀ s₁ mg mb fa o pm cd doc a vs ns G Y ho hd hcd hmg hobj hints hlen hg => ?_
  obtain ⟨K, fd, sp, KX, hb, hsp, hF⟩ := F w mg fa _ Y G.T.g hmg
  exact lawG KX G.T.g G.T.b G.T.builtins G.T.nolimit hg hobj hints (Nat.le_trans hlen hn2) hr hF hb fun H hS => hsp H a ns hlen hS
end Hd

set_option maxRecDepth 100000
set_option maxHeartbeats 4000000
namespace PySem
open Sem (wp)
open AutoSeq1 (wpAny_loadPart')
section
variable {prog : Program} {w : World} {A : Around} {E : Value → Shared → Prop} {s : Shared}
end
end PySem
namespace Ly
open PySem PySem.Spec PyProof.Rows L2
end Ly

set_option maxRecDepth 100000
set_option maxHeartbeats 4000000
namespace Ly
open PySem PySem.Spec PyProof.Rows L2
def isDig (c : Nat) : Bool := decide (48 ≤ c) && decide (c ≤ 57)
theorem dig_in (c : Nat) : decide (c ∈ (("0123456789" : Str)).cps.toList) = isDig c := by
  have e : (("0123456789" : Str)).cps.toList = [48, 49, 50, 51, 52, 53, 54, 55, 56, 57] := by decide +kernel
  rw [e]
  unfold isDig
  by_cases h : 48 ≤ c ∧ c ≤ 57
  · obtain ⟨h1, h2⟩ := h
    rw [decide_eq_true h1, decide_eq_true h2]
    refine decide_eq_true ?_
    simp only [List.mem_cons, List.not_mem_nil, or_false]
    omega
  · have n : ¬ (c ∈ [48, 49, 50, 51, 52, 53, 54, 55, 56, 57]) := by
      simp only [List.mem_cons, List.not_mem_nil, or_false]
      omega
    rw [decide_eq_false n]
    by_cases h1 : 48 ≤ c
    · rw [decide_eq_true h1, decide_eq_false (fun h2 => h ⟨h1, h2⟩)]
      rfl
    · rw [decide_eq_false h1]
      rfl
def numVal (w : Str) : Int := ((NumText.digitsVal w.cps.toList : Nat) : Int)
def numOk (w : Str) : Bool := decide (1 ≤ w.length) && decide (w.length ≤ 10) && w.cps.toList.all isDig && !(decide (w.cps.toList.head? = some 48) && decide (1 < w.length)) && decide (numVal w < 4294967296)
def numOf (w : Str) : Option Int := if numOk w = true then some (numVal w) else none
def optV : Option Int → V
  | none => .non
  | some n => .int n
theorem int_dig {w : Str} (h : w.cps.toList.all isDig = true) (h1 : 1 ≤ w.length) (h2 : w.length ≤ 10) : intText? w = some (numVal w) := by
  have e2 : w.length = w.cps.toList.length := by show w.cps.size = _; simp
  refine intText_digits (fun c hc => ?_) (fun z => ?_) (by omega)
  · have q := List.all_eq_true.mp h c hc
    unfold isDig at q
    simpa using q
  · rw [z] at e2
    simp at e2
    omega
theorem lead_zero {m : Nat} (h : ((Nat.toDigits 10 m).map Char.toNat).head? = some 48) : m = 0 := by
  induction m using Nat.strongRecOn with
  | _ m ih =>
    by_cases hm : m < 10
    · rw [Nat.toDigits_of_lt_base hm] at h
      have e : (Nat.digitChar m).toNat = 48 := by simpa using h
      have k : ∀ d : Nat, d < 10 → (Nat.digitChar d).toNat = 48 → d = 0 := by decide
      exact k m hm e
    · have hd : m % 10 < 10 := Nat.mod_lt m (by decide)
      have t : Nat.toDigits 10 (m / 10) ++ Nat.toDigits 10 (m % 10) = Nat.toDigits 10 (10 * (m / 10) + m % 10) := Nat.toDigits_append_toDigits (by decide) (by omega) hd
      rw [Nat.div_add_mod] at t
      rw [← t, List.map_append] at h
      have hne : (Nat.toDigits 10 (m / 10)).map Char.toNat ≠ [] := fun z => by
        have h2 := PySem.W.KIN.signs_num (m / 10)
        have h3 : (Nat.toDigits 10 (m / 10)) = [] := by simpa using z
        have h4 := toDigits_len_ge 10 (m / 10)
        rw [h3] at h4
        exact absurd h4 (by decide)
      have h' : ((Nat.toDigits 10 (m / 10)).map Char.toNat).head? = some 48 := by
        cases e : (Nat.toDigits 10 (m / 10)).map Char.toNat with
        | nil => exact absurd e hne
        | cons a r => rw [e] at h; simpa using h
      have := ih (m / 10) (by omega) h'
      omega
/-- the text of a value is read as this value -/
theorem numOf_text {n : Int} (h0 : 0 ≤ n) (h1 : n < 4294967296) : numOf (Str.ofString (toString n)) = some n := by
  have hl := PySem.W.KT.len_num h0 (by omega : n < 10 ^ 10)
  have h1l : 1 ≤ (Str.ofString (toString n)).length := PySem.W.KLn.one_le h0
  obtain ⟨m, rfl⟩ := Int.eq_ofNat_of_zero_le h0
  have sg := PySem.W.KIN.signs_num m
  have hall : (Str.ofString (toString ((m : Nat) : Int))).cps.toList.all isDig = true := by
    rw [List.all_eq_true]
    intro c hc
    rw [sg] at hc
    obtain ⟨ch, hch, e⟩ := List.mem_map.mp hc
    have r := PyProof.Rows.digit_range (Nat.isDigit_of_mem_toDigits (by decide) (by decide) hch)
    rw [← e]
    unfold isDig
    simp [r.1, r.2]
  have hv : numVal (Str.ofString (toString ((m : Nat) : Int))) = (m : Int) := by
    unfold numVal
    rw [sg, PySem.W.KIN.val_back]
  have hz : ¬ ((Str.ofString (toString ((m : Nat) : Int))).cps.toList.head? = some 48 ∧ 1 < (Str.ofString (toString ((m : Nat) : Int))).length) := fun ⟨z1, z2⟩ => by
    rw [sg] at z1
    have := lead_zero z1
    subst this
    exact absurd z2 (by decide +kernel)
  unfold numOf numOk
  rw [hv, hall, decide_eq_true h1l, decide_eq_true hl, decide_eq_true h1]
  have e : (!(decide ((Str.ofString (toString ((m : Nat) : Int))).cps.toList.head? = some 48) && decide (1 < (Str.ofString (toString ((m : Nat) : Int))).length))) = true := by
    rw [Bool.not_eq_true', Bool.and_eq_false_iff]
    by_cases z : (Str.ofString (toString ((m : Nat) : Int))).cps.toList.head? = some 48
    · exact .inr (decide_eq_false fun z2 => hz ⟨z, z2⟩)
    · exact .inl (decide_eq_false z)
  rw [e]
  rfl
def portsTab : List (Str × List Str × List Str) := [("const", [], ["out"]), ("add", ["a", "b"], ["out"]), ("sub", ["a", "b"], ["out"]), ("mul", ["a", "b"], ["out"]), ("less", ["a", "b"], ["out"]), ("equal", ["a", "b"], ["out"]),
  ("pick", ["c", "a", "b"], ["out"]), ("divide", ["a", "b"], ["quotient", "rest"]), ("delay", ["in"], ["out"])]
def PortsOf (K : PySem.W.Frag) (w : World) (dP : Addr) (n : Str) (ins outs : List Str) : Prop :=
  ∃ t ti tO, KDct K w dP n (.ref t) ∧ (∀ H, SqT K H t [.ref ti, .ref tO]) ∧ (∀ H, SqT K H ti (ins.map V.str)) ∧ (∀ H, SqT K H tO (outs.map V.str))
def fs1 (n : Str) : List (Str × V) := [("name", .str n)]
def fs2 (n : Str) (i : Addr) : List (Str × V) := [("name", .str n), ("inputs", .ref i)]
def fsB (n : Str) (i o : Addr) : List (Str × V) := [("name", .str n), ("inputs", .ref i), ("outputs", .ref o)]
def fs4 (n : Str) (i o : Addr) (c : V) : List (Str × V) := [("name", .str n), ("inputs", .ref i), ("outputs", .ref o), ("constant", c)]
def fsP (n : Str) (i o : Addr) (c : V) (t : Str) : List (Str × V) := [("name", .str n), ("inputs", .ref i), ("outputs", .ref o), ("constant", c), ("text", .str t)]
theorem fsP_name {n i o c t} : (fsP n i o c t).lookup ("name" : Str) = some (.str n) := by kernel_rfl
theorem fsP_inputs {n i o c t} : (fsP n i o c t).lookup ("inputs" : Str) = some (.ref i) := by kernel_rfl
theorem fsP_const {n i o c t} : (fsP n i o c t).lookup ("constant" : Str) = some c := by kernel_rfl
theorem fsB_put1 {n : Str} : putF "name" (.str n) [] = fs1 n := by kernel_rfl
theorem fsB_put2 {n : Str} {i : Addr} : putF "inputs" (.ref i) (fs1 n) = fs2 n i := by kernel_rfl
theorem fsB_put3 {n : Str} {i o : Addr} : putF "outputs" (.ref o) (fs2 n i) = fsB n i o := by kernel_rfl
theorem fsP_put1 {n : Str} {i o : Addr} {c : V} : putF "constant" c (fsB n i o) = fs4 n i o c := by kernel_rfl
theorem fsP_put2 {n : Str} {i o : Addr} {c : V} {t : Str} : putF "text" (.str t) (fs4 n i o c) = fsP n i o c t := by kernel_rfl
/-- a primitive at x: its name, its constant, its text -/
def PrimAt (K : PySem.W.Frag) (C : Addr) (H : Hp) (x : Addr) (n : Str) (c : V) (t : Str) : Prop := ∃ dx i o, H x = some (.ins C dx (fsP n i o c t)) ∧ ∃ ins outs, (n, ins, outs) ∈ portsTab ∧ SqT K H i (ins.map V.str) ∧ SqT K H o (outs.map V.str)
theorem same_prim {K : PySem.W.Frag} {H H' : Hp} {C x : Addr} {n t : Str} {c : V} (s : Same H H') (h : PrimAt K C H x n c t) : PrimAt K C H' x n c t := by
  obtain ⟨dx, i, o, hx, ins, outs, hp, hi, ho⟩ := h
  exact ⟨dx, i, o, s _ _ hx, ins, outs, hp, same_sqt s hi, same_sqt s ho⟩
def textOf (n : Str) : Option Int → Str
  | none => n
  | some v => n ++ " " ++ Str.ofString (toString v)
def plain7 : List Str := ["add", "sub", "mul", "less", "equal", "pick", "divide"]
def portNames : List Str := ["const", "add", "sub", "mul", "less", "equal", "pick", "divide", "delay"]
def withK (n : Str) : Bool := decide (n = "const") || decide (n = "delay")
def primWords : List Str → Option (Str × Option Int)
  | [n] => if n ∈ plain7 then some (n, none) else none
  | [n, k] => if withK n = true then (numOf k).map fun v => (n, some v) else none
  | _ => none
def primOf (t : Str) : Option (Str × Option Int) := primWords (Txt.split t " ")
theorem names_ports {n : Str} (h : n ∈ portNames) : ∃ ins outs, (n, ins, outs) ∈ portsTab := by
  simp only [portNames, List.mem_cons, List.not_mem_nil, or_false] at h
  rcases h with rfl | rfl | rfl | rfl | rfl | rfl | rfl | rfl | rfl <;>
    first | exact ⟨["a", "b"], ["out"], by decide +kernel⟩ | exact ⟨[], ["out"], by decide +kernel⟩ | exact ⟨["in"], ["out"], by decide +kernel⟩ | exact ⟨["c", "a", "b"], ["out"], by decide +kernel⟩ | exact ⟨["a", "b"], ["quotient", "rest"], by decide +kernel⟩
theorem plain_port {n : Str} (h : n ∈ plain7) : n ∈ portNames := (show ∀ n ∈ plain7, n ∈ portNames by decide +kernel) n h
theorem withK_port {n : Str} (h : withK n = true) : n ∈ portNames := by
  unfold withK at h
  rw [Bool.or_eq_true] at h
  rcases h with h | h
  · rw [of_decide_eq_true h]; decide +kernel
  · rw [of_decide_eq_true h]; decide +kernel
theorem port_plain {n : Str} (h : n ∈ portNames) (h2 : withK n = false) : n ∈ plain7 := by
  have k : ∀ n ∈ portNames, withK n = false → n ∈ plain7 := by decide +kernel
  exact k n h h2
theorem plain_noK {n : Str} (h : n ∈ plain7) : withK n = false := (show ∀ n ∈ plain7, withK n = false by decide +kernel) n h
/-- a key that the table does not have -/
theorem nsIn_none {K : PySem.W.Frag} {w : World} {d : Addr} {es : Array DictEntry} {n : Nat} (D : KDict K w d es n) {l : List (Str × Tok)} (hk : es.toList.map (·.key) = l.map fun p => .str p.1 p.2) {z : Str} (hz : ∀ p ∈ l, p.1 ≠ z) : PySem.W.nsIn K d z = some none := by
  have key : ∀ e ∈ es.toList, ∃ p ∈ l, e.key = .str p.1 p.2 := fun e he => by
    have h1 : e.key ∈ es.toList.map (·.key) := List.mem_map_of_mem he
    rw [hk] at h1
    obtain ⟨p, hp, e2⟩ := List.mem_map.mp h1
    exact ⟨p, hp, e2.symm⟩
  unfold PySem.W.nsIn
  rw [D.at_]
  have h1 : es.toList.find? (fun x => x.key.isStr z) = none := by
    refine List.find?_eq_none.mpr fun e he => ?_
    obtain ⟨p, hp, e2⟩ := key e he
    rw [e2]
    show ¬ (p.1 == z) = true
    have := hz p hp
    simpa using this
  have h2 : es.toList.any (fun x => x.refKey) = false := by
    refine List.any_eq_false.mpr fun e he => ?_
    obtain ⟨p, hp, e2⟩ := key e he
    unfold DictEntry.refKey
    rw [e2]
    simp
  dsimp only
  rw [h1, h2]
  rfl
theorem spl_ne (S : List Nat) : ∀ (l acc : List Nat) (k : Nat), TL.spl S k acc l ≠ []
  | [], acc, k => by rw [TL.spl_nil]; simp
  | c :: r, acc, 0 => by
    unfold TL.spl
    split
    · simp
    · exact spl_ne S r _ 0
  | c :: r, acc, k + 1 => by
    unfold TL.spl
    exact spl_ne S r _ k
theorem spl_len (S : List Nat) : ∀ (l acc : List Nat) (k : Nat), ∀ p ∈ TL.spl S k acc l, p.length ≤ acc.length + l.length
  | [], acc, k => by
    rw [TL.spl_nil]
    intro p hp
    simp only [List.mem_singleton] at hp
    subst hp
    simp
  | c :: r, acc, 0 => by
    intro p hp
    unfold TL.spl at hp
    split at hp
    · rcases List.mem_cons.mp hp with rfl | hp
      · simp
      · have := spl_len S r [] _ p hp
        simp at this ⊢
        omega
    · have := spl_len S r _ 0 p hp
      simp at this ⊢
      omega
  | c :: r, acc, k + 1 => by
    intro p hp
    unfold TL.spl at hp
    have := spl_len S r acc k p hp
    simp at this ⊢
    omega
theorem split_ne {x y : Str} (hy : TL.tl y ≠ []) (hk : y.cps.all (· < 256) = true) : Txt.split x y ≠ [] := fun e => by
  have h := TL.split_spl x y hy (TL.kind_ok hk)
  rw [e] at h
  exact spl_ne _ _ _ _ h.symm
theorem split_lens {x y : Str} (hy : TL.tl y ≠ []) (hk : y.cps.all (· < 256) = true) : ∀ p ∈ Txt.split x y, p.length ≤ x.length := fun p hp => by
  have h := TL.split_spl x y hy (TL.kind_ok hk)
  have h2 : TL.tl p ∈ (Txt.split x y).map TL.tl := List.mem_map_of_mem hp
  rw [h] at h2
  have := spl_len _ _ _ _ _ h2
  rw [TL.len_tl, TL.len_tl]
  simpa using this
theorem sp_ne : TL.tl (" " : Str) ≠ [] := by decide +kernel
theorem sp_k : (" " : Str).cps.all (· < 256) = true := by decide +kernel
theorem split_two {n s : Str} (hn : 32 ∉ TL.tl n) (hs : 32 ∉ TL.tl s) : Txt.split (n ++ " " ++ s) " " = [n, s] := by
  have h := TL.split_join (y := (" " : Str)) (s := 32) (S := []) (by decide +kernel) sp_k (parts := [n, s]) (by simp) (fun p hp => by
    simp only [List.mem_cons, List.not_mem_nil, or_false] at hp
    rcases hp with rfl | rfl
    · exact hn
    · exact hs)
  rw [TL.join_eq] at h
  exact h
theorem split_one {n : Str} (hn : 32 ∉ TL.tl n) : Txt.split n " " = [n] := by
  have h := TL.split_join (y := (" " : Str)) (s := 32) (S := []) (by decide +kernel) sp_k (parts := [n]) (by simp) (fun p hp => by
    simp only [List.mem_cons, List.not_mem_nil, or_false] at hp
    rw [hp]
    exact hn)
  rw [TL.join_eq] at h
  exact h
theorem num_sp (n : Int) : 32 ∉ TL.tl (Str.ofString (toString n)) := fun h => (PyProof.Rows.intText_free_32 n).mp h
theorem primOf_plain {n : Str} (h : n ∈ plain7) : primOf n = some (n, none) := by
  have e : Txt.split n " " = [n] := split_one ((show ∀ n ∈ plain7, 32 ∉ TL.tl n by decide +kernel) n h)
  unfold primOf
  rw [e]
  show (if n ∈ plain7 then some (n, (none : Option Int)) else none) = _
  rw [if_pos h]
theorem primOf_K {n : Str} {v : Int} (h : n = "const" ∨ n = "delay") (h0 : 0 ≤ v) (h1 : v < 4294967296) : primOf (n ++ " " ++ Str.ofString (toString v)) = some (n, some v) := by
  have hn : 32 ∉ TL.tl n := by rcases h with rfl | rfl <;> decide +kernel
  unfold primOf
  rw [split_two hn (num_sp v)]
  show (if withK n = true then (numOf _).map (fun v => (n, some v)) else none) = _
  have hk : withK n = true := by rcases h with rfl | rfl <;> decide +kernel
  rw [if_pos hk, numOf_text h0 h1]
  rfl
end Ly

set_option maxRecDepth 100000
set_option maxHeartbeats 4000000
namespace Ly
open PySem PySem.Spec PyProof.Rows L2
def FeedAt (H : Hp) (p : Addr) (a b : Int) : Prop := H p = some (.lst [.int a, .int b]) ∧ 0 ≤ a ∧ 0 ≤ b ∧ b < 2305843009213693951
/-- a draw: any number below the bound; the feed is another one -/
def spTake : Sp := fun vs H Q _ => ∃ (p : Addr) (many a b : Int), vs = [.ref p, .int many] ∧ FeedAt H p a b ∧ 0 < many ∧ many ≤ 1099511627776 ∧
  ∀ d a' b' : Int, 0 ≤ d → d < many → FeedAt (upd H p (.lst [.int a', .int b'])) p a' b' → Q (.int d) (upd H p (.lst [.int a', .int b']))
def spPick (K : PySem.W.Frag) : Sp := fun vs H Q _ => ∃ (p q : Addr) (xs : List V) (a b : Int), vs = [.ref p, .ref q] ∧ FeedAt H p a b ∧ SqL K H q xs ∧ q ≠ p ∧ 0 < xs.length ∧ xs.length ≤ 1000 ∧
  ∀ (v : V) (a' b' : Int), v ∈ xs → FeedAt (upd H p (.lst [.int a', .int b'])) p a' b' → Q v (upd H p (.lst [.int a', .int b']))
theorem feed_same {H H' : Hp} {p : Addr} {a b : Int} (s : Same H H') (h : FeedAt H p a b) : FeedAt H' p a b := ⟨s _ _ h.1, h.2⟩
def spNum : Sp := fun vs H Q _ => ∃ z : Str, vs = [.str z] ∧ z.length ≤ 1000000 ∧ ∀ H', Same H H' → Q (optV (numOf z)) H'
theorem str_len_list (w : Str) : w.length = w.cps.toList.length := by show w.cps.size = _; simp
theorem numOf_some {z : Str} (h : numOk z = true) : numOf z = some (numVal z) := by unfold numOf; rw [if_pos h]
theorem numOf_none {z : Str} (h : numOk z = false) : numOf z = none := by unfold numOf; rw [if_neg (by rw [h]; decide)]
theorem numOf_range {z : Str} {v : Int} (h : numOf z = some v) : 0 ≤ v ∧ v < 4294967296 := by
  unfold numOf at h
  split at h
  · rename_i e
    unfold numOk at e
    simp only [Bool.and_eq_true, decide_eq_true_eq] at e
    cases h
    exact ⟨by unfold numVal; omega, e.2⟩
  · cases h
def R32 (z : Int) : Prop := 0 ≤ z ∧ z < 4294967296
theorem r32_log {v : Int} (h : R32 v) : v.natAbs.log2 < 1920 := by
  obtain ⟨h0, h1⟩ := h
  by_cases z : v.natAbs = 0
  · rw [z]; decide
  · have : v.natAbs.log2 < 32 := (Nat.log2_lt z).mpr (by omega)
    omega
def OkC (n : Str) (o : Option Int) : Prop := n ∈ portNames ∧ ∀ v, o = some v → R32 v
theorem primOf_ok {z n : Str} {o : Option Int} (h : primOf z = some (n, o)) : OkC n o := by
  unfold primOf at h
  generalize Txt.split z " " = ws at h
  match ws, h with
  | [m], h =>
    change (if m ∈ plain7 then some (m, (none : Option Int)) else none) = _ at h
    split at h
    · rename_i q
      cases h
      exact ⟨plain_port q, fun v e => by cases e⟩
    · cases h
  | [m, k], h =>
    change (if withK m = true then (numOf k).map (fun v => (m, some v)) else none) = _ at h
    split at h
    · rename_i q
      cases e : numOf k with
      | none => rw [e] at h; cases h
      | some v =>
        rw [e] at h
        cases h
        exact ⟨withK_port q, fun v' e' => by cases e'; exact numOf_range e⟩
    · cases h
  | [], h => cases h
  | _ :: _ :: _ :: _, h => cases h
theorem inV_cd (n : Str) : inV (.str n) [.str "const", .str "delay"] = withK n := by
  have e : ∀ a b : Str, eqV (.str a) (.str b) = decide (b = a) := fun a b => by
    show (a == b) = _
    by_cases h : a = b
    · rw [h]; simp
    · rw [beq_eq_false_iff_ne.mpr h, decide_eq_false (fun q => h q.symm)]
  unfold inV withK
  simp only [List.any_cons, List.any_nil, e, Bool.or_false]
def spBI (K : PySem.W.Frag) (C : Addr) : Sp := fun vs H Q _ => ∃ (x dx i o : Addr) (n : Str) (xs ys : List V), vs = [.ref x, .str n, .ref i, .ref o] ∧ H x = some (.ins C dx []) ∧ SqT K H i xs ∧ SqT K H o ys ∧ Q .non (upd H x (.ins C dx (fsB n i o)))
def spPI (K : PySem.W.Frag) (C : Addr) : Sp := fun vs H Q _ => ∃ (x dx : Addr) (n : Str) (c : Option Int), vs = [.ref x, .str n, optV c] ∧ H x = some (.ins C dx []) ∧ OkC n c ∧ ∀ i o, (∃ ins outs, (n, ins, outs) ∈ portsTab ∧ (∀ H, SqT K H i (ins.map V.str)) ∧ ∀ H, SqT K H o (outs.map V.str)) → Q .non (upd H x (.ins C dx (fsP n i o (optV c) (textOf n c))))
def spIpt : Sp := fun vs H Q _ => ∃ z : Str, vs = [.str z] ∧ z.length ≤ 1000000 ∧ ∀ H', Same H H' → Q (.bl (primOf z).isSome) H'
def spParse (K : PySem.W.Frag) (C : Addr) : Sp := fun vs H Q _ => ∃ (z n : Str) (c : Option Int), vs = [.ref C, .str z] ∧ z.length ≤ 1000000 ∧ primOf z = some (n, c) ∧ ∀ x H', Same H H' → H x = none → PrimAt K C H' x n (optV c) (textOf n c) → Q (.ref x) H'
end Ly

set_option maxRecDepth 100000
set_option maxHeartbeats 4000000
namespace Ly
open PySem PySem.Spec PyProof.Rows L2
/-- data of depth n and weight w at most, short leaves -/
structure Rep (n w : Nat) (d : PyData) : Prop where
  sh : d.showable = true
  nd : d.hasDict = false
  dp : d.depth ≤ n
  lv : d.leavesShort 13 = true
  wt : d.weight ≤ w
structure Reps (n w : Nat) (ds : List PyData) : Prop where
  sh : PyData.showableAll ds = true
  nd : PyData.hasDictAll ds = false
  dp : PyData.depthAll ds ≤ n
  lv : PyData.leavesShortAll 13 ds = true
  wt : PyData.weightAll ds ≤ w
theorem Rep.mono {n w n' w' : Nat} {d : PyData} (h : Rep n w d) (h1 : n ≤ n') (h2 : w ≤ w') : Rep n' w' d := ⟨h.sh, h.nd, Nat.le_trans h.dp h1, h.lv, Nat.le_trans h.wt h2⟩
theorem rep_int {n w : Nat} {i : Int} (h : i.natAbs < 10 ^ 12) (hw : 40 ≤ w) : Rep n w (.int i) := by
  have hl : i.natAbs.log2 < 40 := by
    by_cases z : i.natAbs = 0
    · rw [z]; decide
    · exact (Nat.log2_lt z).mpr (Nat.lt_of_lt_of_le h (by decide))
  refine ⟨decide_eq_true (by omega), rfl, Nat.zero_le _, decide_eq_true (PyData.shown_int_le h), ?_⟩
  show (if i == 0 then 0 else i.natAbs.log2 + 1) ≤ w
  split <;> omega
theorem rep_str {n w : Nat} {x : Str} (h : x.length ≤ w) (hc : x.cps.toList.all (fun c => decide (c < 16 ^ 8)) = true) : Rep n w (.str x) := ⟨rfl, rfl, Nat.zero_le _, hc, h⟩
theorem reps_nil {n w : Nat} : Reps n w [] := ⟨rfl, rfl, Nat.zero_le _, rfl, Nat.zero_le _⟩
theorem reps_cons {n w w1 w2 : Nat} {d : PyData} {ds : List PyData} (h : Rep n w1 d) (hs : Reps n w2 ds) (hw : w1 + 1 + w2 ≤ w) : Reps n w (d :: ds) := by
  refine ⟨?_, ?_, ?_, ?_, ?_⟩
  · simp only [PyData.showableAll, h.sh, hs.sh, Bool.and_self]
  · simp only [PyData.hasDictAll, h.nd, hs.nd, Bool.or_self]
  · simp only [PyData.depthAll]; exact Nat.max_le.mpr ⟨h.dp, hs.dp⟩
  · simp only [PyData.leavesShortAll, h.lv, hs.lv, Bool.and_self]
  · simp only [PyData.weightAll]; have := h.wt; have := hs.wt; omega
theorem reps_all {n w : Nat} : ∀ {ds : List PyData}, (∀ d ∈ ds, Rep n w d) → Reps n ((w + 1) * ds.length) ds
  | [], _ => reps_nil
  | d :: r, h => reps_cons (h d List.mem_cons_self) (reps_all fun x hx => h x (List.mem_cons_of_mem _ hx)) (by rw [List.length_cons, Nat.mul_add]; omega)
theorem Reps.mono {n w n' w' : Nat} {d : List PyData} (h : Reps n w d) (h1 : n ≤ n') (h2 : w ≤ w') : Reps n' w' d := ⟨h.sh, h.nd, Nat.le_trans h.dp h1, h.lv, Nat.le_trans h.wt h2⟩
theorem rep_tup {n w : Nat} {ds : List PyData} (h : Reps n w ds) : Rep (n + 1) w (.tuple ds) := ⟨h.sh, h.nd, Nat.succ_le_succ h.dp, h.lv, h.wt⟩
theorem rep_lst {n w : Nat} {ds : List PyData} (h : Reps n w ds) : Rep (n + 1) w (.list ds) := ⟨h.sh, h.nd, Nat.succ_le_succ h.dp, h.lv, h.wt⟩
theorem Rep.short {n w : Nat} {d : PyData} (h : Rep n w d) (hw : w ≤ 2 ^ 20) : d.shown.length ≤ sizeLine := PyData.shown_fits (B := 13) (by decide) (by decide) h.lv (Nat.le_trans h.wt hw)
theorem int_text {n : Int} (h : R32 n) : intText? (Str.ofString (toString n)) = some n := by
  have e := numOf_text h.1 h.2
  unfold numOf at e
  split at e
  · rename_i q
    have e2 := Option.some.inj e
    unfold numOk at q
    simp only [Bool.and_eq_true, decide_eq_true_eq] at q
    obtain ⟨⟨⟨⟨q1, q2⟩, q3⟩, q4⟩, q5⟩ := q
    rw [int_dig q3 q1 q2, e2]
  · cases e
mutual
theorem same_dp {K : PySem.W.Frag} {H H' : Hp} (s : Same H H') : ∀ {d : PyData} {v : V}, Dp K H v d → Dp K H' v d
  | _, _, .non => .non
  | _, _, .bl b => .bl b
  | _, _, .int i => .int i
  | _, _, .str x => .str x
  | _, _, .lst h hs => .lst (same_sql s h) (same_dps s hs)
  | _, _, .tup h hs => .tup (same_sqt s h) (same_dps s hs)
theorem same_dps {K : PySem.W.Frag} {H H' : Hp} (s : Same H H') : ∀ {ds : List PyData} {vs : List V}, DpAll K H vs ds → DpAll K H' vs ds
  | _, _, .nil => .nil
  | _, _, .cons h hs => .cons (same_dp s h) (same_dps s hs)
end
def dTx (xs : List Str) : PyData := .tuple (xs.map .str)
theorem dps_strs {K : PySem.W.Frag} {H : Hp} : ∀ (xs : List Str), DpAll K H (xs.map V.str) (xs.map .str)
  | [] => .nil
  | x :: r => .cons (.str x) (dps_strs r)
theorem ports_fun {n : Str} {ins outs ins' outs' : List Str} (h : (n, ins, outs) ∈ portsTab) (h' : (n, ins', outs') ∈ portsTab) : ins = ins' ∧ outs = outs' := by
  have k : ∀ p ∈ portsTab, ∀ q ∈ portsTab, p.1 = q.1 → p = q := by decide +kernel
  have e := k _ h _ h' rfl
  cases e
  exact ⟨rfl, rfl⟩
/-- a text of a primitive -/
structure PText (n : Str) (c : Option Int) : Prop where
  ok : OkC n c
  kc : withK n = c.isSome
theorem textOf_len {n : Str} {c : Option Int} (h : OkC n c) : (textOf n c).length ≤ 100 := by
  have hn : n.length ≤ 10 := (show ∀ n ∈ portNames, n.length ≤ 10 by decide +kernel) n h.1
  cases c with
  | none => exact Nat.le_trans hn (by decide)
  | some v =>
    have hv := h.2 v rfl
    have hls : (Str.ofString (toString v)).length ≤ 10 := PySem.W.KT.len_num hv.1 (by have := hv.2; omega : v < 10 ^ 10)
    show (n ++ " " ++ Str.ofString (toString v)).length ≤ 100
    rw [PySem.Str.length_append, PySem.Str.length_append]
    have : (" " : Str).length = 1 := by decide +kernel
    omega
theorem primOf_text {n : Str} {c : Option Int} (h : PText n c) : primOf (textOf n c) = some (n, c) := by
  cases c with
  | none => exact primOf_plain (port_plain h.ok.1 h.kc)
  | some v =>
    have hv := h.ok.2 v rfl
    refine primOf_K ?_ hv.1 hv.2
    have := h.kc
    unfold withK at this
    simpa using this
theorem split_text {n : Str} {c : Option Int} (h : PText n c) : Txt.split (textOf n c) " " = match c with | none => [n] | some v => [n, Str.ofString (toString v)] := by
  have hn : 32 ∉ TL.tl n := (show ∀ n ∈ portNames, 32 ∉ TL.tl n by decide +kernel) n h.ok.1
  cases c with
  | none => exact split_one hn
  | some v => exact split_two hn (num_sp v)
theorem kit_self {K : PySem.W.Frag} {C : Addr} : PySem.W.kitOne K (.ref C) (.ref C) = some true := by
  unfold PySem.W.kitOne
  rw [if_pos (by simp)]
theorem kit_sub {K : PySem.W.Frag} {C D : Addr} {cd : ClassData} (h1 : PySem.W.clsIn K D = some cd) (h2 : PySem.W.typeIn K (.ref D) = some (.type "type")) (h3 : PySem.W.subIn K (.ref C) (.ref D) = some true) : PySem.W.kitOne K (.ref C) (.ref D) = some true := by
  unfold PySem.W.kitOne
  split
  · rfl
  · unfold PySem.W.kitCls
    simp only [h1, h2]
    rw [if_pos (by simp)]
    exact h3
end Ly

set_option maxRecDepth 100000
set_option maxHeartbeats 4000000
namespace Ly
open PySem PySem.Spec PyProof.Rows L2
def rReprV (K : PySem.W.Frag) : List V → Hp → VK → Prop := fun xs H Q => ∃ v d, xs = [v] ∧ Dp K H v d ∧ d.showable = true ∧ d.hasDict = false ∧ d.depth ≤ 60 ∧ d.shown.length ≤ sizeLine ∧ Q (.str d.shown) H
theorem call_reprV {X : Cx} (K : PySem.W.Frag) (hg : Idle X.A) (hu : X.A.units + 64 < cLine) (hK : X.K = K := by rfl) : CallR X (.builtin "repr") (rReprV K) := by
  subst hK
  intro pins s σ H xs us Q I r h
  obtain ⟨v, d, rfl, hd, hs, hn, hdp, hz, q⟩ := h
  have rr := r
  obtain ⟨u, rfl, ru⟩ := vals1 r
  cases hd with
  | non =>
    cases ru
    exact PySem.P.repr_of_none ⟨.str "None", H, I.tok _, ⟨_, rfl⟩, q⟩
  | bl b =>
    cases ru
    exact PySem.P.repr_of_bool ⟨.str (if b then "True" else "False"), H, I.tok _, ⟨_, rfl⟩, q⟩
  | int i =>
    obtain ⟨t, rfl⟩ := ru
    exact PySem.P.repr_of_int (of_decide_eq_true hs) ⟨.str (toString i), H, I.tok _, ⟨_, rfl⟩, q⟩
  | str x =>
    obtain ⟨t, rfl⟩ := ru
    exact PySem.P.repr_of_str ⟨.str (reprText x), H, I.tok _, ⟨_, rfl⟩, q⟩ hz
  | lst hq ha => exact call_repr (X := X) X.K hg hu rfl pins s σ H _ _ Q I rr ⟨_, _, rfl, .lst hq ha, hs, hn, hdp, hz, q⟩
  | tup hq ha => exact call_repr (X := X) X.K hg hu rfl pins s σ H _ _ Q I rr ⟨_, _, rfl, .tup hq ha, hs, hn, hdp, hz, q⟩
structure OkT (n : Nat) (z : Str) : Prop where
  ln : z.length ≤ n
  sg : z.cps.toList.all (fun c => decide (c < 1114112)) = true
theorem OkT.mono {n m : Nat} {z : Str} (h : OkT n z) (k : n ≤ m) : OkT m z := ⟨Nat.le_trans h.ln k, h.sg⟩
theorem inV_mem (z : Str) : ∀ l : List Str, inV (.str z) (l.map V.str) = decide (z ∈ l) := fun l => by
  have e : ∀ a b : Str, eqV (.str a) (.str b) = decide (b = a) := fun a b => by
    show (a == b) = _
    by_cases h : a = b
    · rw [h]; simp
    · rw [beq_eq_false_iff_ne.mpr h, decide_eq_false (fun q => h q.symm)]
  unfold inV
  induction l with
  | nil => simp
  | cons a r ih =>
    rw [List.map_cons, List.any_cons, ih, e]
    by_cases h : z = a
    · rw [decide_eq_true h, Bool.true_or, decide_eq_true (by rw [h]; exact List.mem_cons_self)]
    · rw [decide_eq_false h, Bool.false_or]
      by_cases h2 : z ∈ r
      · rw [decide_eq_true h2, decide_eq_true (List.mem_cons_of_mem _ h2)]
      · rw [decide_eq_false h2, decide_eq_false fun q => (List.mem_cons.mp q).elim h h2]
def SameX (p : Addr) (H H' : Hp) : Prop := ∀ b u, b ≠ p → H b = some u → H' b = some u
theorem sx_of {p : Addr} {H H' : Hp} (s : Same H H') : SameX p H H' := fun b u _ e => s b u e
theorem SameX.trans {p : Addr} {H H1 H2 : Hp} (a : SameX p H H1) (b : SameX p H1 H2) : SameX p H H2 := fun c u n e => b c u n (a c u n e)
theorem sx_put {p : Addr} {H H' : Hp} {o : HO} (s : SameX p H H') : SameX p H (upd H' p o) := fun b u n e => by
  rw [upd_ne n]
  exact s b u n e
theorem sx_new {p q : Addr} {H H' : Hp} {o : HO} (s : SameX p H H') (hq : H' q = none) : SameX p H (upd H' q o) := fun b u n e => by
  have q1 := s b u n e
  rw [upd_ne (ne_of_none q1 hq)]
  exact q1
theorem feed_new {H : Hp} {p q : Addr} {a b : Int} {o : HO} (h : FeedAt H p a b) (hq : H q = none) : FeedAt (upd H q o) p a b := feed_same (same_new hq) h
structure TsOk (ts : List V) (n : Nat) : Prop where
  len : ts.length = n
  all : ∀ v ∈ ts, ∃ z, v = V.str z ∧ OkT 6000 z
  nine : ∀ v ∈ ts.take 9, ∃ z, v = V.str z ∧ OkT 20 z
theorem TsOk.app {ts us : List V} {n m : Nat} (h : TsOk ts n) (h9 : 9 ≤ n) (hm : us.length = m) (hu : ∀ v ∈ us, ∃ z, v = V.str z ∧ OkT 6000 z) : TsOk (ts ++ us) (n + m) := by
  refine ⟨by rw [List.length_append, h.len, hm], fun v hv => ?_, fun v hv => ?_⟩
  · rcases List.mem_append.mp hv with q | q
    · exact h.all v q
    · exact hu v q
  · rw [List.take_append_of_le_length (by rw [h.len]; exact h9)] at hv
    exact h.nine v hv
end Ly

set_option maxRecDepth 100000
set_option maxHeartbeats 4000000
namespace Ly
open PySem PySem.Spec PyProof.Rows L2
def isLet (c : Nat) : Bool := decide (97 ≤ c) && decide (c ≤ 122)
theorem let_in (c : Nat) : decide (c ∈ (("abcdefghijklmnopqrstuvwxyz" : Str)).cps.toList) = isLet c := by
  have e : (("abcdefghijklmnopqrstuvwxyz" : Str)).cps.toList = [97, 98, 99, 100, 101, 102, 103, 104, 105, 106, 107, 108, 109, 110, 111, 112, 113, 114, 115, 116, 117, 118, 119, 120, 121, 122] := by decide +kernel
  rw [e]
  unfold isLet
  by_cases h : 97 ≤ c ∧ c ≤ 122
  · obtain ⟨h1, h2⟩ := h
    rw [decide_eq_true h1, decide_eq_true h2]
    refine decide_eq_true ?_
    simp only [List.mem_cons, List.not_mem_nil, or_false]
    omega
  · have n : ¬ (c ∈ [97, 98, 99, 100, 101, 102, 103, 104, 105, 106, 107, 108, 109, 110, 111, 112, 113, 114, 115, 116, 117, 118, 119, 120, 121, 122]) := by
      simp only [List.mem_cons, List.not_mem_nil, or_false]
      omega
    rw [decide_eq_false n]
    by_cases h1 : 97 ≤ c
    · rw [decide_eq_true h1, decide_eq_false (fun h2 => h ⟨h1, h2⟩)]
      rfl
    · rw [decide_eq_false h1]
      rfl
def reserved : List Str := ["block", "part", "end", "self"]
def nameOk (z : Str) : Bool := decide (1 ≤ z.length) && decide (z.length ≤ 8) && !decide (z ∈ reserved) && z.cps.toList.all isLet
def spName : Sp := fun vs H Q _ => ∃ z : Str, vs = [.str z] ∧ z.length ≤ 1000000 ∧ ∀ H', Same H H' → Q (.bl (nameOk z)) H'
def blockOk (z : Str) : Bool := (primOf z).isSome || (nameOk z && !decide (z ∈ portNames))
theorem kit_str {K : PySem.W.Frag} : PySem.W.kitOne K (.type "str") (.type "str") = some true := by
  unfold PySem.W.kitOne
  rw [if_pos (by simp)]
def dPair (p : Str × Str) : PyData := dTx [p.1, p.2]
def dWire (p : (Str × Str) × (Str × Str)) : PyData := .tuple [dPair p.1, dPair p.2]
theorem pg_tupK {X : Cx} (K : PySem.W.Frag) {es : List Expr} {k : Nat} {t : TGs} {n : Nat} {pos : Pos} (hc : X.calm = true) (h : PGs X es t) (hK : X.K = K := by rfl) (hn : (assignEach es X.env).length = n := by rfl) (hst : (assignEach es X.env).findIdx? (·.1) = none := by rfl) :
    PG X (.Tuple es k pos) (gTup K n t) := hK ▸ pg_tup hc h hn hst
theorem ip_ext {X : Cx} : PIp X .Add rExt2 := fun pins s σ H x y v u Q I rx ry h => iop_ext pins s σ H x y v u Q I rx ry h
end Ly

set_option maxRecDepth 100000
set_option maxHeartbeats 4000000
namespace Ly
open PySem PySem.Spec PyProof.Rows L2
inductive At where
  | i (n : Int)
  | s (x : Str)
deriving DecidableEq
def atV : At → V
  | .i n => .int n
  | .s x => .str x
def AtR (a : At) (u : Value) : Prop := RelV (atV a) u
/-- v is a tuple of the atoms as and of further items -/
def IsT (h : Heap) (v : Value) (as : List At) : Prop := ∃ (a : Addr) (o : Obj) (us tl : List Value) (n : Nat), v = .ref a ∧ h.get? a = some o ∧ o.cls = .type "tuple" ∧ o.data = .seq (us ++ tl).toArray n ∧ Paired AtR as us
theorem IsT.keeps {h h' : Heap} {v : Value} {as : List At} (p : IsT h v as) (k : ∀ b o, h.get? b = some o → o.cls = .type "tuple" → h'.get? b = some o) : IsT h' v as := by
  obtain ⟨a, o, us, tl, n, e, ho, hc, hd⟩ := p
  exact ⟨a, o, us, tl, n, e, k _ _ ho hc, hc, hd⟩
section
variable {prog : Program} {w : World} {A : Around} {s : Shared}
end
end Ly

set_option maxRecDepth 100000
set_option maxHeartbeats 4000000
namespace Ly
open PySem PySem.Spec PyProof.Rows L2
abbrev Prt := Str × Str
/-- what a reader has read -/
structure RSt where
  name : Option Str
  ins : List Str
  outs : List Str
  parts : List Prt
  wires : List (Prt × Prt)
  done : Bool
def nameV : Option Str → V
  | none => .non
  | some n => .str n
def fsR (n : V) (i o p w : Addr) (d : Bool) : List (Str × V) := [("name", n), ("inputs", .ref i), ("outputs", .ref o), ("parts", .ref p), ("wires", .ref w), ("is_done", .bl d)]
def keyP (p : Prt) : List Key := [Sum.inr p.1, Sum.inr p.2]
/-- the wires of a reader: a dict with pairs as keys, pairs as values -/
def WiresAt (K : PySem.W.Frag) (H : Hp) (w : Addr) (ws : List (Prt × Prt)) : Prop := ∃ kvs : List (List Key × V), H w = some (.dT kvs) ∧ Paired (fun (x : Prt × Prt) (q : List Key × V) => q.1 = keyP x.1 ∧ ∃ t, q.2 = V.ref t ∧ SqT K H t [.str x.2.1, .str x.2.2]) ws kvs
def PartsAt (K : PySem.W.Frag) (H : Hp) (p : Addr) (ps : List Prt) : Prop := ∃ xs : List V, H p = some (.lst xs) ∧ DpAll K H xs (ps.map dPair)
structure ReaderAt (K : PySem.W.Frag) (C : Addr) (H : Hp) (x dx i o p w : Addr) (r : RSt) : Prop where
  obj : H x = some (.ins C dx (fsR (nameV r.name) i o p w r.done))
  ins : SqT K H i (r.ins.map V.str)
  outs : SqT K H o (r.outs.map V.str)
  parts : PartsAt K H p r.parts
  wires : WiresAt K H w r.wires
end Ly

set_option maxRecDepth 100000
set_option maxHeartbeats 4000000
namespace Ly
open PySem PySem.Spec PyProof.Rows L2
def kOf (e : Int × Value) : Str := match e.2 with | .str k _ => k | _ => Str.empty
def GoodT (w : World) (e : Int × Value) : Prop := ∃ k tk, e.2 = Value.str k tk ∧ e.1 = hashStr w k
/-- the set of texts at a, L its members, each once -/
def SetS (w : World) (h : Heap) (a : Addr) (L : List Str) : Prop :=
  ∃ o es ep t, h.get? a = some o ∧ o.ExactSet ∧ o.data = .set es ep t ∧ (∀ e ∈ es.toList, GoodT w e) ∧ (es.toList.map kOf).Perm L ∧ L.Nodup ∧
    es.size < scanBound ∧ t.fits es.size = true ∧ Ris t.place.toList ∧ (w.params.followText "set-order" = true ∨ t.led = true)
section
variable {P : Program} {w : World} {h h' : Heap} {a : Addr} {L : List Str}
theorem SetS.at (R : SetS w h a L) (k : ∀ o, h.get? a = some o → h'.get? a = some o) : SetS w h' a L := by
  obtain ⟨o, es, ep, t, ho, r⟩ := R
  exact ⟨o, es, ep, t, k o ho, r⟩
theorem goodT_elems {l : List (Int × Value)} (g : ∀ e ∈ l, GoodT w e) : ElemsOf (strKind P w) l := fun e he => by
  obtain ⟨k, tk, h1, h2⟩ := g e he
  exact ⟨⟨k, by rw [h1]; exact strKind_is P w k tk, h2⟩, by rw [h1] <;> rfl⟩
theorem goodT_is {e : Int × Value} (g : GoodT w e) (k : Str) : (strKind P w).is k e.2 = true ↔ kOf e = k := by
  obtain ⟨k0, tk, h1, _⟩ := g
  unfold kOf
  rw [h1]
  show ((k0 == k) = true) ↔ k0 = k
  exact beq_iff_eq
theorem goodT_mem {l : List (Int × Value)} (g : ∀ e ∈ l, GoodT w e) (k : Str) : k ∈ l.map kOf ↔ ∃ e ∈ l, (strKind P w).is k e.2 = true := by
  rw [List.mem_map]
  constructor
  · rintro ⟨e, he, q⟩
    exact ⟨e, he, (goodT_is (g e he) k).2 q⟩
  · rintro ⟨e, he, q⟩
    exact ⟨e, he, (goodT_is (g e he) k).1 q⟩
end
/-- one more -/
def addS (L : List Str) (k : Str) : List Str := if k ∈ L then L else L ++ [k]
/-- each once, in the order they are met -/
def dedS (xs : List Str) : List Str := xs.foldl addS []
theorem addS_nodup {L : List Str} {k : Str} (h : L.Nodup) : (addS L k).Nodup := by
  unfold addS
  split
  · exact h
  · rename_i hk
    rw [List.nodup_append]
    refine ⟨h, List.nodup_cons.mpr ⟨by simp, List.nodup_nil⟩, fun a ha b hb e => ?_⟩
    rw [List.mem_singleton.mp hb] at e
    exact hk (e ▸ ha)
theorem fold_len : ∀ (xs : List Str) {L : List Str}, (xs.foldl addS L).length ≤ L.length + xs.length
  | [], _ => Nat.le_refl _
  | y :: r, L => by
    have := fold_len r (L := addS L y)
    have h2 : (addS L y).length ≤ L.length + 1 := by
      unfold addS
      split
      · omega
      · rw [List.length_append, List.length_singleton]
        omega
    rw [List.length_cons]
    show (r.foldl addS (addS L y)).length ≤ _
    omega
theorem ded_len (xs : List Str) : (dedS xs).length ≤ xs.length := by
  have := fold_len xs (L := [])
  rw [List.length_nil, Nat.zero_add] at this
  exact this
theorem fold_same : ∀ (xs : List Str) {L : List Str}, (L ++ xs).Nodup → xs.foldl addS L = L ++ xs
  | [], L, _ => by simp
  | y :: r, L, h => by
    have hy : y ∉ L := fun hm => by
      have := (List.nodup_append.mp h).2.2 y hm y List.mem_cons_self
      exact this rfl
    show r.foldl addS (addS L y) = _
    have e : addS L y = L ++ [y] := if_neg hy
    rw [e, fold_same r (by rw [List.append_assoc]; exact h), List.append_assoc]
    rfl
theorem ded_same {xs : List Str} (h : xs.Nodup) : dedS xs = xs := by
  have := fold_same xs (L := []) (by simpa using h)
  simpa [dedS] using this
section
variable {P : Program} {w : World} {A : Around} {E : Value → Shared → Prop} {s : Shared} {a : Addr} {L : List Str}
theorem setS_tail {g : Bool → Sem Unit} (hg : ∀ (b : Bool) (s₁ : Shared) (Q' : Unit → Shared → Prop), Q' () s₁ → wpAny (model P w) A (g b) Q' E s₁)
    {o : Obj} {es : Array (Int × Value)} {ep : Nat} {t : SetTable} (ho : s.heap.get? a = some o) (hex : o.ExactSet) (hd : o.data = .set es ep t)
    {es1 : Array (Int × Value)} {t2 : SetTable} {L' : List Str} (g1 : ∀ e ∈ es1.toList, GoodT w e) (p1 : (es1.toList.map kOf).Perm L') (nd1 : L'.Nodup)
    (hb1 : es1.size < scanBound) (hf2 : t2.fits es1.size = true) (hr : Ris t2.place.toList) (hl : w.params.followText "set-order" = true ∨ t2.led = true) {wasDummy : Bool} {R : Option Bool → Shared → Prop}
    (hR : ∀ h', Heap.SameBut a s.heap h' → SetS w h' a L' → R (some true) { s with heap := h' }) :
    wpAny (model P w) A (do
        storeSet a es1 t2
        if (!wasDummy && t2.tooFull) = true then do
            g (relayAll t2 es1 (SetTable.grown es1.size)).2.2
            storeSet a (relayAll t2 es1 (SetTable.grown es1.size)).1 (relayAll t2 es1 (SetTable.grown es1.size)).2.1
            pure (some true)
          else pure (some true)) R E s := by
  refine wpAny_bind (wpAny_storeSet_of ho hd ?_ (fits_of_scanBound hb1))
  have ho1 := store_at (es' := es1) (t' := t2) ho hd
  have sb1 := Heap.SameBut.update s.heap a (Obj.putSet es1 t2)
  split
  · have pm := relayAll_perm t2 es1 (SetTable.grown es1.size)
    have hf3 := relayAll_fits t2 es1 (SetTable.grown es1.size)
    have hr3 := relayAll_ris t2 es1 (SetTable.grown es1.size)
    have hl3 := relayAll_led t2 es1 (SetTable.grown es1.size)
    generalize relayAll t2 es1 (SetTable.grown es1.size) = Z at pm hf3 hr3 hl3 ⊢
    obtain ⟨es2, t3, gave⟩ := Z
    dsimp only at pm hf3 hr3 hl3 ⊢
    have hsz : es2.size = es1.size := by rw [← Array.length_toList, pm.length_eq, Array.length_toList]
    have hb2 : es2.size < scanBound := by rw [hsz]; exact hb1
    refine wpAny_bind (hg _ _ _ ?_)
    refine wpAny_bind (wpAny_storeSet_of ho1 rfl ?_ (fits_of_scanBound hb2))
    have ho2 := store_at (es' := es2) (t' := t3) ho1 rfl
    refine wpAny_pure (hR _ (sb1.trans (Heap.SameBut.update _ a _)) ?_)
    exact ⟨_, es2, _, t3, ho2, hex, rfl, fun e he => g1 e (pm.mem_iff.mp he), (pm.map kOf).trans p1, nd1, hb2, hf3, hr3,
      hl.imp id fun z => by rw [hl3]; exact z⟩
  · exact wpAny_pure (hR _ sb1 ⟨_, es1, _, t2, ho1, hex, rfl, g1, p1, nd1, hb1, hf2, hr, hl⟩)
theorem setS_hashed {k : Str} {tk : Tok} {Q : Bool → Shared → Prop} (R : SetS w s.heap a L) (room : L.length + 1 < scanBound)
    (hQ : ∀ h', Heap.SameBut a s.heap h' → SetS w h' a (addS L k) → Q (!decide (k ∈ L)) { s with heap := h' }) :
    wpAny (model P w) A (setAddHashed a (.str k tk) ((strKind P w).hash k)) Q E s := by
  obtain ⟨o, es, ep, t, ho, hex, hd, g, pm0, nd, hb, hf, hr, hl⟩ := R
  have hkey : (strKind P w).is k (.str k tk) = true := strKind_is P w k tk
  have hsc : (Value.str k tk).scannable = true := rfl
  have hel : ElemsOf (strKind P w) es.toList := goodT_elems g
  have hn : es.size = L.length := by rw [← pm0.length_eq, List.length_map, Array.length_toList]
  unfold setAddHashed setAddHashedIn
  refine wpAny_holding (wpAny_bind (wpAny_setState_of ho hd hf ?_))
  dsimp only
  rw [byScan_of hsc hb hel]
  simp only [↓reduceIte]
  unfold setAddByScan
  refine wpAny_bind ?_
  refine wpAny_bind (wpAny_rule ?_)
  refine wpAny_bind (wpAny_setScan_of hkey ho hd hf hel ?_)
  cases hfi : List.findIdx? (fun e => (strKind P w).is k e.2) es.toList with
  | some j =>
    dsimp only
    obtain ⟨hj, pj, _⟩ := List.findIdx?_eq_some_iff_getElem.mp hfi
    have hSk : k ∈ L := pm0.mem_iff.mp ((goodT_mem (P := P) (w := w) g k).2 ⟨es.toList[j], List.getElem_mem hj, pj⟩)
    refine wpAny_pure (wpAny_pure ?_)
    have q := hQ s.heap (Heap.SameBut.refl a s.heap) ⟨o, es, ep, t, ho, hex, hd, g, by
      unfold addS
      rw [if_pos hSk]
      exact pm0, addS_nodup nd, hb, hf, hr, hl⟩
    rw [decide_eq_true hSk] at q
    exact q
  | none =>
    dsimp only
    have hnk : k ∉ L := fun z => by
      obtain ⟨e, he, q⟩ := (goodT_mem (P := P) (w := w) g k).1 (pm0.mem_iff.mpr z)
      have c := List.findIdx?_eq_none_iff.mp hfi e he
      rw [q] at c
      cases c
    have hgw : ∀ (b : Bool) {s₁ : Shared} {Q' : Unit → Shared → Prop}, Q' () s₁ → wpAny (model P w) A (match b with | true => rule "set.scan.the-table-gave-way" | false => pure ()) Q' E s₁ :=
      fun b s₁ Q' q => by cases b <;> first | exact wpAny_pure q | exact wpAny_rule q
    have pm := layNew_perm t es ((strKind P w).hash k) (.str k tk)
    have hf1 := layNew_fits t es ((strKind P w).hash k) (.str k tk)
    have hr1 := layNew_ris t es ((strKind P w).hash k) (.str k tk) hr
    have hl1 := layNew_led t es ((strKind P w).hash k) (.str k tk)
    generalize layNew t es ((strKind P w).hash k) (.str k tk) = Z at pm hf1 hr1 hl1 ⊢
    obtain ⟨es1, t1, wasDummy, gave⟩ := Z
    dsimp only at pm hf1 hr1 hl1 ⊢
    rw [Array.toList_push] at pm
    have pc : es1.toList.Perm (((strKind P w).hash k, Value.str k tk) :: es.toList) := pm.trans (List.perm_append_singleton _ _)
    have pk : (es1.toList.map kOf).Perm (k :: es.toList.map kOf) := pc.map kOf
    have eL : addS L k = L ++ [k] := if_neg hnk
    have p1 : (es1.toList.map kOf).Perm (addS L k) := by
      rw [eL]
      exact pk.trans ((List.Perm.cons k pm0).trans (List.perm_append_singleton _ _).symm)
    have g1 : ∀ e ∈ es1.toList, GoodT w e := fun e he => by
      rcases List.mem_cons.mp (pc.mem_iff.mp he) with z | z
      · rw [z]; exact ⟨k, tk, rfl, rfl⟩
      · exact g e z
    have nd1 : (addS L k).Nodup := addS_nodup nd
    have hsz : es1.size = L.length + 1 := by rw [← Array.length_toList, pc.length_eq, List.length_cons, Array.length_toList, hn]
    have hb1 : es1.size < scanBound := by rw [hsz]; exact room
    have hled : w.params.followText "set-order" = true ∨ t1.led = true := hl.imp id fun z => by rw [hl1]; exact z
    have fin : ∀ h', Heap.SameBut a s.heap h' → SetS w h' a (addS L k) → Q true { s with heap := h' } := fun h' sb r => by
      have q := hQ h' sb r
      rw [decide_eq_false hnk] at q
      exact q
    refine wpAny_bind (hgw _ ?_)
    split
    · refine wpAny_bind ?_
      rw [hashByValue_scannable 8 hsc]
      refine wpAny_pure ?_
      refine setS_tail ?_ ho hex hd g1 p1 nd1 hb1 ?_ ?_ ?_ ?_
      · intro b s₁ Q' q; cases b <;> first | exact wpAny_pure q | exact wpAny_rule q
      · first | (split <;> first | exact hf1 | exact SetTable.fits_plain_off hf1) | exact hf1
      · first | (split <;> exact hr1) | exact hr1
      · first | (split <;> exact hled) | exact hled
      · intro h' sb r; dsimp only; exact wpAny_pure (fin h' sb r)
    · refine wpAny_bind (wpAny_pure ?_)
      simp only [↓reduceIte]
      refine setS_tail ?_ ho hex hd g1 p1 nd1 hb1 hf1 hr1 hled ?_
      · intro b s₁ Q' q; cases b <;> first | exact wpAny_pure q | exact wpAny_rule q
      · intro h' sb r; dsimp only; exact wpAny_pure (fin h' sb r)
theorem setS_fresh {h : Heap} {a : Addr} (ho : h.get? a = some { cls := .type "set", dict := none, data := .set #[] 0 (.fresh 0 0 (!w.params.followText "set-order")) }) : SetS w h a [] :=
  ⟨_, #[], 0, _, ho, ⟨rfl, rfl, rfl⟩, rfl, (fun e he => by simp at he), by simp, List.nodup_nil, (by decide), (by rfl), List.Pairwise.nil, by
    show _ ∨ (!w.params.followText "set-order") = true
    cases w.params.followText "set-order"
    · exact .inr rfl
    · exact .inl rfl⟩
theorem setS_loop {I : Addr} {fp wr : List Addr} {G : Array GenState → Array GenState → Prop} {n : Nat} {Pv : Nat → Value → Prop} {St : Nat → Shared → Prop} {R : Result → Shared → Prop}
    (W : WalksS P w A.in1 I fp wr G n Pv St) (S : Addr) (hSf : S ∉ fp) (xs : List Str) (hn : n = xs.length) (hb : xs.length + 1 < scanBound) (hval : ∀ i v, Pv i v → ∃ k t, xs[i]? = some k ∧ v = .str k t) :
    ∀ (k i : Nat) (s : Shared), n - i = k → i ≤ n → St i s → SetS w s.heap S (dedS (xs.take i)) →
      (∀ s', Moved (S :: wr) G s s' → SetS w s'.heap S (dedS xs) → R (.ok (.ret .none)) s') →
      codeAny (model P w) A (.builtin "set.update.loop" ⟨[.ref S, .ref I], []⟩) R s := by
  have hSw : S ∉ wr := fun h => hSf (W.sub _ h)
  have hsub : ∀ b ∈ wr, b ∈ S :: wr := fun b hb => List.mem_cons_of_mem _ hb
  intro k
  induction k with
  | zero =>
    intro i s hk' hi hst hS hR
    have hin : i = n := by omega
    subst hin
    refine codeAny_builtin F.entry_set_update_loop ?_
    rw [Around.under_plainId F.plain_set_update_loop _]
    show wpAny _ A.in1 (pyNext (.ref I) >>= _) _ _ s
    refine wpAny_bind (W.done s _ _ hst fun s' hm => ?_)
    show wpAny _ A.in1 (ret Value.none) _ _ s'
    have e : xs.take i = xs := List.take_of_length_le (by omega)
    rw [e] at hS
    exact wpAny_pure (hR s' (hm.mono hsub) (hS.at fun o e => hm.heap S o hSw e))
  | succ k ih =>
    intro i s hk' hi hst hS hR
    have hlt : i < n := by omega
    refine codeAny_builtin F.entry_set_update_loop ?_
    rw [Around.under_plainId F.plain_set_update_loop _]
    show wpAny _ A.in1 (pyNext (.ref I) >>= _) _ _ s
    refine wpAny_bind (W.item i s _ _ hlt hst fun v s' hP hst' hm => ?_)
    obtain ⟨z, t, hz, rfl⟩ := hval i v hP
    have hS' : SetS w s'.heap S (dedS (xs.take i)) := hS.at fun o e => hm.heap S o hSw e
    show wpAny _ A.in1 (holding [Value.str z t] (setAdd S (.str z t)) >>= _) _ _ s'
    refine wpAny_bind (wpAny_holding ?_)
    unfold setAdd
    refine wpAny_holding ?_
    refine wpAny_bind ((strKind P w).pyHash (k := z) (strKind_is _ _ _ _) ?_)
    have hlen := ded_len (xs.take i)
    rw [List.length_take] at hlen
    refine setS_hashed (s := { s' with toks := s'.toks + 1 }) hS' (by omega) fun h' hsb hS2 => ?_
    have hS3 : SetS w h' S (dedS (xs.take (i + 1))) := by
      have e : dedS (xs.take (i + 1)) = addS (dedS (xs.take i)) z := by
        rw [List.take_add_one, hz]
        show (xs.take i ++ [z]).foldl addS [] = _
        rw [List.foldl_append]
        rfl
      rw [e]
      exact hS2
    refine wpAny_pure ⟨plainId_quiet F.plain_set_update_loop _, ih (i + 1) _ (by omega) hlt (W.frame _ s' _ _ hst' (Nat.le_succ _) fun b hb o e => ?_) hS3 fun s'' hm'' hS'' => ?_⟩
    · rw [hsb.2 b (fun h : b = S => hSf (by rw [← h]; exact hb))]; exact e
    · refine hR s'' (Moved.trans W.gtrans ((hm.mono hsub).then_heap (Nat.le_succ _) fun b o hb e => ?_) hm'') hS''
      rw [hsb.2 b (fun h : b = S => hb (by rw [h]; exact List.mem_cons_self))]; exact e
set_option maxRecDepth 100000 in
end
/-- the set of texts at a -/
def SetSO (w : World) (a : Addr) (L : List Str) : HO := .ext fun h => SetS w h a L
section
variable {X : Cx}
theorem setSO_new {P : Program} {w : World} {H : Hp} {h : Heap} {a : Addr} {L : List Str} (R : SetS w h a L) : ObjOk P w H h a (SetSO w a L) := by
  have ⟨o, _, _, _, ho, _⟩ := R
  exact ⟨R, ⟨o, ho⟩, fun h1 h2 p k => SetS.at p k⟩
/-- len(set) -/
def rLenSet (w : World) : List V → Hp → VK → Prop := fun vs H Q => ∃ (a : Addr) (L : List Str), vs = [.ref a] ∧ H a = some (SetSO w a L) ∧ Q (.int (L.length : Nat)) H
theorem cr_lenSetS (w : World) (hw : X.w = w := by rfl) : CallR X (.builtin "len") (rLenSet w) := by
  subst hw
  intro pins s σ H vs us Q I r h
  obtain ⟨a, L, rfl, ha, q⟩ := h
  rw [Vals.ref1 r]
  have R : SetS X.w s.heap a L := (I.hok a _ ha).1
  obtain ⟨o, es, ep, t, ho, hex, hd, g, pm, nd, hb, hf, _⟩ := R
  have hn : es.size = L.length := by rw [← pm.length_eq, List.length_map, Array.length_toList]
  exact call_len_set ho hex hd hf (by unfold scanBound at hb; omega) ⟨.int (L.length : Nat), H, I.tok _, ⟨_, by rw [hn]⟩, q⟩
end
end Ly

set_option maxRecDepth 100000
set_option maxHeartbeats 4000000
namespace Ly
open PySem PySem.Spec PyProof.Rows L2
section
variable {prog : Program} {w : World} {A : Around} {E : Value → Shared → Prop} {s : Shared}
end
end Ly

set_option maxRecDepth 100000
set_option maxHeartbeats 4000000
namespace Ly
open PySem PySem.Spec PyProof.Rows L2
/-- all stands but the objects at l -/
def SameL (l : List Addr) (H H' : Hp) : Prop := ∀ b u, b ∉ l → H b = some u → H' b = some u
theorem SameL.refl (l : List Addr) (H : Hp) : SameL l H H := fun _ _ _ e => e
theorem SameL.trans {l : List Addr} {H H1 H2 : Hp} (a : SameL l H H1) (b : SameL l H1 H2) : SameL l H H2 := fun c u n e => b c u n (a c u n e)
theorem ReaderAt.ne {K : PySem.W.Frag} {C : Addr} {H : Hp} {x dx i o p w : Addr} {r : RSt} (h : ReaderAt K C H x dx i o p w r) : x ≠ p ∧ x ≠ w ∧ p ≠ w := by
  obtain ⟨xs, hx, _⟩ := h.parts
  obtain ⟨ys, hy, _⟩ := h.wires
  have ho := h.obj
  refine ⟨fun e => ?_, fun e => ?_, fun e => ?_⟩
  · subst e
    rw [hx] at ho
    cases ho
  · subst e
    rw [hy] at ho
    cases ho
  · subst e
    rw [hy] at hx
    cases hx
theorem paired_imp {α β : Type} {R S : α → β → Prop} (f : ∀ x y, R x y → S x y) : ∀ {xs : List α} {ys : List β}, Paired R xs ys → Paired S xs ys
  | _, _, .nil => .nil
  | _, _, .cons h t => .cons (f _ _ h) (paired_imp f t)
theorem ReaderAt.same {K : PySem.W.Frag} {C : Addr} {H H' : Hp} {x dx i o p w : Addr} {r : RSt} (h : ReaderAt K C H x dx i o p w r) (s : Same H H') : ReaderAt K C H' x dx i o p w r := by
  obtain ⟨xs, hx, hd⟩ := h.parts
  obtain ⟨ys, hy, hp⟩ := h.wires
  exact ⟨s _ _ h.obj, same_sqt s h.ins, same_sqt s h.outs, ⟨xs, s _ _ hx, same_dps s hd⟩, ⟨ys, s _ _ hy, paired_imp (fun _ _ z => ⟨z.1, by
    obtain ⟨t, e, ht⟩ := z.2
    exact ⟨t, e, same_sqt s ht⟩⟩) hp⟩⟩
section
variable {κ : Type} [DecidableEq κ]
end
theorem paired_snoc {α β : Type} {R : α → β → Prop} : ∀ {xs : List α} {ys : List β} {x : α} {y : β}, Paired R xs ys → R x y → Paired R (xs ++ [x]) (ys ++ [y])
  | _, _, _, _, .nil, h => .cons h .nil
  | _, _, _, _, .cons h t, h2 => .cons h (paired_snoc t h2)
theorem paired_len {α β : Type} {R : α → β → Prop} : ∀ {xs : List α} {ys : List β}, Paired R xs ys → xs.length = ys.length
  | _, _, .nil => rfl
  | _, _, .cons _ t => congrArg (· + 1) (paired_len t)
end Ly

set_option maxRecDepth 100000
set_option maxHeartbeats 4000000
namespace Ly
open PySem PySem.Spec PyProof.Rows L2
abbrev sl (z : Str) : List Nat := z.cps.toList
end Ly

set_option maxRecDepth 100000
set_option maxHeartbeats 4000000
namespace Ly
open PySem PySem.Spec PyProof.Rows L2
/-- where a part stands -/
def posOf (ps : List Prt) (a : Str) : Nat := (ps.map (·.1)).idxOf a
theorem nameOk_len {z : Str} (h : nameOk z = true) : 1 ≤ z.length ∧ z.length ≤ 8 := by
  unfold nameOk at h
  simp only [Bool.and_eq_true, decide_eq_true_eq] at h
  exact h.1.1
theorem pl_get' {α β : Type} {R : α → β → Prop} : ∀ {xs : List α} {ys : List β} {i : Nat} {x : α}, Paired R xs ys → xs[i]? = some x → ∃ y, ys[i]? = some y ∧ R x y
  | _, _, _, _, .nil, h => by simp at h
  | _, _, 0, _, .cons h t, e => by
    rw [List.getElem?_cons_zero] at e
    cases e
    exact ⟨_, rfl, h⟩
  | _, _, i + 1, _, .cons h t, e => by
    rw [List.getElem?_cons_succ] at e
    obtain ⟨y, h1, h2⟩ := pl_get' t e
    exact ⟨y, by rw [List.getElem?_cons_succ]; exact h1, h2⟩
def InnAt (H : Hp) (ps : List Prt) (t : Prt) (v : V) : Prop := ∃ a q, v = .ref a ∧ H a = some (.tup [.int (posOf ps t.1 : Nat), .str t.2, .ref q]) ∧ H q = some (.tup [.str t.1, .str t.2])
def TgtAt (H : Hp) (t : Prt) (v : V) : Prop := ∃ q, v = .ref q ∧ H q = some (.tup [.str t.1, .str t.2])
theorem InnAt.same {H H' : Hp} {ps : List Prt} {t : Prt} {v : V} (s : Same H H') (h : InnAt H ps t v) : InnAt H' ps t v := by
  obtain ⟨a, q, e, h1, h2⟩ := h
  exact ⟨a, q, e, s _ _ h1, s _ _ h2⟩
theorem TgtAt.same {H H' : Hp} {t : Prt} {v : V} (s : Same H H') (h : TgtAt H t v) : TgtAt H' t v := by
  obtain ⟨q, e, h2⟩ := h
  exact ⟨q, e, s _ _ h2⟩
end Ly

set_option maxRecDepth 100000
set_option maxHeartbeats 4000000
namespace Ly
open PySem PySem.Spec PyProof.Rows L2
end Ly

set_option maxRecDepth 100000
set_option maxHeartbeats 4000000
namespace Ly
open PySem PySem.Spec PyProof.Rows L2
def LowT (z : Str) : Prop := ∀ c ∈ sl z, 97 ≤ c ∧ c ≤ 122
theorem nameOk_low {z : Str} (h : nameOk z = true) : LowT z := fun c hc => by
  unfold nameOk at h
  simp only [Bool.and_eq_true] at h
  have := List.all_eq_true.mp h.2 c hc
  unfold isLet at this
  simpa using this
/-- what a diagram's data must be -/
structure DataOk (n : Str) (ins outs : List Str) (ps : List Prt) (ws : List (Prt × Prt)) : Prop where
  n : nameOk n = true ∧ n ∉ portNames
  io : (∀ y ∈ ins ++ outs, nameOk y = true) ∧ ins.length ≤ 8 ∧ outs.length ≤ 8 ∧ (ins ++ outs).Nodup
  p : ps.length ≤ 16 ∧ (∀ q ∈ ps, nameOk q.1 = true ∧ blockOk q.2 = true) ∧ (ps.map (·.1)).Nodup
  wn : (ws.map (·.1)).Nodup
  w1 : ∀ x ∈ ws, (x.1.1 = "" ∧ x.1.2 ∈ outs) ∨ (x.1.1 ∈ ps.map (·.1) ∧ nameOk x.1.2 = true)
  w2 : ∀ x ∈ ws, (x.2.1 = "" ∧ x.2.2 ∈ ins) ∨ (x.2.1 ∈ ps.map (·.1) ∧ nameOk x.2.2 = true)
end Ly

set_option maxRecDepth 100000
set_option maxHeartbeats 4000000
namespace Ly
open PySem PySem.Spec PyProof.Rows L2
def WordsOk (ws : List Str) : Prop := (∀ y ∈ ws, nameOk y = true) ∧ ws.Nodup
def spWords : Sp := fun vs H Q _ => ∃ (p : Addr) (n : Nat) (a b : Int), vs = [.ref p, .int (n : Nat)] ∧ FeedAt H p a b ∧ n ≤ 14 ∧
  ∀ q ws H' a' b', H q = none → SameX p H H' → FeedAt H' p a' b' → H' q = some (.lst (ws.map V.str)) → ws.length = n → WordsOk ws → Q (.ref q) H'
end Ly

set_option maxRecDepth 100000
set_option maxHeartbeats 4000000
namespace Ly
open PySem PySem.Spec PyProof.Rows L2
theorem cut_hi {α : Type} (f : α → V) (xs : List α) {b : Nat} (hb : b ≤ xs.length) : cutV (xs.map f) none (some (b : Int)) = (xs.take b).map f := by
  unfold cutV
  rw [List.length_map, HT.sIx_nat, HT.sIx_none, Nat.min_eq_left hb, List.drop_zero, Nat.sub_zero, ← List.map_take]
/-- a row of a part, as drawn -/
def PartAt (H : Hp) (q : Prt) (v : V) : Prop := ∃ a, v = .ref a ∧ H a = some (.tup [.str q.1, .str q.2])
theorem PartAt.same {H H' : Hp} {t : Prt} {v : V} (s : Same H H') (h : PartAt H t v) : PartAt H' t v := by
  obtain ⟨q, e, h2⟩ := h
  exact ⟨q, e, s _ _ h2⟩
/-- .. where one list alone has changed -/
theorem PartAt.sx {p : Addr} {H H' : Hp} {t : Prt} {v : V} (s : SameX p H H') (hp : ∀ xs, H p ≠ some (.tup xs)) (h : PartAt H t v) : PartAt H' t v := by
  obtain ⟨q, e, h2⟩ := h
  exact ⟨q, e, s _ _ (fun z => hp _ (z ▸ h2)) h2⟩
theorem cut_any {α : Type} (f : α → V) (xs : List α) (b : Nat) : cutV (xs.map f) none (some (b : Int)) = (xs.take b).map f := by
  rcases Nat.le_total b xs.length with h | h
  · exact cut_hi f xs h
  · unfold cutV
    rw [List.length_map, HT.sIx_nat, HT.sIx_none, Nat.min_eq_right h, List.drop_zero, Nat.sub_zero, List.take_of_length_le (by rw [List.length_map]; exact Nat.le_refl _), List.take_of_length_le h]
def OkS (z : Str) : Prop := PySem.PyData.strOk z = true
theorem okS_of {z : Str} (h : ∀ c ∈ sl z, c < 1114112) : OkS z := by
  show z.cps.all (· < 0x110000) = true
  rw [← Array.all_toList]
  exact List.all_eq_true.mpr fun c hc => decide_eq_true (h c hc)
theorem okS_low {z : Str} (h : LowT z) : OkS z := okS_of fun c hc => by have := h c hc; omega
theorem okS_name {z : Str} (h : nameOk z = true) : OkS z := okS_low (nameOk_low h)
theorem shp_list {α : Type} {f : α → PyData} {k : Nat} (hk : k ≤ 63) : ∀ {l : List α}, (∀ x ∈ l, (f x).canLay0 = true ∧ (f x).depth ≤ k) → PyData.canLayAll0 (l.map f) = true ∧ PyData.depthAll (l.map f) ≤ k
  | [], _ => ⟨rfl, Nat.zero_le _⟩
  | x :: l, h => by
    obtain ⟨h1, h2⟩ := h x List.mem_cons_self
    obtain ⟨h3, h4⟩ := shp_list hk (l := l) fun y hy => h y (List.mem_cons_of_mem _ hy)
    refine ⟨?_, ?_⟩
    · show ((f x).canLay0 && PyData.canLayAll0 (l.map f)) = true
      rw [h1, h3]
      rfl
    · show max (f x).depth (PyData.depthAll (l.map f)) ≤ k
      omega
end Ly

set_option maxRecDepth 100000
set_option maxHeartbeats 4000000
namespace Ly
open PySem PySem.Spec PyProof.Rows L2
theorem sx_mut {p a : Addr} {H H' : Hp} {o : HO} (s : SameX p H H') (ha : H a = none) : SameX p H (upd H' a o) := fun b u nb e => by
  rw [upd_ne (fun z => by rw [z, ha] at e; cases e)]
  exact s b u nb e
theorem shp_strs {l : List Str} (h : ∀ x ∈ l, OkS x) : SeqAt.shaped (.list (l.map PyData.str)) = true := by
  obtain ⟨h1, h2⟩ := shp_list (f := PyData.str) (k := 0) (by decide) (l := l) fun x hx => ⟨h x hx, Nat.le_refl _⟩
  show (PyData.canLayAll0 (l.map PyData.str) && decide (PyData.depthAll (l.map PyData.str) + 1 ≤ 64)) = true
  rw [h1, decide_eq_true (show PyData.depthAll (l.map PyData.str) + 1 ≤ 64 by omega)]
  rfl
end Ly

set_option maxRecDepth 100000
set_option maxHeartbeats 4000000
namespace Ly
open PySem PySem.Spec PyProof.Rows L2
theorem DataOk.perm {n : Str} {ins outs : List Str} {ps : List Prt} {ws ws' : List (Prt × Prt)} (h : DataOk n ins outs ps ws) (hp : ws'.Perm ws) : DataOk n ins outs ps ws' :=
  ⟨h.n, h.io, h.p, (hp.map _).nodup_iff.mpr h.wn, fun x hx => h.w1 x (hp.mem_iff.mp hx), fun x hx => h.w2 x (hp.mem_iff.mp hx)⟩
end Ly

set_option maxRecDepth 100000
set_option maxHeartbeats 4000000
namespace Ly
open PySem PySem.Spec PyProof.Rows L2
end Ly

set_option maxRecDepth 100000
set_option maxHeartbeats 4000000
namespace Ly
open PySem PySem.Spec PyProof.Rows L2
theorem rep_okS {n w : Nat} {x : Str} (h : OkS x) (hl : x.length ≤ w) : Rep n w (.str x) := rep_str hl (by
  have h' : x.cps.all (· < 0x110000) = true := h
  rw [← Array.all_toList] at h'
  refine List.all_eq_true.mpr fun c hc => ?_
  have := List.all_eq_true.mp h' c hc
  exact decide_eq_true (Nat.lt_of_lt_of_le (of_decide_eq_true this) (by decide)))
end Ly

set_option maxRecDepth 100000
set_option maxHeartbeats 4000000
namespace Ly
open PySem PySem.Spec PyProof.Rows L2
section
variable {X : Cx}
end
end Ly

set_option maxRecDepth 100000
set_option maxHeartbeats 4000000
namespace Ly
open PySem PySem.Spec PyProof.Rows L2
section
variable {P : Program} {w : World} {A : Around} {E : Value → Shared → Prop} {s : Shared}
set_option maxRecDepth 100000 in
set_option maxHeartbeats 3200000 in
theorem call_setT {l : Addr} {items : Array Value} (xs : List Str) {Q : Value → Shared → Prop} (hh : A.handled = none) (hl : IsTup s.heap l items) (hit : StrsAre items.toList xs) (hb : xs.length + 1 < scanBound)
    (h : ∀ (h' : Heap) (tk : Nat), SetS w h' s.heap.objs.size (dedS xs) → (∀ b o, s.heap.get? b = some o → h'.get? b = some o) → Q (.ref s.heap.objs.size) { s with heap := h', toks := tk }) :
    wpAny (model P w) A (call (.type "set") [.ref l]) Q E s := by
  have hisz : items.size = xs.length := by
    rw [← StrsAre.len_eq hit, Array.length_toList]
  obtain ⟨c, tl, hmro⟩ := F.called_set.mro
  have hmade := F.called_set.made
  have hsub := F.called_set.sub
  refine wpAny_call (codeAny_of_tree ?_)
  show wpAny _ _ (callAny (.type "set") _) _ _ _
  refine wpAny_pure ⟨Code.quiet_builtin _ (by decide +kernel), codeAny_builtin F.entry_type_call ?_⟩
  rw [Around.under_plain (weight_type_call_type "set" [.ref l] []) rfl]
  have h1 := F.called_set.notType
  have h2 := F.called_set.canCreate
  have hct := F.typeCall_set_1 (.ref l)
  repeat (any_goals (first | assumption | wp_step))
  refine codeAny_mono (code_set_led1 (.ref l) (E := E) (Q₁ := fun obj s₁ => obj = .ref s.heap.objs.size ∧ s₁ = { s with heap := s.heap.push { cls := .type "set", dict := none, data := .set #[] 0 (.fresh 0 0 (!w.params.followText "set-order")) } }) ⟨rfl, rfl⟩) fun r s₁ hr => ?_
  cases r with
  | error e => exact hr
  | ok fl =>
    cases fl with
    | ret obj =>
      obtain ⟨rfl, rfl⟩ := hr
      have hS : (s.heap.push { cls := .type "set", dict := none, data := .set #[] 0 (.fresh 0 0 (!w.params.followText "set-order")) }).get? s.heap.objs.size = some { cls := .type "set", dict := none, data := .set #[] 0 (.fresh 0 0 (!w.params.followText "set-order")) } := Heap.get?_push_size _ rfl
      have hT : Shared.TypeIs { s with heap := s.heap.push { cls := .type "set", dict := none, data := .set #[] 0 (.fresh 0 0 (!w.params.followText "set-order")) } } (.ref s.heap.objs.size) "set" := ⟨_, hS, rfl⟩
      have hli := F.called_set.init.lookup
      have hbi := F.called_set.init.bind (.ref s.heap.objs.size)
      repeat (any_goals (first | assumption | wp_step))
      refine codeAny_mono (codeAny_call_builtin (R := wants (fun r s₂ => r = .none ∧ ∃ h' tk, s₂ = { s with heap := h', toks := tk } ∧ SetS w h' s.heap.objs.size (dedS xs) ∧
          (∀ b o, s.heap.get? b = some o → h'.get? b = some o)) E) F.called_set.init.plain F.entry_set_init (check_set_init_1 hT ?_)) fun r₂ s₂ hr₂ => ?_
      · obtain ⟨ol, hol, hcl, nl, hdl⟩ := hl
        obtain ⟨ocls, odict, odata, oslots⟩ := ol
        simp only at hcl hdl
        subst hcl; subst hdl
        have hol' : (s.heap.push { cls := .type "set", dict := none, data := .set #[] 0 (.fresh 0 0 (!w.params.followText "set-order")) }).get? l = some { cls := .type "tuple", dict := odict, data := .seq items nl, slots := oslots } := Heap.get?_push_of_some _ hol
        have hsls := F.sub_tuple_set
        have hslf := F.sub_tuple_frozenset
        have hne : (Value.type "tuple" == Value.type "dict") = false := by decide
        have hl1 : IsTup (s.heap.push { cls := .type "set", dict := none, data := .set #[] 0 (.fresh 0 0 (!w.params.followText "set-order")) }) l items := ⟨_, hol', rfl, nl, rfl⟩
        unfold Builtin.«set.__init__» noKeywords Builtin.Frozenset.updateFrom
        generalize hPI : pyIter = PI
        wp_walk
        subst hPI
        refine wpAny_pyIter_tuple hl1 ?_
        refine wpAny_bind (wpAny_runValue ?_)
        have hlS : l < s.heap.objs.size := Heap.lt_size hol
        have hh3 : A.in1.in1.in1.handled = none := by simp [hh]
        have hneI : l ≠ (s.heap.push { cls := .type "set", dict := none, data := .set #[] 0 (.fresh 0 0 (!w.params.followText "set-order")) }).objs.size := by
          rw [Heap.size_push]; exact Nat.ne_of_lt (Nat.lt_succ_of_lt hlS)
        have hSf : s.heap.objs.size ∉ [(s.heap.push { cls := .type "set", dict := none, data := .set #[] 0 (.fresh 0 0 (!w.params.followText "set-order")) }).objs.size, l] := by
          rw [Heap.size_push]; simp only [List.mem_cons, List.mem_singleton, List.not_mem_nil, or_false, not_or]
          exact ⟨Nat.ne_of_lt (Nat.lt_succ_self _), Nat.ne_of_gt hlS⟩
        have hval : ∀ (i : Nat) (v : Value), items[i]? = some v → ∃ k t, xs[i]? = some k ∧ v = .str k t := fun i v hv => by
          have q : items.toList[i]? = some v := by rw [Array.getElem?_toList]; exact hv
          obtain ⟨t, e⟩ := SS.strs_at hit i v q
          have hlt : i < xs.length := by
            rw [← hisz]
            exact (Array.getElem?_eq_some_iff.mp hv).1
          refine ⟨xs[i], t, List.getElem?_eq_getElem hlt, ?_⟩
          rw [e, List.getD_eq_getElem?_getD, List.getElem?_eq_getElem hlt]
          rfl
        refine setS_loop ((Walks.tuple hh3 _ l hneI items).toS) s.heap.objs.size
          hSf xs hisz hb hval (items.size - 0) 0 _ (by omega) (Nat.zero_le _)
          ⟨⟨_, Heap.get?_push_size _ rfl, rfl, rfl⟩, (hl1.push _)⟩ ?hS0 ?hR
        case hS0 =>
          have hget : ((s.heap.push { cls := .type "set", dict := none, data := .set #[] 0 (.fresh 0 0 (!w.params.followText "set-order")) }).push { cls := .type "tuple_iterator", data := .fields #[.ref l, .int 0 0] }).get? s.heap.objs.size
              = some { cls := .type "set", dict := none, data := .set #[] 0 (.fresh 0 0 (!w.params.followText "set-order")) } := Heap.get?_push_of_some _ hS
          exact setS_fresh hget
        case hR =>
          intro s' hm hS'
          obtain ⟨h', g2, d', tk', os'⟩ := s'
          have eg : g2 = s.gens := hm.gens
          have ed : d' = s.drawn := hm.drawn
          have eo : os' = s.os := hm.os
          subst eg; subst ed; subst eo
          show wpAny _ _ _ _ _ _
          refine wpAny_pure ?_
          show wpAny _ _ (ret Value.none) _ _ _
          refine wpAny_pure ⟨rfl, h', tk', rfl, hS', fun b o e => ?_⟩
          have hbl : b < s.heap.objs.size := Heap.lt_size e
          have hb1 : b ≠ s.heap.objs.size := Nat.ne_of_lt hbl
          have hb2 : b ≠ (s.heap.push { cls := .type "set", dict := none, data := .set #[] 0 (.fresh 0 0 (!w.params.followText "set-order")) }).objs.size := by
            rw [Heap.size_push]; exact Nat.ne_of_lt (Nat.lt_succ_of_lt hbl)
          exact hm.heap b o (by simp only [List.mem_cons, List.mem_singleton, List.not_mem_nil, or_false, not_or]; exact ⟨hb1, hb2⟩) (Heap.get?_push_of_some _ (Heap.get?_push_of_some _ e))
      · cases r₂ with
        | error e => exact hr₂
        | ok fl₂ =>
          cases fl₂ with
          | ret r =>
            obtain ⟨rfl, h', tk, rfl, hS', hk'⟩ := hr₂
            repeat (any_goals (first | assumption | wp_step))
            exact h _ _ hS' hk'
          | _ => exact hr₂.elim
    | _ => exact hr.elim
end
section
variable {X : Cx}
/-- set(t), a tuple of texts -/
def rSetT (K : PySem.W.Frag) (w : World) : List V → Hp → VK → Prop := fun vs H Q => ∃ (l : Addr) (xs : List Str), vs = [.ref l] ∧ SqT K H l (xs.map V.str) ∧ xs.length ≤ 2000 ∧ ∀ p, H p = none → Q (.ref p) (upd H p (SetSO w p (dedS xs)))
theorem cr_setT (K : PySem.W.Frag) (w : World) (hc : X.calm = true) (hK : X.K = K := by rfl) (hw : X.w = w := by rfl) : CallR X (.type "set") (rSetT K w) := by
  subst hK
  subst hw
  intro pins s σ H vs us Q I r h
  obtain ⟨l, xs, rfl, hl, hz, q⟩ := h
  rw [Vals.ref1 r]
  obtain ⟨its, rv, pl, _⟩ := I.tuple hl
  refine call_setT xs (I.ok.hd hc) pl (by simpa using strsAre_of rv) (by unfold scanBound; omega) fun h' tk R k => ?_
  exact ⟨.ref s.heap.objs.size, upd H s.heap.objs.size (SetSO X.w s.heap.objs.size (dedS xs)), I.laid (t' := tk) k (Nat.le_refl _) (setSO_new R), rfl, q _ (I.hok.fresh (Nat.le_refl _))⟩
end
end Ly

set_option maxRecDepth 100000
set_option maxHeartbeats 4000000
namespace Ly
open PySem PySem.Spec PyProof.Rows L2 LamX
/-- one parameter, no other name of its own -/
structure LamP (sc scope : Scope) (a : Str) : Prop where
  kind : scope.kind = .function
  co : scope.isCoroutine = false
  gen : scope.isGenerator = false
  own : ∀ y ∈ scope.names, y.2 ≠ .cell ∧ (y.2 = .local → y.1 = a)
  par : scope.names.lookup a = some .local
  free : ∀ y ∈ scope.names, y.2 = .free → sc.names.lookup y.1 = some .cell ∨ sc.names.lookup y.1 = some .free
theorem LamP.has {X : Cx} {scope : Scope} {a : Str} (L : LamP X.env.scope scope a) (ok : X.Ok) : ∀ y ∈ scope.names, y.2 = .free → ∃ c, X.env.cells.lookup y.1 = some c := fun y hy e => by
  rcases L.free y hy e with k | k
  · exact ok.has _ (.inl k)
  · exact ok.has _ (.inr k)
section
variable {X : Cx} {pins : List (Addr × Obj)} {σ : L2.St} {H : Hp} {s : Shared}
end
end Ly

set_option maxRecDepth 100000
set_option maxHeartbeats 4000000
namespace Ly
open PySem PySem.Spec PyProof.Rows L2 LamX
open PySem.W (EachIs SortsAt dataKind sortVals KeepsBut keyH_end KeyedOut keyedOut_each dataLe dataLe_int AllAlike Sortable copyHeap copyHeap_at copyHeap_old sorted_of_sort)
section
variable {X : Cx} {pins : List (Addr × Obj)} {σ : L2.St} {H : Hp} {s : Shared}
end
end Ly

set_option maxRecDepth 100000
set_option maxHeartbeats 4000000
namespace Ly
open PySem PySem.Spec PyProof.Rows L2 LamX
open PySem.W (sortingHeap sortingHeap_old copyHeap copyHeap_at copyHeap_old sorted_of_sort)
section
variable {X : Cx}
end
end Ly

set_option maxRecDepth 100000
set_option maxHeartbeats 4000000
namespace Ly
open PySem PySem.Spec PyProof.Rows L2 LamX
section
variable {X : Cx}
end
end Ly

set_option maxRecDepth 100000
set_option maxHeartbeats 4000000
namespace Ly
open PySem PySem.Spec PyProof.Rows L2 LamX
section
variable {P : Program} {w : World} {K : PySem.W.Frag} {mg mb : Str → Option Value} {k : Nat} {fa a c T : Addr} {fd : FuncData} {x : Str} {sp : Sp} {s : Shared} {vs : List Value} {ns : List Int}
end
end Ly

set_option maxRecDepth 100000
set_option maxHeartbeats 4000000
namespace Ly
open PySem PySem.Spec PyProof.Rows L2 LamX
abbrev Fnc := List Str × List Str
def FnV (_K : PySem.W.Frag) (H : Hp) (f : Fnc) (v : V) : Prop := ∃ t a b, v = .ref t ∧ Rd H t (.tup [.ref a, .ref b]) ∧ Rd H a (.tup (f.1.map V.str)) ∧ Rd H b (.tup (f.2.map V.str))
theorem rd_inj {H : Hp} {a : Addr} {xs ys : List V} (h : Rd H a (.tup xs)) (h' : Rd H a (.tup ys)) : xs = ys := by
  rcases h with h | ⟨o, h⟩ <;> rcases h' with h' | ⟨o', h'⟩ <;> rw [h] at h' <;> cases h' <;> rfl
theorem map_str_inj {l m : List Str} (h : l.map V.str = m.map V.str) : l = m := by
  induction l generalizing m with
  | nil => cases m with
    | nil => rfl
    | cons y m => cases h
  | cons x l ih => cases m with
    | nil => cases h
    | cons y m =>
      injection h with h1 h2
      injection h1 with h1
      rw [h1, ih h2]
theorem FnV.inj {K : PySem.W.Frag} {H : Hp} {f g : Fnc} {v : V} (h : FnV K H f v) (h' : FnV K H g v) : f = g := by
  obtain ⟨t, a, b, rfl, h1, h2, h3⟩ := h
  obtain ⟨t', a', b', e, h1', h2', h3'⟩ := h'
  cases e
  have e := rd_inj h1 h1'
  cases e
  exact Prod.ext (map_str_inj (rd_inj h2 h2')) (map_str_inj (rd_inj h3 h3'))
theorem rd_extN {H H' : Hp} {l : Addr} {xs : List V} (e : ExtN H H') (h : Rd H l (.tup xs)) : Rd H' l (.tup xs) := by
  rcases h with h | ⟨o, h⟩
  · exact .inl (e _ _ h fun _ z => by cases z)
  · exact .inr ⟨o, e _ _ h fun _ z => by cases z⟩
/-- a tuple whose object is known, without a dict of its own: its methods can be looked up -/
def KnT (H : Hp) (a : Addr) (xs : List V) : Prop := ∃ ob, H a = some (.frz ob (.tup xs)) ∧ ob.dict = none
theorem KnT.sqt {K : PySem.W.Frag} {H : Hp} {a : Addr} {xs : List V} (h : KnT H a xs) : SqT K H a xs := let ⟨ob, e, _⟩ := h; .inl (.inr ⟨ob, e⟩)
def IfV (K : PySem.W.Frag) (H : Hp) (i o : List Str) (pr : List Fnc) (v : V) : Prop := ∃ t a b c fs, v = .ref t ∧ SqT K H t [.ref a, .ref b, .ref c] ∧ SqT K H a (i.map V.str) ∧ KnT H b (o.map V.str) ∧ SqT K H c fs ∧ Paired (FnV K H) pr fs
theorem sqT_extN {K : PySem.W.Frag} {H H' : Hp} {l : Addr} {xs : List V} (e : ExtN H H') (h : SqT K H l xs) : SqT K H' l xs := by
  rcases h with (h | ⟨o, h⟩) | h
  · exact .inl (.inl (e _ _ h fun _ z => by cases z))
  · exact .inl (.inr ⟨o, e _ _ h fun _ z => by cases z⟩)
  · exact .inr h
theorem extN_of {H H' : Hp} (s : Same H H') : ExtN H H' := fun b o e _ => s b o e
theorem FnV.ext {K : PySem.W.Frag} {H H' : Hp} {f : Fnc} {v : V} (h : FnV K H f v) (e : ExtN H H') : FnV K H' f v := by
  obtain ⟨t, a, b, rfl, h1, h2, h3⟩ := h
  exact ⟨t, a, b, rfl, rd_extN e h1, rd_extN e h2, rd_extN e h3⟩
theorem KnT.ext {H H' : Hp} {a : Addr} {xs : List V} (h : KnT H a xs) (e : ExtN H H') : KnT H' a xs := let ⟨ob, h1, h2⟩ := h; ⟨ob, e _ _ h1 (fun _ z => by cases z), h2⟩
theorem KnT.same {H H' : Hp} {a : Addr} {xs : List V} (h : KnT H a xs) (s : Same H H') : KnT H' a xs := h.ext (extN_of s)
theorem IfV.ext {K : PySem.W.Frag} {H H' : Hp} {i o : List Str} {pr : List Fnc} {v : V} (h : IfV K H i o pr v) (e : ExtN H H') : IfV K H' i o pr v := by
  obtain ⟨t, a, b, c, fs, rfl, h1, h2, h3, h4, h5⟩ := h
  exact ⟨t, a, b, c, fs, rfl, sqT_extN e h1, sqT_extN e h2, h3.ext e, sqT_extN e h4, paired_imp (fun _ _ z => z.ext e) h5⟩
theorem ty_tup {K : PySem.W.Frag} {H : Hp} {a : Addr} {xs : List V} (h : SqT K H a xs) : TyX K H (.ref a) (.type "tuple") := by
  rcases h with (h | ⟨o, h⟩) | ⟨o, its, n, h, hc, _⟩
  · exact .base (.tup h)
  · exact .fTuple h
  · exact .kTuple h hc
theorem kit_tup {K : PySem.W.Frag} : PySem.W.kitOne K (.type "tuple") (.type "tuple") = some true := kit_ty (by decide +kernel)
theorem FnV.same {K : PySem.W.Frag} {H H' : Hp} {f : Fnc} {v : V} (h : FnV K H f v) (s : Same H H') : FnV K H' f v := h.ext (extN_of s)
end Ly

set_option maxRecDepth 100000
set_option maxHeartbeats 4000000
namespace Ly
open PySem PySem.Spec PyProof.Rows L2 LamX
section
variable {X : Cx}
/-- tuple(l), its object told -/
def rTupF (K : PySem.W.Frag) : List V → Hp → VK → Prop := fun vs H Q => ∃ p ys, vs = [.ref p] ∧ SqL K H p ys ∧ ∀ l ob, H l = none → ob.dict = none → Q (.ref l) (upd H l (.frz ob (.tup ys)))
theorem call_tupleF (K : PySem.W.Frag) (hK : X.K = K := by rfl) : CallR X (.type "tuple") (rTupF K) := by
  subst hK
  intro pins s σ H vs us Q I r h
  obtain ⟨p, ys, rfl, hq, q⟩ := h
  obtain ⟨u, rfl, ru⟩ := vals1 r
  obtain rfl : u = Value.ref p := ru
  obtain ⟨its, r', pl, hz⟩ := I.list hq
  have hlen := r'.length
  refine call_tuple_list pl.isList (fun h' kp => ?_) (by simp only [List.size_toArray]; omega)
  have I1 : Inv X pins σ H { s with heap := h' } := I.kept (t' := s.toks) kp
  have I2 : Inv X pins σ (upd H h'.objs.size (.frz { cls := .type "tuple", data := .seq its.toArray } (.tup ys))) { s with heap := h'.push { cls := .type "tuple", data := .seq its.toArray } } :=
    I1.laid (t' := s.toks) (fun b o e => Heap.get?_push_of_some _ e) (Nat.le_refl _) ⟨Heap.get?_push_size _ rfl, hz, its, r', IsTup.new _ _⟩
  exact ⟨.ref h'.objs.size, _, I2, rfl, q _ _ (I1.hok.fresh (Nat.le_refl _)) rfl⟩
end
theorem op_notInDK {X : Cx} (K : PySem.W.Frag) (hu : X.A.units + 65 < cLine) (hK : X.K = K := by rfl) : OpR X (compareOp .NotIn) (rNotInD K) := hK ▸ op_notInD hu
theorem hu65 {A : Around} {k : Nat} (hr : Room k A) : A.units + 65 < cLine := by have := hr.un; omega
theorem eqvAll_strs : ∀ l m : List Str, PyData.eqvAll (l.map .str) (m.map .str) = decide (l = m)
  | [], [] => rfl
  | [], _ :: _ => rfl
  | _ :: _, [] => rfl
  | x :: l, y :: m => by
    show ((x == y) && PyData.eqvAll (l.map .str) (m.map .str)) = decide (x :: l = y :: m)
    rw [eqvAll_strs l m]
    by_cases h : x = y
    · rw [h]
      by_cases h2 : l = m
      · rw [h2]; simp
      · rw [decide_eq_false h2, decide_eq_false (fun z => h2 (List.cons.inj z).2)]; simp
    · rw [decide_eq_false (fun z => h (List.cons.inj z).1), beq_eq_false_iff_ne.mpr h]
      rfl
structure FunC (K : PySem.W.Frag) (x qual : Str) (st : Stmt) (f : Addr) (fd : FuncData) (c : Addr) : Prop where
  ex : ∃ (oc : Value) (od : Option Addr) (kV doc pm : Value) (an : Option Addr) (ct : Value) (osl : Array (Option Value)),
    fd = PySem.W.fnOf x qual (defArgs st) (defBody st) (defScope st) .none kV doc pm an (.ref c) ct ∧ K.lookup f = some ⟨oc, od, .func fd, osl⟩ ∧ PySem.W.codeIn K (.ref c) qual = true
theorem FunC.ok {P : Program} {w : World} {K : PySem.W.Frag} {mg : Str → Option Value} {base : Heap} {x qual : Str} {st : Stmt} {f c : Addr} {fd : FuncData} {N ps : List Str} {k : Nat} {sp : Sp} (F : FunC K x qual st f fd c) (S : FnScope N ps (defScope st)) (len : ∀ vs H Q E, sp vs H Q E → vs.length = ps.length)
    (hbody : ∀ (A : Around) (outer : List Env) (s : Shared) (H : Hp) (vs : List V) (Q : VK) (E : XK), Room k (A.deeper (envOfC qual (defScope st) s.heap.objs.size f (.ref c))) → sp vs H Q E →
      ∃ t, PSs (cxOf CX0 P w K mg base N qual (defScope st) f (.ref c) A outer s H E).nox (defBody st) t ∧ t { nx := fun _ H' => Q .non H', rt := Q } (L2.start N vs) H) : FnOk P w K mg base CX0 (k + 1) f fd ps sp := by
  obtain ⟨oc, od, kV, doc, pm, an, ct, osl, rfl, lk, hcd⟩ := F.ex
  refine fn_of lk hcd S len fun A outer s H vs Q E hr hsp => ?_
  obtain ⟨t, h, q⟩ := hbody A outer s H vs Q E hr hsp
  exact ⟨t, h.nox, q⟩
end Ly

set_option maxRecDepth 100000
set_option maxHeartbeats 4000000
namespace Ly
open PySem PySem.Spec PyProof.Rows L2 LamX
section
variable {i o : List Str} {pr : List Fnc}
end
end Ly

set_option maxRecDepth 100000
set_option maxHeartbeats 4000000
namespace Ly
open PySem PySem.Spec PyProof.Rows L2 LamX
structure GInv (seen : List Str) (gs : List (List Str)) : Prop where
  perm : gs.flatten.Perm seen
  sub : ∀ g ∈ gs, g ≠ [] ∧ g.Sublist seen
  heads : (gs.map (·.headD Str.empty)).Sublist seen
theorem GInv.new {seen : List Str} {gs : List (List Str)} (h : GInv seen gs) (x : Str) : GInv (seen ++ [x]) (gs ++ [[x]]) := by
  refine ⟨?_, fun g hg => ?_, ?_⟩
  · rw [List.flatten_append]
    exact h.perm.append_right _
  · rcases List.mem_append.mp hg with hg | hg
    · exact ⟨(h.sub g hg).1, (h.sub g hg).2.trans (List.sublist_append_left _ _)⟩
    · rw [List.mem_singleton.mp hg]
      exact ⟨by simp, List.sublist_append_right _ _⟩
  · rw [List.map_append]
    exact h.heads.append (List.Sublist.refl _)
theorem GInv.add {seen : List Str} {gs : List (List Str)} (h : GInv seen gs) (x : Str) {j : Nat} {g : List Str} (hg : gs[j]? = some g) : GInv (seen ++ [x]) (gs.set j (g ++ [x])) := by
  obtain ⟨hj, e⟩ := List.getElem?_eq_some_iff.mp hg
  have e1 : gs = gs.take j ++ g :: gs.drop (j + 1) := by rw [← e, List.getElem_cons_drop, List.take_append_drop]
  have e2 : gs.set j (g ++ [x]) = gs.take j ++ (g ++ [x]) :: gs.drop (j + 1) := List.set_eq_take_append_cons_drop.trans (if_pos hj)
  have hgm := List.mem_of_getElem? hg
  refine ⟨?_, fun k hk => ?_, ?_⟩
  · have hp := h.perm
    rw [e1] at hp
    rw [e2]
    simp only [List.flatten_append, List.flatten_cons, List.append_assoc] at hp ⊢
    refine List.Perm.trans ?_ (hp.append_right [x])
    simp only [List.append_assoc]
    exact (List.Perm.refl _).append ((List.Perm.refl _).append List.perm_append_comm)
  · rcases List.mem_or_eq_of_mem_set hk with hk | hk
    · exact ⟨(h.sub k hk).1, (h.sub k hk).2.trans (List.sublist_append_left _ _)⟩
    · rw [hk]
      exact ⟨by simp, (h.sub g hgm).2.append (List.Sublist.refl _)⟩
  · have e3 : (gs.set j (g ++ [x])).map (·.headD Str.empty) = gs.map (·.headD Str.empty) := by
      rw [e2]
      conv => rhs; rw [e1]
      rw [List.map_append, List.map_append, List.map_cons, List.map_cons]
      congr 2
      cases e4 : g with
      | nil => exact absurd e4 (h.sub g hgm).1
      | cons a r => rfl
    rw [e3]
    exact h.heads.trans (List.sublist_append_left _ _)
def GrpAt (H0 H : Hp) (p gl : Addr) (gs : List (List Str)) : Prop := ∃ ls : List Addr, H gl = some (.lst (ls.map V.ref)) ∧ ls.length = gs.length ∧ (∀ (j : Nat) (l : Addr) (g : List Str), ls[j]? = some l → gs[j]? = some g → H l = some (.lst (g.map V.str))) ∧ ls.Nodup ∧ gl ∉ ls ∧ (∀ l ∈ ls, H0 l = none) ∧ p ∉ ls ∧ p ≠ gl
theorem GrpAt.sx {H0 H H' : Hp} {p gl : Addr} {gs : List (List Str)} (h : GrpAt H0 H p gl gs) (s : SameX p H H') : GrpAt H0 H' p gl gs := by
  obtain ⟨ls, h1, h2, h3, h4, h5, h6, h7, h8⟩ := h
  exact ⟨ls, s _ _ h8.symm h1, h2, fun j l g hl hg => s _ _ (fun e => h7 (e ▸ List.mem_of_getElem? hl)) (h3 j l g hl hg), h4, h5, h6, h7, h8⟩
theorem GrpAt.len {H0 H : Hp} {p gl : Addr} {gs : List (List Str)} (h : GrpAt H0 H p gl gs) : ∃ xs, H gl = some (.lst xs) ∧ xs.length = gs.length := let ⟨ls, h1, h2, _⟩ := h; ⟨_, h1, by rw [List.length_map]; exact h2⟩
theorem GrpAt.at {H0 H : Hp} {p gl : Addr} {gs : List (List Str)} (h : GrpAt H0 H p gl gs) {j : Nat} {g : List Str} (hg : gs[j]? = some g) : ∃ xs l, H gl = some (.lst xs) ∧ xs[j]? = some (V.ref l) ∧ H l = some (.lst (g.map V.str)) ∧ l ≠ p ∧ H0 l = none ∧ ∀ z : Str, GrpAt H0 (upd H l (.lst (g.map V.str ++ [.str z]))) p gl (gs.set j (g ++ [z])) := by
  obtain ⟨ls, h1, h2, h3, h4, h5, h6, h7, h8⟩ := h
  have hj := (List.getElem?_eq_some_iff.mp hg).1
  have hl : ls[j]? = some ls[j] := List.getElem?_eq_getElem (by omega)
  have hm := List.mem_of_getElem? hl
  refine ⟨_, ls[j], h1, by rw [List.getElem?_map, hl]; rfl, h3 j _ g hl hg, fun e => h7 (e ▸ hm), h6 _ hm, fun z => ⟨ls, ?_, by rw [List.length_set]; exact h2, fun k l g' hk hg' => ?_, h4, h5, h6, h7, h8⟩⟩
  · rw [upd_ne (fun e : gl = ls[j] => h5 (by rw [e]; exact hm))]
    exact h1
  · by_cases e : k = j
    · subst e
      rw [hl] at hk
      cases hk
      rw [List.getElem?_set_self (by omega)] at hg'
      cases hg'
      rw [upd_same, List.map_append]
      rfl
    · rw [List.getElem?_set_ne (Ne.symm e)] at hg'
      rw [upd_ne fun z => e ?_]
      · exact h3 k l g' hk hg'
      · obtain ⟨h10, e10⟩ := List.getElem?_eq_some_iff.mp hk
        exact (List.getElem_inj (h₀ := h10) (h₁ := by omega) h4).mp (e10.trans z)
theorem GrpAt.new {H0 H : Hp} {p gl l : Addr} {gs : List (List Str)} {xs : List V} (h : GrpAt H0 H p gl gs) (hx : H gl = some (.lst xs)) (hl : H l = none) (hl0 : H0 l = none) (np : l ≠ p) : GrpAt H0 (upd (upd H l (.lst [])) gl (.lst (xs ++ [.ref l]))) p gl (gs ++ [[]]) := by
  obtain ⟨ls, h1, h2, h3, h4, h5, h6, h7, h8⟩ := h
  rw [h1] at hx
  cases hx
  have ngl : gl ≠ l := ne_of_none h1 hl
  have hin : ∀ l' ∈ ls, l' ≠ l := fun l' hm e => by
    obtain ⟨j, hj⟩ := List.getElem?_of_mem hm
    have hj2 := (List.getElem?_eq_some_iff.mp hj).1
    have := h3 j l' gs[j] hj (List.getElem?_eq_getElem (by omega))
    rw [e, hl] at this
    cases this
  refine ⟨ls ++ [l], by rw [upd_same, List.map_append]; rfl, by simp only [List.length_append, List.length_singleton]; omega, fun j l' g hj hg => ?_, ?_, ?_, ?_, ?_, h8⟩
  · by_cases hlt : j < ls.length
    · rw [List.getElem?_append_left hlt] at hj
      rw [List.getElem?_append_left (by omega)] at hg
      have hm := List.mem_of_getElem? hj
      rw [upd_ne (fun e : l' = gl => h5 (by rw [← e]; exact hm)), upd_ne (hin _ hm)]
      exact h3 j l' g hj hg
    · rw [List.getElem?_append_right (by omega)] at hj hg
      have e0 : j - ls.length = 0 := by
        have := (List.getElem?_eq_some_iff.mp hj).1
        simp only [List.length_singleton] at this
        omega
      rw [e0] at hj
      rw [← h2, e0] at hg
      cases hj
      cases hg
      rw [upd_ne ngl.symm, upd_same]
      rfl
  · refine List.nodup_append.mpr ⟨h4, by simp, fun a ha b hb => ?_⟩
    rw [List.mem_singleton.mp hb]
    exact hin a ha
  · intro hm
    rcases List.mem_append.mp hm with hm | hm
    · exact h5 hm
    · exact ngl (List.mem_singleton.mp hm)
  · intro l' hm
    rcases List.mem_append.mp hm with hm | hm
    · exact h6 l' hm
    · rw [List.mem_singleton.mp hm]
      exact hl0
  · intro hm
    rcases List.mem_append.mp hm with hm | hm
    · exact h7 hm
    · exact np (List.mem_singleton.mp hm).symm
theorem rd_sx {H H' : Hp} {p a : Addr} {xs ys : List V} (s : SameX p H H') (hp : H p = some (.lst ys)) (h : Rd H a (.tup xs)) : Rd H' a (.tup xs) := by
  have np : a ≠ p := fun e => by
    rcases h with h | ⟨o, h⟩ <;> rw [e, hp] at h <;> cases h
  rcases h with h | ⟨o, h⟩
  · exact .inl (s _ _ np h)
  · exact .inr ⟨o, s _ _ np h⟩
theorem FnV.sx {K : PySem.W.Frag} {H H' : Hp} {p : Addr} {f : Fnc} {v : V} {ys : List V} (h : FnV K H f v) (s : SameX p H H') (hp : H p = some (.lst ys)) : FnV K H' f v := by
  obtain ⟨t, a, b, rfl, h1, h2, h3⟩ := h
  exact ⟨t, a, b, rfl, rd_sx s hp h1, rd_sx s hp h2, rd_sx s hp h3⟩
theorem sqt_sx {K : PySem.W.Frag} {H H' : Hp} {p a : Addr} {xs ys : List V} (s : SameX p H H') (hp : H p = some (.lst ys)) (h : SqT K H a xs) : SqT K H' a xs := by
  rcases h with h | h
  · exact .inl (rd_sx s hp h)
  · exact .inr h
theorem KnT.sx {H H' : Hp} {p a : Addr} {xs ys : List V} (s : SameX p H H') (hp : H p = some (.lst ys)) (h : KnT H a xs) : KnT H' a xs := by
  obtain ⟨ob, h1, h2⟩ := h
  exact ⟨ob, s _ _ (fun e => by rw [e, hp] at h1; cases h1) h1, h2⟩
theorem IfV.sx {K : PySem.W.Frag} {H H' : Hp} {p : Addr} {ys : List V} {i o : List Str} {pr : List Fnc} {v : V} (h : IfV K H i o pr v) (s : SameX p H H') (hp : H p = some (.lst ys)) : IfV K H' i o pr v := by
  obtain ⟨t, a, b, c, fs, rfl, h1, h2, h3, h4, h5⟩ := h
  exact ⟨t, a, b, c, fs, rfl, sqt_sx s hp h1, sqt_sx s hp h2, h3.sx s hp, sqt_sx s hp h4, paired_imp (fun _ _ z => z.sx s hp) h5⟩
end Ly

set_option maxRecDepth 100000
set_option maxHeartbeats 4000000
namespace Nd
open PySem PySem.Spec PyProof.Rows L2 Ly LamX
abbrev NK := NestedKey
mutual
/-- the value v is the key k -/
inductive NkV (K : PySem.W.Frag) (H : Hp) : NK → V → Prop
  | non : NkV K H .none .non
  | num (i : Int) : NkV K H (.num i) (.int i)
  | text (x : Str) : NkV K H (.text x) (.str x)
  | tup {a : Addr} {vs : List V} {ks : List NK} : SqT K H a vs → NkAll K H ks vs → NkV K H (.tup ks) (.ref a)
inductive NkAll (K : PySem.W.Frag) (H : Hp) : List NK → List V → Prop
  | nil : NkAll K H [] []
  | cons {k : NK} {v : V} {ks : List NK} {vs : List V} : NkV K H k v → NkAll K H ks vs → NkAll K H (k :: ks) (v :: vs)
end
mutual
theorem NkV.mono {K : PySem.W.Frag} {H H' : Hp} (m : ∀ a xs, SqT K H a xs → SqT K H' a xs) : ∀ {k : NK} {v : V}, NkV K H k v → NkV K H' k v
  | _, _, .non => .non
  | _, _, .num i => .num i
  | _, _, .text x => .text x
  | _, _, .tup h hs => .tup (m _ _ h) (NkAll.mono m hs)
theorem NkAll.mono {K : PySem.W.Frag} {H H' : Hp} (m : ∀ a xs, SqT K H a xs → SqT K H' a xs) : ∀ {ks : List NK} {vs : List V}, NkAll K H ks vs → NkAll K H' ks vs
  | _, _, .nil => .nil
  | _, _, .cons h t => .cons (NkV.mono m h) (NkAll.mono m t)
end
section
variable {X : Cx} {pins : List (Addr × Obj)} {σ : L2.St} {H : Hp} {s : Shared}
mutual
theorem nk_is (I : Inv X pins σ H s) : ∀ {k : NK} {v : V} {u : Value}, NkV X.K H k v → RelV v u → NestedIs s.heap k u
  | _, _, u, .non, r => by
    obtain rfl : u = Value.none := r
    exact .none
  | _, _, u, .num i, r => by
    obtain ⟨t, rfl⟩ := (show ∃ t, u = Value.int i t from r)
    exact .int i t
  | _, _, u, .text x, r => by
    obtain ⟨t, rfl⟩ := (show ∃ t, u = Value.str x t from r)
    exact .text x t
  | _, _, u, .tup (a := a) h hs, r => by
    obtain rfl : u = Value.ref a := r
    obtain ⟨its, rv, ⟨o, ho, hc, n, hd⟩, _⟩ := I.tuple h
    exact .tup ho hc hd (by simpa using nk_all I hs rv)
theorem nk_all (I : Inv X pins σ H s) : ∀ {ks : List NK} {vs : List V} {us : List Value}, NkAll X.K H ks vs → Vals vs us → NestedAll s.heap ks us
  | _, _, _, .nil, .nil => .nil
  | _, _, _, .cons h t, .cons r rs => .cons (nk_is I h r) (nk_all I t rs)
end
end
/-- the value y is the key k, a tuple -/
structure KeyAt (K : PySem.W.Frag) (H : Hp) (y : V) (k : NK) : Prop where
  ref : ∃ b, y = .ref b
  isk : NkV K H k y
  dep : k.depth ≤ 8
theorem KeyAt.mono {K : PySem.W.Frag} {H H' : Hp} {y : V} {k : NK} (h : KeyAt K H y k) (m : ∀ a xs, SqT K H a xs → SqT K H' a xs) : KeyAt K H' y k := ⟨h.ref, h.isk.mono m, h.dep⟩
theorem KeyAt.same {K : PySem.W.Frag} {H H' : Hp} {y : V} {k : NK} (h : KeyAt K H y k) (s : Same H H') : KeyAt K H' y k := h.mono fun _ _ => same_sqt s
theorem NkV.same {K : PySem.W.Frag} {H H' : Hp} {y : V} {k : NK} (h : NkV K H k y) (s : Same H H') : NkV K H' k y := h.mono fun _ _ => same_sqt s
/-- no tuple stands at p -/
def NotT (H : Hp) (p : Addr) : Prop := ∀ xs, ¬ Rd H p (.tup xs)
theorem notT_lst {H : Hp} {p : Addr} {xs : List V} (h : H p = some (.lst xs)) : NotT H p := fun ys r => by
  rcases r with r | ⟨o, r⟩ <;> rw [h] at r <;> cases r
theorem notT_ext {H : Hp} {p : Addr} {φ : Heap → Prop} (h : H p = some (.ext φ)) : NotT H p := fun ys r => by
  rcases r with r | ⟨o, r⟩ <;> rw [h] at r <;> cases r
theorem sqt_sx' {K : PySem.W.Frag} {H H' : Hp} {p a : Addr} {xs : List V} (s : SameX p H H') (hp : NotT H p) (h : SqT K H a xs) : SqT K H' a xs := by
  rcases h with h | h
  · have np : a ≠ p := fun e => hp xs (e ▸ h)
    rcases h with h | ⟨o, h⟩
    · exact .inl (.inl (s _ _ np h))
    · exact .inl (.inr ⟨o, s _ _ np h⟩)
  · exact .inr h
theorem KeyAt.sx {K : PySem.W.Frag} {H H' : Hp} {p : Addr} {y : V} {k : NK} (h : KeyAt K H y k) (s : SameX p H H') (hp : NotT H p) : KeyAt K H' y k := h.mono fun _ _ => sqt_sx' s hp
abbrev Q3 := List (NK × Addr × V)
def XR : Q3 → List (NK × Addr × Value) → Prop := Paired fun p q => p.1 = q.1 ∧ p.2.1 = q.2.1 ∧ RelV p.2.2 q.2.2
def RawN (P : Program) (w : World) (d : Addr) (qs : Q3) : Heap → Prop := fun h => (d == sysModules) = false ∧ ∃ xs, XR qs xs ∧ (∃ o es ep, h.get? d = some o ∧ o.ExactDict ∧ o.data = .dict es ep ∧ es.toList = xs.map (entryOfKey (nestedKind P w))) ∧ (xs.map (·.1)).Nodup
def NQ (P : Program) (w : World) (d : Addr) (qs : Q3) : HO := .ext (RawN P w d qs)
theorem rawN_ok {P : Program} {w : World} {H : Hp} {h : Heap} {d : Addr} {qs : Q3} (x : RawN P w d qs h) : ObjOk P w H h d (NQ P w d qs) :=
  ⟨x, (let ⟨_, _, _, ⟨o, _, _, e, _⟩, _⟩ := x; ⟨o, e⟩), fun _ _ ⟨a, xs, r, ⟨o, es, ep, e, rest⟩, n⟩ k => ⟨a, xs, r, ⟨o, es, ep, k o e, rest⟩, n⟩⟩
def pairsN (qs : Q3) : List (NK × V) := qs.map fun q => (q.1, q.2.2)
def KeysN (K : PySem.W.Frag) (H : Hp) (qs : Q3) : Prop := (∀ q ∈ qs, KeyAt K H (.ref q.2.1) q.1) ∧ qs.length ≤ sizeLine
theorem KeysN.mono {K : PySem.W.Frag} {H H' : Hp} {qs : Q3} (h : KeysN K H qs) (m : ∀ a xs, SqT K H a xs → SqT K H' a xs) : KeysN K H' qs := ⟨fun q hq => (h.1 q hq).mono m, h.2⟩
/-- d is a dict of nested keys: read; changed; known as an object (never changed any more) -/
def DN (P : Program) (w : World) (K : PySem.W.Frag) (H : Hp) (d : Addr) (kvs : List (NK × V)) : Prop := ∃ qs, Rd H d (NQ P w d qs) ∧ pairsN qs = kvs ∧ KeysN K H qs
def DNm (P : Program) (w : World) (K : PySem.W.Frag) (H : Hp) (d : Addr) (kvs : List (NK × V)) : Prop := ∃ qs, H d = some (NQ P w d qs) ∧ pairsN qs = kvs ∧ KeysN K H qs
def DNf (P : Program) (w : World) (K : PySem.W.Frag) (H : Hp) (d : Addr) (kvs : List (NK × V)) : Prop := ∃ o qs, H d = some (.frz o (NQ P w d qs)) ∧ pairsN qs = kvs ∧ KeysN K H qs
section
variable {P : Program} {w : World} {K : PySem.W.Frag} {H H' : Hp} {d p : Addr} {kvs : List (NK × V)}
theorem DNm.dn (h : DNm P w K H d kvs) : DN P w K H d kvs := let ⟨qs, e, r⟩ := h; ⟨qs, .inl e, r⟩
theorem DNf.dn (h : DNf P w K H d kvs) : DN P w K H d kvs := let ⟨o, qs, e, r⟩ := h; ⟨qs, .inr ⟨o, e⟩, r⟩
theorem DNm.notT (h : DNm P w K H d kvs) : NotT H d := let ⟨_, e, _⟩ := h; notT_ext e
theorem DNm.there (h : DNm P w K H d kvs) : ∃ o, H d = some o := let ⟨_, e, _⟩ := h; ⟨_, e⟩
theorem DNf.there (h : DNf P w K H d kvs) : ∃ o, H d = some o := let ⟨_, _, e, _⟩ := h; ⟨_, e⟩
theorem DN.there (h : DN P w K H d kvs) : ∃ o, H d = some o := by
  obtain ⟨_, e | ⟨o, e⟩, _⟩ := h
  · exact ⟨_, e⟩
  · exact ⟨_, e⟩
theorem DNm.same (h : DNm P w K H d kvs) (s : Same H H') : DNm P w K H' d kvs := let ⟨qs, e, r, k⟩ := h; ⟨qs, s _ _ e, r, k.mono fun _ _ => same_sqt s⟩
theorem DNf.same (h : DNf P w K H d kvs) (s : Same H H') : DNf P w K H' d kvs := let ⟨o, qs, e, r, k⟩ := h; ⟨o, qs, s _ _ e, r, k.mono fun _ _ => same_sqt s⟩
theorem DN.same (h : DN P w K H d kvs) (s : Same H H') : DN P w K H' d kvs := by
  obtain ⟨qs, e, r, k⟩ := h
  refine ⟨qs, ?_, r, k.mono fun _ _ => same_sqt s⟩
  rcases e with e | ⟨o, e⟩
  · exact .inl (s _ _ e)
  · exact .inr ⟨o, s _ _ e⟩
theorem DNm.sx (h : DNm P w K H d kvs) (s : SameX p H H') (hp : NotT H p) (ne : d ≠ p) : DNm P w K H' d kvs := let ⟨qs, e, r, k⟩ := h; ⟨qs, s _ _ ne e, r, k.mono fun _ _ => sqt_sx' s hp⟩
theorem DNf.sx (h : DNf P w K H d kvs) (s : SameX p H H') (hp : NotT H p) (ne : d ≠ p) : DNf P w K H' d kvs := let ⟨o, qs, e, r, k⟩ := h; ⟨o, qs, s _ _ ne e, r, k.mono fun _ _ => sqt_sx' s hp⟩
theorem DN.sx (h : DN P w K H d kvs) (s : SameX p H H') (hp : NotT H p) (ne : d ≠ p) : DN P w K H' d kvs := by
  obtain ⟨qs, e, r, k⟩ := h
  refine ⟨qs, ?_, r, k.mono fun _ _ => sqt_sx' s hp⟩
  rcases e with e | ⟨o, e⟩
  · exact .inl (s _ _ ne e)
  · exact .inr ⟨o, s _ _ ne e⟩
theorem DNf.ne_lst {xs : List V} (h : DNf P w K H d kvs) (hp : H p = some (.lst xs)) : d ≠ p := fun e => by
  obtain ⟨_, _, e1, _⟩ := h
  rw [e, hp] at e1
  cases e1
theorem DN.ne_lst {xs : List V} (h : DN P w K H d kvs) (hp : H p = some (.lst xs)) : d ≠ p := fun e => by
  obtain ⟨_, e1 | ⟨_, e1⟩, _⟩ := h <;> rw [e, hp] at e1 <;> cases e1
theorem DN.len (h : DN P w K H d kvs) : kvs.length ≤ sizeLine := by
  obtain ⟨qs, _, r, k⟩ := h
  rw [← r]
  unfold pairsN
  rw [List.length_map]
  exact k.2
end
theorem XR.val {qs : Q3} {xs : List (NK × Addr × Value)} (r : XR qs xs) (k : NK) : RelO (valV (pairsN qs) k) ((atKey xs k).map (·.2)) := by
  induction r with
  | nil => exact True.intro
  | @cons p q ps qs h t ih =>
    obtain ⟨h1, _, h2⟩ := h
    by_cases e : p.1 = k
    · have e' : q.1 = k := h1.symm.trans e
      have b : atKey (q :: qs) k = some q.2 := by simp [atKey, List.find?_cons, e']
      rw [show pairsN (p :: ps) = (p.1, p.2.2) :: pairsN ps from rfl, valV_pos e, b]; exact h2
    · have e' : ¬ q.1 = k := fun z => e (h1.trans z)
      have b : atKey (q :: qs) k = atKey qs k := by simp [atKey, List.find?_cons, e']
      rw [show pairsN (p :: ps) = (p.1, p.2.2) :: pairsN ps from rfl, valV_neg e, b]; exact ih
def putQ (qs : Q3) (k : NK) (b : Addr) (v : V) : Q3 := if (qs.any fun q => decide (q.1 = k)) = true then qs.map (fun q => if q.1 = k then (q.1, q.2.1, v) else q) else qs ++ [(k, b, v)]
theorem pairs_putQ (qs : Q3) (k : NK) (b : Addr) (v : V) : pairsN (putQ qs k b v) = putK (pairsN qs) k v := by
  have e : ((pairsN qs).any fun kv => decide (kv.1 = k)) = qs.any fun q => decide (q.1 = k) := by
    unfold pairsN
    rw [List.any_map]
    rfl
  unfold putQ putK
  rw [e]
  split
  · unfold pairsN
    rw [List.map_map, List.map_map]
    refine List.map_congr_left fun q _ => ?_
    show ((if q.1 = k then (q.1, q.2.1, v) else q).1, (if q.1 = k then (q.1, q.2.1, v) else q).2.2) = if q.1 = k then (q.1, v) else (q.1, q.2.2)
    split <;> rfl
  · unfold pairsN
    rw [List.map_append]
    rfl
theorem XR.repl {qs : Q3} {xs : List (NK × Addr × Value)} (r : XR qs xs) (k : NK) {y : V} {u : Value} (ry : RelV y u) : XR (qs.map fun q => if q.1 = k then (q.1, q.2.1, y) else q) (xs.map (putAt k u)) := by
  induction r with
  | nil => exact .nil
  | @cons p q ps qs h t ih =>
    rw [List.map_cons, List.map_cons]
    refine .cons ?_ ih
    obtain ⟨h1, h2, h3⟩ := h
    unfold putAt
    by_cases e : p.1 = k
    · rw [if_pos e, if_pos (h1.symm.trans e)]; exact ⟨h1, h2, ry⟩
    · rw [if_neg e, if_neg (fun z => e (h1.trans z))]; exact ⟨h1, h2, h3⟩
theorem XR.put {qs : Q3} {xs : List (NK × Addr × Value)} (r : XR qs xs) (k : NK) {b : Addr} {y : V} {u : Value} (ry : RelV y u) : XR (putQ qs k b y) (storedH xs k b u) := by
  have e : (qs.any fun q => decide (q.1 = k)) = (atKey xs k).isSome := by
    have h1 : ((pairsN qs).any fun kv => decide (kv.1 = k)) = qs.any fun q => decide (q.1 = k) := by
      unfold pairsN
      rw [List.any_map]
      rfl
    rw [← h1, valV_any, (r.val k).isSome_eq, Option.isSome_map]
  unfold putQ storedH
  rw [e]
  by_cases q : (atKey xs k).isSome = true
  · rw [if_pos q, if_pos q]; exact r.repl k ry
  · rw [if_neg q, if_neg q]; exact Paired.snoc r ⟨rfl, rfl, ry⟩
theorem putQ_keys {K : PySem.W.Frag} {H : Hp} {qs : Q3} {k : NK} {b : Addr} {v : V} (h : KeysN K H qs) (hb : KeyAt K H (.ref b) k) (hl : qs.length < sizeLine) : KeysN K H (putQ qs k b v) := by
  unfold putQ
  split
  · refine ⟨fun q hq => ?_, by rw [List.length_map]; exact h.2⟩
    obtain ⟨q', hq', rfl⟩ := List.mem_map.mp hq
    have := h.1 q' hq'
    split
    · exact this
    · exact this
  · refine ⟨fun q hq => ?_, by rw [List.length_append, List.length_singleton]; exact hl⟩
    rcases List.mem_append.mp hq with hq | hq
    · exact h.1 q hq
    · rw [List.mem_singleton.mp hq]
      exact hb
theorem paired_ix {α β : Type} {R : α → β → Prop} : ∀ {l : List α} {m : List β}, l.length = m.length → (∀ (j : Nat) (x : α) (y : β), l[j]? = some x → m[j]? = some y → R x y) → Paired R l m
  | [], [], _, _ => .nil
  | [], _ :: _, h, _ => by cases h
  | _ :: _, [], h, _ => by cases h
  | x :: l, y :: m, h, k => .cons (k 0 x y rfl rfl) (paired_ix (Nat.succ.inj h) fun j a b ha hb => k (j + 1) a b ha hb)
theorem paired_mem {α β : Type} {R : α → β → Prop} {l : List α} {m : List β} (h : Paired R l m) {y : β} (hy : y ∈ m) : ∃ x ∈ l, R x y := by
  induction h with
  | nil => cases hy
  | cons r t ih =>
    rcases List.mem_cons.mp hy with e | hy
    · exact ⟨_, List.mem_cons_self, e ▸ r⟩
    · obtain ⟨x, hx, rx⟩ := ih hy
      exact ⟨x, List.mem_cons_of_mem _ hx, rx⟩
section
variable {X : Cx} {pins : List (Addr × Obj)} {σ : L2.St} {H : Hp} {s : Shared} {a : Addr} {y v : V} {u r : Value} {A : Around} {E : Value → Shared → Prop} {kvs : List (NK × V)} {k : NK} {qs : Q3}
theorem q_raw (I : Inv X pins σ H s) (g : Rd H a (NQ X.prog X.w a qs)) (hk : KeysN X.K H qs) : (a == sysModules) = false ∧ ∃ xs, XR qs xs ∧ s.heap.DictOfH (nestedKind X.prog X.w) a xs := by
  have g' : ObjOk X.prog X.w H s.heap a (NQ X.prog X.w a qs) := g.ok I.hok
  obtain ⟨⟨h1, xs, h2, ⟨o, es, ep, e1, e2, e3, e4⟩, h3⟩, _, _⟩ := g'
  refine ⟨h1, xs, h2, o, es, ep, e1, e2, e3, e4, fun x hx => ?_, h3⟩
  obtain ⟨q, hq, r1, r2, _⟩ := paired_mem h2 hx
  have hka := hk.1 q hq
  exact ⟨by rw [← r1, ← r2]; exact nk_is I hka.isk rfl, by rw [← r1]; exact hka.dep⟩
theorem key_is (I : Inv X pins σ H s) {b : Addr} (h : KeyAt X.K H (.ref b) k) : (nestedKind X.prog X.w).is s.heap k b := ⟨nk_is I h.isk rfl, h.dep⟩
theorem room1 (hu : A.units + 9 < cLine) : (nestedKind X.prog X.w).room A.in1 := by
  show A.in1.units + 8 < cLine
  rw [Around.in1_units]
  omega
/-- d[k] -/
theorem n_getItem {Q : Value → Shared → Prop} (hu : A.units + 9 < cLine) (I : Inv X pins σ H s) (g : DN X.prog X.w X.K H a kvs) (hk : KeyAt X.K H y k) (e : valV kvs k = some v) (ry : RelV y u) (h : ∀ w' s', Inv X pins σ H s' → RelV v w' → Q w' s') :
    wpAny (model X.prog X.w) A (getItem (.ref a) u) Q E s := by
  obtain ⟨qs, g, rfl, hq⟩ := g
  obtain ⟨b, rfl⟩ := hk.ref
  obtain rfl : u = Value.ref b := ry
  obtain ⟨hd, xs, rel, dd⟩ := q_raw I g hq
  obtain ⟨w', hw, rw'⟩ := RelO.some_of (v := v) (o := (atKey xs k).map (·.2)) (by rw [← e]; exact rel.val k)
  obtain ⟨p, hp, hp2⟩ := Option.map_eq_some_iff.mp hw
  refine wpAny_getItem_heap (room1 (X := X) hu) (key_is I hk) dd hp ?_
  rw [hp2]
  exact h w' _ (I.tok _) rw'
theorem n_in {Q : Value → Shared → Prop} (hu : A.units + 9 < cLine) (I : Inv X pins σ H s) (g : DN X.prog X.w X.K H a kvs) (hk : KeyAt X.K H y k) (ry : RelV y u) (h : ∀ s', Inv X pins σ H s' → Q (.bool (valV kvs k).isSome) s') :
    wpAny (model X.prog X.w) A (compareOp .In u (.ref a)) Q E s := by
  obtain ⟨qs, g, rfl, hq⟩ := g
  obtain ⟨b, rfl⟩ := hk.ref
  obtain rfl : u = Value.ref b := ry
  obtain ⟨hd, xs, rel, dd⟩ := q_raw I g hq
  refine wpAny_in_heap (room1 (X := X) hu) (key_is I hk) hd dd ?_
  have q := (rel.val k).isSome_eq
  rw [Option.isSome_map] at q
  rw [← q]
  exact h _ (I.tok _)
theorem n_notIn {Q : Value → Shared → Prop} (hu : A.units + 9 < cLine) (I : Inv X pins σ H s) (g : DN X.prog X.w X.K H a kvs) (hk : KeyAt X.K H y k) (ry : RelV y u) (h : ∀ s', Inv X pins σ H s' → Q (.bool (!(valV kvs k).isSome)) s') :
    wpAny (model X.prog X.w) A (compareOp .NotIn u (.ref a)) Q E s := by
  obtain ⟨qs, g, rfl, hq⟩ := g
  obtain ⟨b, rfl⟩ := hk.ref
  obtain rfl : u = Value.ref b := ry
  obtain ⟨hd, xs, rel, dd⟩ := q_raw I g hq
  refine wpAny_notIn_heap (room1 (X := X) hu) (key_is I hk) hd dd ?_
  have q := (rel.val k).isSome_eq
  rw [Option.isSome_map] at q
  rw [← q]
  exact h _ (I.tok _)
/-- what is behind a store at a -/
theorem n_stored {h' : Heap} {t' : Nat} {b : Addr} {xs : List (NK × Addr × Value)} (I : Inv X pins σ H s) (g : H a = some (NQ X.prog X.w a qs)) (hd : (a == sysModules) = false) (hq : KeysN X.K H qs) (hk : KeyAt X.K H (.ref b) k) (hl : qs.length < sizeLine) (rel : XR qs xs) (rv : RelV v r)
    (dd' : h'.DictOfH (nestedKind X.prog X.w) a (storedH xs k b r)) (hs : Heap.SameBut a s.heap h') : ∃ H', Inv X pins σ H' { s with heap := h', toks := t' } ∧ SameX a H H' ∧ DNm X.prog X.w X.K H' a (putK (pairsN qs) k v) := by
  obtain ⟨o, es, ep, e1, e2, e3, e4, _, e5⟩ := dd'
  have nt : NotT H a := notT_ext g
  have sx : SameX a H (upd H a (NQ X.prog X.w a (putQ qs k b v))) := sx_put (sx_of (Same.refl H))
  refine ⟨upd H a (NQ X.prog X.w a (putQ qs k b v)), ?_, sx, putQ qs k b v, upd_same, pairs_putQ .., (putQ_keys hq hk hl).mono fun _ _ => sqt_sx' sx nt⟩
  exact d_write I (by rw [g]; exact True.intro) hs ⟨o, e1⟩ (rawN_ok ⟨hd, _, rel.put k rv, ⟨o, es, ep, e1, e2, e3, e4⟩, e5⟩)
/-- d[k] = v -/
theorem n_setItem {Q : Unit → Shared → Prop} (hu : A.units + 9 < cLine) (I : Inv X pins σ H s) (g : DNm X.prog X.w X.K H a kvs) (hk : KeyAt X.K H y k) (hl : kvs.length < sizeLine) (ry : RelV y u) (rv : RelV v r)
    (h : ∀ H' s', Inv X pins σ H' s' → SameX a H H' → DNm X.prog X.w X.K H' a (putK kvs k v) → Q () s') : wpAny (model X.prog X.w) A (setItem (.ref a) u r) Q E s := by
  obtain ⟨qs, g, rfl, hq⟩ := g
  obtain ⟨b, rfl⟩ := hk.ref
  obtain rfl : u = Value.ref b := ry
  obtain ⟨hd, xs, rel, dd⟩ := q_raw I (.inl g) hq
  have hl' : qs.length < sizeLine := by unfold pairsN at hl; rwa [List.length_map] at hl
  have hz : xs.length ≤ sizeLine := by rw [← Paired.length rel]; exact hq.2
  refine wpAny_setItem_heap (hsz := hz) (room1 (X := X) hu) (key_is I hk) dd fun h' dd' hs => ?_
  obtain ⟨H', I', sx, dn⟩ := n_stored (t' := s.toks + (nestedKind X.prog X.w).draws k) I g hd hq hk hl' rel rv dd' hs
  exact h H' _ I' sx dn
theorem n_dictSet {Q : Unit → Shared → Prop} (hu : A.units + 8 < cLine) (I : Inv X pins σ H s) (g : DNm X.prog X.w X.K H a kvs) (hk : KeyAt X.K H y k) (hl : kvs.length < sizeLine) (ry : RelV y u) (rv : RelV v r)
    (h : ∀ H' s', Inv X pins σ H' s' → SameX a H H' → DNm X.prog X.w X.K H' a (putK kvs k v) → Q () s') : wpAny (model X.prog X.w) A (dictSet a u r) Q E s := by
  obtain ⟨qs, g, rfl, hq⟩ := g
  obtain ⟨b, rfl⟩ := hk.ref
  obtain rfl : u = Value.ref b := ry
  obtain ⟨hd, xs, rel, dd⟩ := q_raw I (.inl g) hq
  have hl' : qs.length < sizeLine := by unfold pairsN at hl; rwa [List.length_map] at hl
  have hz : xs.length ≤ sizeLine := by rw [← Paired.length rel]; exact hq.2
  refine wpAny_dictSet_heap (hsz := hz) (show (nestedKind X.prog X.w).room A from hu) (key_is I hk) dd fun h' dd' hs => ?_
  obtain ⟨H', I', sx, dn⟩ := n_stored (t' := s.toks + (nestedKind X.prog X.w).draws k) I g hd hq hk hl' rel rv dd' hs
  exact h H' _ I' sx dn
theorem n_typeIs (I : Inv X pins σ H s) (g : DN X.prog X.w X.K H a kvs) : s.TypeIs (.ref a) "dict" := by
  obtain ⟨qs, g, rfl, hq⟩ := g
  obtain ⟨_, xs, _, dd⟩ := q_raw I g hq
  exact dd.typeIs
end
def tDGetN (P : Program) (w : World) (K : PySem.W.Frag) (td ty : TE) : TE := fun σ H Q => td σ H fun x H1 => ty σ H1 fun y H2 => ∃ a kvs k v, x = .ref a ∧ DN P w K H2 a kvs ∧ KeyAt K H2 y k ∧ valV kvs k = some v ∧ Q v H2
def tDInN (P : Program) (w : World) (K : PySem.W.Frag) (ty td : TE) : TE := fun σ H Q => ty σ H fun y H1 => td σ H1 fun x H2 => ∃ a kvs k, x = .ref a ∧ DN P w K H2 a kvs ∧ KeyAt K H2 y k ∧ Q (.bl (valV kvs k).isSome) H2
def tDNotInN (P : Program) (w : World) (K : PySem.W.Frag) (ty td : TE) : TE := fun σ H Q => ty σ H fun y H1 => td σ H1 fun x H2 => ∃ a kvs k, x = .ref a ∧ DN P w K H2 a kvs ∧ KeyAt K H2 y k ∧ Q (.bl (!(valV kvs k).isSome)) H2
def sDPutN (P : Program) (w : World) (K : PySem.W.Frag) (td ty tv : TE) : TS := fun D σ H => tv σ H fun v H1 => td σ H1 fun x H2 => ty σ H2 fun y H3 => ∃ a kvs k, x = .ref a ∧ DNm P w K H3 a kvs ∧ KeyAt K H3 y k ∧ kvs.length < sizeLine ∧ ∀ H4, SameX a H3 H4 → DNm P w K H4 a (putK kvs k v) → D.nx σ H4
def tDNewN (P : Program) (w : World) (K : PySem.W.Frag) : TE := fun _ H Q => ∀ p H', H p = none → Same H H' → DNm P w K H' p [] → Q (.ref p) H'
section
variable {X : Cx} {o i e value : Expr} {pos pos' tpos : Pos} {td ty tv : TE} (P : Program) (w : World) (K : PySem.W.Frag)
theorem pe_dgetN (hu : X.A.units + 9 < cLine) (ho : PE X o td) (hi : PE X i ty) (hs : NoSl i) (hP : X.prog = P := by rfl) (hw : X.w = w := by rfl) (hK : X.K = K := by rfl) : PE X (.Subscript o i pos) (tDGetN P w K td ty) := by
  subst hP hw hK
  refine ⟨fun pins s σ H Q I h => ?_⟩
  refine subD_of PySem.F.slot_dict_getitem.lookup hs (thn (ho.run pins s σ H _ I h) fun u s1 ⟨x, H1, I1, rx, q1⟩ => thn (hi.run pins s1 σ H1 _ I1 q1) fun iv s2 ⟨y, H2, I2, ry, a, kvs, k, v, ex, g, hk, e, q2⟩ => ?_)
  subst ex
  obtain rfl : u = Value.ref a := rx
  exact ⟨n_typeIs I2 g, n_getItem hu I2 g hk e ry fun w' s3 I3 rw' => ⟨v, H2, I3, rw', q2⟩⟩
theorem pc_dinN (hu : X.A.units + 9 < cLine) (hi : PE X i ty) (ho : PE X o td) (hP : X.prog = P := by rfl) (hw : X.w = w := by rfl) (hK : X.K = K := by rfl) : PC X .In i o (tDInN P w K ty td) := by
  subst hP hw hK
  refine ⟨fun pins s σ H Q I h => ?_⟩
  refine thn (hi.run pins s σ H _ I h) fun iv s1 ⟨y, H1, I1, ry, q1⟩ => thn (ho.run pins s1 σ H1 _ I1 q1) fun u s2 ⟨x, H2, I2, rx, a, kvs, k, ex, g, hk, q2⟩ => ?_
  subst ex
  obtain rfl : u = Value.ref a := rx
  exact n_in hu I2 g hk ry fun s3 I3 => ⟨.bl (valV kvs k).isSome, H2, I3, rfl, q2⟩
theorem pc_dnotinN (hu : X.A.units + 9 < cLine) (hi : PE X i ty) (ho : PE X o td) (hP : X.prog = P := by rfl) (hw : X.w = w := by rfl) (hK : X.K = K := by rfl) : PC X .NotIn i o (tDNotInN P w K ty td) := by
  subst hP hw hK
  refine ⟨fun pins s σ H Q I h => ?_⟩
  refine thn (hi.run pins s σ H _ I h) fun iv s1 ⟨y, H1, I1, ry, q1⟩ => thn (ho.run pins s1 σ H1 _ I1 q1) fun u s2 ⟨x, H2, I2, rx, a, kvs, k, ex, g, hk, q2⟩ => ?_
  subst ex
  obtain rfl : u = Value.ref a := rx
  exact n_notIn hu I2 g hk ry fun s3 I3 => ⟨.bl (!(valV kvs k).isSome), H2, I3, rfl, q2⟩
theorem ps_dputN (hu : X.A.units + 9 < cLine) (ho : PE X o td) (hi : PE X i ty) (hv : PE X value tv) (hs : swapsWith value (some (.Subscript o i pos')) pos.line X.env = pure false) (hP : X.prog = P := by rfl) (hw : X.w = w := by rfl) (hK : X.K = K := by rfl) :
    PS X (.Assign [.Subscript o i pos'] value pos) (sDPutN P w K td ty tv) := by
  subst hP hw hK
  refine ⟨fun pins s σ H D I h => ?_⟩
  refine wpAny_Assign_Subscript (thn (hv.run pins s σ H _ I h) fun r s1 ⟨v, H1, I1, rv, q1⟩ => thn (ho.run pins s1 σ H1 _ I1 q1) fun u s2 ⟨x, H2, I2, rx, q2⟩ => thn (hi.run pins s2 σ H2 _ I2 q2) fun iv s3 ⟨y, H3, I3, ry, a, kvs, k, ex, g, hk, hl, q3⟩ => ?_) hs
  subst ex
  obtain rfl : u = Value.ref a := rx
  exact n_setItem hu I3 g hk hl ry rv fun H4 s4 I4 sx dn => ⟨σ, H4, I4, q3 H4 sx dn⟩
theorem rawN_new {P : Program} {w : World} (h : Heap) (hb : sysModules < h.objs.size) : RawN P w h.objs.size [] (h.push { cls := .type "dict", data := .dict #[] }) :=
  ⟨beq_eq_false_iff_ne.mpr (Ne.symm (Nat.ne_of_lt hb)), [], .nil, ⟨_, #[], 0, Heap.get?_push_size _ rfl, ⟨rfl, rfl, rfl⟩, rfl, rfl⟩, List.nodup_nil⟩
theorem pe_dnewN (hP : X.prog = P := by rfl) (hw : X.w = w := by rfl) (hK : X.K = K := by rfl) : PE X (.Dict [] [] pos) (tDNewN P w K) := by
  subst hP hw hK
  refine ⟨fun pins s σ H Q I h => ?_⟩
  have hn := I.hok.fresh (Nat.le_refl s.heap.objs.size)
  exact wpAny_Dict_empty ⟨.ref s.heap.objs.size, _, I.laid (a := s.heap.objs.size) (o := NQ X.prog X.w s.heap.objs.size []) (t' := s.toks) (fun _ _ q => Heap.get?_push_of_some _ q) (Nat.le_refl _) (rawN_ok (rawN_new s.heap I.big)), rfl, h _ _ hn (same_new hn) ⟨[], upd_same, rfl, fun q hq => (by cases hq), Nat.zero_le _⟩⟩
end
end Nd

set_option maxRecDepth 100000
set_option maxHeartbeats 4000000
namespace Nd
open PySem PySem.Spec PyProof.Rows L2 Ly LamX
/-- an item is a pair -/
def PairV (K : PySem.W.Frag) (H : Hp) (kv : NK × V) (v : V) : Prop := ∃ t y, v = .ref t ∧ SqT K H t [y, kv.2] ∧ KeyAt K H y kv.1
theorem PairV.mono {K : PySem.W.Frag} {H H' : Hp} {kv : NK × V} {v : V} (h : PairV K H kv v) (m : ∀ a xs, SqT K H a xs → SqT K H' a xs) : PairV K H' kv v := let ⟨t, y, e, h1, h2⟩ := h; ⟨t, y, e, m _ _ h1, h2.mono m⟩
theorem PairV.same {K : PySem.W.Frag} {H H' : Hp} {kv : NK × V} {v : V} (h : PairV K H kv v) (s : Same H H') : PairV K H' kv v := h.mono fun _ _ => same_sqt s
def rDictNf (P : Program) (w : World) (K : PySem.W.Frag) : List V → Hp → VK → Prop := fun vs H Q => ∃ p items kvs, vs = [.ref p] ∧ (SqL K H p items ∨ KnT H p items) ∧ Paired (PairV K H) kvs items ∧ (kvs.map (·.1)).Nodup ∧
  ∀ d H', H d = none → Same H H' → DNf P w K H' d kvs → Q (.ref d) H'
section
variable {X : Cx} {pins : List (Addr × Obj)} {σ : L2.St} {H : Hp} {s : Shared}
theorem pairs_make (I : Inv X pins σ H s) : ∀ {kvs : List (NK × V)} {items : List V} {its : List Value}, Paired (PairV X.K H) kvs items → Vals items its → ∃ (Ts : List Addr) (ps : List (NK × Addr × Value)) (qs : Q3), its = Ts.map Value.ref ∧ Ts.length = ps.length ∧ pairsN qs = kvs ∧ XR qs ps ∧ (∀ q ∈ qs, KeyAt X.K H (.ref q.2.1) q.1) ∧
    ∀ (j : Nat) (T : Addr) (x : NK × Addr × Value), Ts[j]? = some T → ps[j]? = some x → PairAt s.heap T (.ref x.2.1) x.2.2
  | _, _, _, .nil, .nil => ⟨[], [], [], rfl, rfl, rfl, .nil, fun q hq => (by cases hq), fun j T x h => by simp at h⟩
  | _, _, _, .cons (a := kv) h t, .cons r rs => by
    obtain ⟨Ts, ps, qs, e1, e2, e3, e4, e5, e6⟩ := pairs_make I t rs
    obtain ⟨T, y, rfl, hT, hk⟩ := h
    obtain ⟨b, rfl⟩ := hk.ref
    cases r
    obtain ⟨its', rv, hobj, _⟩ := I.tuple hT
    cases rv with
    | cons r1 rv =>
      cases rv with
      | cons r2 rv =>
        cases rv
        rename_i u1 u2
        obtain rfl : u1 = Value.ref b := r1
        refine ⟨T :: Ts, (kv.1, b, u2) :: ps, (kv.1, b, kv.2) :: qs, by rw [e1]; rfl, by simp [e2], by rw [← e3]; rfl, .cons ⟨rfl, rfl, r2⟩ e4, fun q hq => ?_, fun j T' x h1 h2 => ?_⟩
        · rcases List.mem_cons.mp hq with rfl | hq
          · exact hk
          · exact e5 q hq
        · cases j with
          | zero =>
            cases h1
            cases h2
            exact .inl (let ⟨o, ho, hc, n, hd⟩ := hobj; ⟨o, ho, hc, n, hd⟩)
          | succ j => exact e6 j T' x h1 h2
theorem xr_keys {qs : Q3} {ps : List (NK × Addr × Value)} (h : XR qs ps) : ps.map (·.1) = (pairsN qs).map (·.1) := by
  induction h with
  | nil => rfl
  | cons r t ih =>
    rw [List.map_cons, show pairsN (_ :: _) = _ :: pairsN _ from rfl, List.map_cons, ih, r.1]
theorem dict_pairs (hc : X.calm = true) (hu : X.A.units + 10 < cLine) (I : Inv X pins σ H s) {p : Addr} {items : List V} {kvs : List (NK × V)} {Q : Value → Shared → Prop} (hp : SqL X.K H p items ∨ KnT H p items) (hv : Paired (PairV X.K H) kvs items) (hn : (kvs.map (·.1)).Nodup)
    (h : ∀ s' qs, s'.heap.objs.size ≥ s.heap.objs.size → H s.heap.objs.size = none → Inv X pins σ (upd H s.heap.objs.size (NQ X.prog X.w s.heap.objs.size qs)) s' → pairsN qs = kvs → KeysN X.K (upd H s.heap.objs.size (NQ X.prog X.w s.heap.objs.size qs)) qs → Q (.ref s.heap.objs.size) s') :
    wpAny (model X.prog X.w) X.A (call (.type "dict") [.ref p]) Q X.xe s := by
  have hfresh := I.hok.fresh (Nat.le_refl s.heap.objs.size)
  -- the argument's items
  have arg : ∃ its : List Value, Vals items its ∧ items.length ≤ sizeLine ∧ (PlainSeq "list" s.heap p its.toArray ∨ PlainSeq "tuple" s.heap p its.toArray) := by
    rcases hp with hp | ⟨ob, hp, hd⟩
    · obtain ⟨its, rv, ⟨o, n, e1, e2, e3, e4⟩, hz⟩ := I.list hp
      exact ⟨its, rv, hz, .inl ⟨o, n, e1, e2, e3, e4⟩⟩
    · obtain ⟨its, rv, ⟨o, e1, e2, n, e3⟩, hz⟩ := I.tuple (.inl (.inr ⟨ob, hp⟩))
      have e4 := (I.hok p _ hp).1
      rw [e1] at e4
      cases e4
      exact ⟨its, rv, hz, .inr ⟨_, n, e1, e2, hd, e3⟩⟩
  obtain ⟨its, rv, hz, hpl⟩ := arg
  obtain ⟨Ts, ps, qs, e1, e2, e3, e4, e5, e6⟩ := pairs_make I hv rv
  have hlen : ps.length ≤ sizeLine := by
    have h1 := rv.length
    rw [e1, List.length_map] at h1
    omega
  have hql : qs.length ≤ sizeLine := by rw [Paired.length e4]; exact hlen
  have hpi : PairItems s.heap its.toArray (fun j => Ts.getD j 0) (ps.map fun x => (Value.ref x.2.1, x.2.2)) := by
    refine ⟨by rw [List.size_toArray, e1, List.length_map, List.length_map]; exact e2, fun j k v hj => ?_⟩
    rw [List.getElem?_map] at hj
    obtain ⟨x, hx, ex⟩ := Option.map_eq_some_iff.mp hj
    cases ex
    have hjl : j < Ts.length := by rw [e2]; exact (List.getElem?_eq_some_iff.mp hx).1
    have hT : Ts[j]? = some Ts[j] := List.getElem?_eq_getElem hjl
    have hg : Ts.getD j 0 = Ts[j] := by rw [List.getD_eq_getElem?_getD, hT]; rfl
    show its.toArray[j]? = some (Value.ref (Ts.getD j 0)) ∧ PairAt s.heap (Ts.getD j 0) _ _
    rw [hg]
    refine ⟨?_, e6 j _ x hT hx⟩
    rw [e1, List.getElem?_toArray, List.getElem?_map, hT]
    rfl
  have hst : KeysStay (nestedKind X.prog X.w) s.heap s.heap.objs.size [] ps := fun h' hk x hx => by
    obtain ⟨q, hq, r1, r2, _⟩ := paired_mem e4 hx
    have hka := e5 q hq
    refine ⟨NestedIs.at (fun a o vs n ha _ => hk a o (Nat.ne_of_lt (Heap.lt_size ha)) (by simp) ha) _ _ (by rw [← r1, ← r2]; exact nk_is I hka.isk rfl), by rw [← r1]; exact hka.dep⟩
  have hnp : (ps.map (·.1)).Nodup := by rw [xr_keys e4, e3]; exact hn
  have fin : ∀ h' tk, h'.DictOfH (nestedKind X.prog X.w) s.heap.objs.size (storedAllH [] ps) → (∀ b o, b ∉ ([] : List Addr) → s.heap.get? b = some o → h'.get? b = some o) → Q (.ref s.heap.objs.size) { s with heap := h', toks := tk } := fun h' tk dd hk => by
    rw [storedAllH_nil_of_nodup ps hnp] at dd
    obtain ⟨o, es, ep, f1, f2, f3, f4, _, f5⟩ := dd
    have hS : (s.heap.objs.size == sysModules) = false := beq_eq_false_iff_ne.mpr (Ne.symm (Nat.ne_of_lt I.big))
    have sm := same_new (o := NQ X.prog X.w s.heap.objs.size qs) hfresh
    refine h { s with heap := h', toks := tk } qs ?_ hfresh (I.laid (t' := tk) (fun b u e => hk b u (by simp) e) (Nat.le_refl _) (rawN_ok ⟨hS, ps, e4, ⟨o, es, ep, f1, f2, f3, f4⟩, f5⟩)) e3 ⟨fun q hq => (e5 q hq).same sm, hql⟩
    exact Nat.le_of_lt (Heap.lt_size f1)
  have hroom : (nestedKind X.prog X.w).room X.A.in1.in1 := by
    show X.A.in1.in1.units + 8 < cLine
    rw [Around.in1_units, Around.in1_units]
    omega
  rcases hpl with hpl | hpl
  · exact call_dict_pairsH (knd := nestedKind X.prog X.w) (PairArg.list p its.toArray _ _) (I.ok.hd hc) hroom ⟨hpl, hpi⟩ ⟨(List.length_map _).symm, fun i key v hr => by
      rw [PairRel, List.getElem?_map] at hr
      obtain ⟨x, hx, ex⟩ := Option.map_eq_some_iff.mp hr
      cases ex
      exact ⟨x.1, x.2.1, hx, rfl⟩⟩ hst (by rw [List.length_map]; exact hlen) fin
  · exact call_dict_pairsH (knd := nestedKind X.prog X.w) (PairArg.tuple p its.toArray _ _) (I.ok.hd hc) hroom ⟨hpl, hpi⟩ ⟨(List.length_map _).symm, fun i key v hr => by
      rw [PairRel, List.getElem?_map] at hr
      obtain ⟨x, hx, ex⟩ := Option.map_eq_some_iff.mp hr
      cases ex
      exact ⟨x.1, x.2.1, hx, rfl⟩⟩ hst (by rw [List.length_map]; exact hlen) fin
end
section
variable {X : Cx} (P : Program) (w : World) (K : PySem.W.Frag)
theorem call_dictNf (hc : X.calm = true) (hu : X.A.units + 10 < cLine) (hP : X.prog = P := by rfl) (hw : X.w = w := by rfl) (hK : X.K = K := by rfl) : CallR X (.type "dict") (rDictNf P w K) := by
  subst hP hw hK
  intro pins s σ H vs us Q I r h
  obtain ⟨p, items, kvs, rfl, hp, hv, hn, q⟩ := h
  obtain ⟨u, rfl, ru⟩ := vals1 r
  obtain rfl : u = Value.ref p := ru
  refine dict_pairs hc hu I hp hv hn fun s' qs _ hf I' e hk => ?_
  obtain ⟨od, I2⟩ := I'.lock upd_same True.intro
  rw [upd_upd] at I2
  have sm := same_new (o := HO.frz od (NQ X.prog X.w s.heap.objs.size qs)) hf
  refine ⟨.ref s.heap.objs.size, _, I2, rfl, q _ _ hf sm ⟨od, qs, upd_same, e, hk.mono fun a xs hs => ?_⟩⟩
  rcases hs with (hs | ⟨o, hs⟩) | hs
  · by_cases ha : a = s.heap.objs.size
    · rw [ha, upd_same] at hs; cases hs
    · rw [upd_ne ha] at hs; exact .inl (.inl (by rw [upd_ne ha]; exact hs))
  · by_cases ha : a = s.heap.objs.size
    · rw [ha, upd_same] at hs; cases hs
    · rw [upd_ne ha] at hs; exact .inl (.inr ⟨o, by rw [upd_ne ha]; exact hs⟩)
  · exact .inr hs
end
/-- a statement behind which the thing at d is never changed any more -/
def tFrz (t : TS) : TS := fun D σ H => ∃ d u, H d = some u ∧ Mut (some u) ∧ ∀ od, t D σ (upd H d (.frz od u))
section
variable {X : Cx}
theorem ps_frz {st : Stmt} {t : TS} (h : PS X st t) : PS X st (tFrz t) := by
  refine ⟨fun pins s σ H D I hw => ?_⟩
  obtain ⟨d, u, hd, mu, hw⟩ := hw
  obtain ⟨od, I1⟩ := I.lock hd mu
  exact h.run pins s σ _ _ I1 (hw od)
end
/-- a changed dict becomes a known one -/
theorem DNm.frz {P : Program} {w : World} {K : PySem.W.Frag} {H : Hp} {d : Addr} {kvs : List (NK × V)} (h : DNm P w K H d kvs) : ∃ u, H d = some u ∧ Mut (some u) ∧ ∀ od, DNf P w K (upd H d (.frz od u)) d kvs ∧ SameX d H (upd H d (.frz od u)) := by
  obtain ⟨qs, e, r, k⟩ := h
  refine ⟨_, e, True.intro, fun od => ?_⟩
  have sx : SameX d H (upd H d (.frz od (NQ P w d qs))) := sx_put (sx_of (Same.refl H))
  exact ⟨⟨od, qs, upd_same, r, k.mono fun _ _ => sqt_sx' sx (notT_ext e)⟩, sx⟩
end Nd

set_option maxRecDepth 100000
set_option maxHeartbeats 4000000
namespace Nd
open PySem PySem.Spec PyProof.Rows L2 Ly LamX
def tDcN (P : Program) (w : World) (K : PySem.W.Frag) (wi : TI) (g : TG) (tt : TT) (tk tv : TE) (vs : List Nat) : TE := fun σ H Q => wi σ H fun J H1 => ∀ D, H1 D = none → ∃ W : Nat → Nat → Hp → Prop, (∃ m, W 0 m (upd H1 D (NQ P w D []))) ∧ ∀ i m H, W i m H →
  (J.stop i H ∧ Q (.ref D) H) ∨ (J.go i H ∧ ∃ Nx : Hp → Prop, (∀ H', Nx H' → ∃ m', m' < m ∧ W (i + 1) m' H') ∧ ∀ x H', J.yld i H x H' → g x (wipe σ vs) H' fun σ2 H2 => wipe σ2 vs = wipe σ vs ∧ tt σ2 H2 fun b H3 =>
    if b = true then tk σ2 H3 fun y H4 => tv σ2 H4 fun z H5 => ∃ kvs k, DNm P w K H5 D kvs ∧ KeyAt K H5 y k ∧ kvs.length < sizeLine ∧ ∀ H6, SameX D H5 H6 → DNm P w K H6 D (putK kvs k z) → Nx H6 else Nx H3)
section
variable {X : Cx}
theorem pe_dcN (P : Program) (w : World) (K : PySem.W.Frag) {kx vx tg iter : Expr} {ifs : List Expr} {scope : Scope} {own : List (Str × Nat)} {pos : Pos} {wi : TI} {g : TG} {tt : TT} {tk tv : TE} (hc : X.calm = true) (hN : X.N.Nodup) (hu : X.A.units + 8 < cLine) (hi : PI X tg iter wi) (ok : BlkOk X.N X.env.scope scope own)
    (hg : ∀ (s : Shared) (H : Hp) (C : Addr) (cl : List (Str × Addr)) (fp : List Addr), PG (X.blk s H scope (compEnvC scope cl C X.env) fp) tg g) (ht : ∀ (s : Shared) (H : Hp) (C : Addr) (cl : List (Str × Addr)) (fp : List Addr), PTs (X.blk s H scope (compEnvC scope cl C X.env) fp) ifs tt)
    (hk : ∀ (s : Shared) (H : Hp) (C : Addr) (cl : List (Str × Addr)) (fp : List Addr), PE (X.blk s H scope (compEnvC scope cl C X.env) fp) kx tk)
    (he : ∀ (s : Shared) (H : Hp) (C : Addr) (cl : List (Str × Addr)) (fp : List Addr), PE (X.blk s H scope (compEnvC scope cl C X.env) fp) vx tv) (hs : ∀ x, foldedSetIterable iter X.env x = pure x := by intro _; rfl)
    (hP : X.prog = P := by rfl) (hw : X.w = w := by rfl) (hK : X.K = K := by rfl) :
    PE X (.DictComp kx vx [⟨tg, iter, ifs, 0⟩] scope pos) (tDcN P w K wi g tt tk tv (own.map (·.2))) := by
  subst hP hw hK
  refine ⟨fun pins s0 σ H Q I h => ?_⟩
  rw [arm_eval_DictComp]
  have cells : ∀ y ∈ scope.names, y.2 = .free → ∃ c, X.env.cells.lookup y.1 = some c := fun y hy e => (ok.free y hy e).elim (fun k => I.ok.has _ (.inl k)) fun k => I.ok.has _ (.inr k)
  refine wpAny_comprehension_free (use := none) rfl hs (closure_ok cells) ok.kind (fun y hy e => by rw [ok.uniq y hy, e])
    (thn (hi.run pins s0 σ H _ I h) fun xv sa hx => thn hx fun itv sb hb => ?_)
  obtain ⟨it, fp, tn, J, Hb, rfl, Ib, T, stb, frb, q⟩ := hb
  refine wpAny_newObj_type (newEnv_comp ?_)
  have hDn : Hb sb.heap.objs.size = none := Ib.hok.fresh (Nat.le_refl _)
  obtain ⟨W, ⟨m0, w0⟩, turn⟩ := q sb.heap.objs.size hDn
  -- the new dict
  have Ic : Inv X pins σ (upd Hb sb.heap.objs.size (NQ X.prog X.w sb.heap.objs.size [])) { sb with heap := sb.heap.push { cls := .type "dict", data := .dict #[] } } :=
    Ib.laid (t' := sb.toks) (fun b o e => Heap.get?_push_of_some _ e) (Nat.le_refl _) (rawN_ok (rawN_new sb.heap Ib.big))
  have big : ∀ b ∈ fp, b < sb.heap.objs.size := fun b hb => let ⟨_, e, _⟩ := T.obj _ _ stb b hb; Heap.lt_size e
  generalize hD : sb.heap.objs.size = D at hDn w0 turn Ic big ⊢
  generalize hH : upd Hb D (NQ X.prog X.w D []) = Hc at w0 Ic
  generalize hsc : ({ sb with heap := sb.heap.push { cls := .type "dict", data := .dict #[] } } : Shared) = sc at Ic
  have hhc : sc.heap = sb.heap.push { cls := .type "dict", data := .dict #[] } := by rw [← hsc]
  have frc : ∀ b ∈ fp, FpOk X pins Hc b ∧ b < sc.heap.objs.size := fun b hb => by
    have hlt := big b hb
    refine ⟨⟨?_, (frb b hb).2⟩, by rw [hhc, Heap.size_push, hD]; exact Nat.lt_succ_of_lt hlt⟩
    rw [← hH, upd_ne (Nat.ne_of_lt hlt)]
    exact (frb b hb).1
  have stc : tn 0 sc.heap := T.keep _ _ _ stb fun b _ o e => by rw [hhc]; exact Heap.get?_push_of_some _ e
  have Id := block_start Ic ok hN frc
  have pg := hg sc Hc sc.heap.objs.size (cellsFrom (sc.heap.objs.size + 1) scope.names (cloFrom X.env.cells scope.names [])) fp
  have pt := ht sc Hc sc.heap.objs.size (cellsFrom (sc.heap.objs.size + 1) scope.names (cloFrom X.env.cells scope.names [])) fp
  have pk := hk sc Hc sc.heap.objs.size (cellsFrom (sc.heap.objs.size + 1) scope.names (cloFrom X.env.cells scope.names [])) fp
  have pe := he sc Hc sc.heap.objs.size (cellsFrom (sc.heap.objs.size + 1) scope.names (cloFrom X.env.cells scope.names [])) fp
  have nfp : ∀ b ∈ fp, Hc b = none := fun b hb => (frc b hb).1.1
  -- behind the loop
  have leave : ∀ s' m H', Inv X pins σ H' s' → Q (.ref D) H' → s'.heap.Ns sc.heap.objs.size m → FpOk X pins H' sc.heap.objs.size → compPost (model X.prog X.w) X.A X.xe none (EP X pins σ Q) (.ref D) sc.heap.objs.size (.ok .next) s' := fun s' m H' I' q' hn f => ⟨m, hn, fun h'' sm => by
    obtain ⟨f0, f1, f2, f3, f4, f5⟩ := f
    exact ⟨.ref D, H', I'.turned (t' := s'.toks) (fun b o hb e => (sm.2 b hb).trans e) f0 f1 f3 f4 f5, rfl, q'⟩⟩
  show codeAny _ _ (.compStart (.DictComp kx vx [⟨tg, iter, ifs, 0⟩] scope pos) 0 (.ref it) (.ref D) (compEnvC scope (cellsFrom (sc.heap.objs.size + 1) scope.names (cloFrom X.env.cells scope.names [])) sc.heap.objs.size X.env)) (compPost (model X.prog X.w) X.A X.xe none (EP X pins σ Q) (.ref D) sc.heap.objs.size) _
  generalize hce : compEnvC scope (cellsFrom (sc.heap.objs.size + 1) scope.names (cloFrom X.env.cells scope.names [])) sc.heap.objs.size X.env = ce at Id pg pt pk pe ⊢
  have cL : ce.locals = sc.heap.objs.size := by subst hce; rfl
  generalize hsd' : ({ sc with heap := pushCells (sc.heap.push { cls := .type "dict", data := .dict #[] }) scope.names } : Shared) = sd at Id ⊢
  have std : tn 0 sd.heap := T.keep _ _ _ stc fun b _ o e => by rw [← hsd']; exact pushCells_keeps _ _ _ _ (Heap.get?_push_of_some _ e)
  have stat : ∀ {σ' : L2.St} {H' : Hp} {s' : Shared}, Inv (X.blk sc Hc scope ce fp) [] σ' H' s' → (∀ b ∈ fp, H' b = none) → ∀ b ∈ fp, FpOk (X.blk sc Hc scope ce fp) [] H' b := fun {σ' H' s'} I' hn b hb =>
    ⟨hn b hb, (I'.ok.exf b hb).1, I'.ok.exfs b hb, .inl hb, fun x c e => (I'.ok.exf b hb).2 x c e, fun p hp => absurd (show p ∈ ([] : List (Addr × Obj)) ++ [] from hp) (by simp)⟩
  have loop : codeAny (model X.prog X.w) X.A (.compLoop (.DictComp kx vx [⟨tg, iter, ifs, 0⟩] scope pos) 0 (.ref it) (.ref D) ce) (compPost (model X.prog X.w) X.A X.xe none (EP X pins σ Q) (.ref D) sc.heap.objs.size) sd := by
    refine compLoop_anyD (fun n s' => ∃ i H', Inv (X.blk sc Hc scope ce fp) [] (wipe σ (own.map (·.2))) H' s' ∧ tn i s'.heap ∧ (∀ b ∈ fp, H' b = none) ∧ W i n H') ?_ m0 ⟨0, Hc, Id, std, nfp, w0⟩
    rintro n s5 ⟨i, H5, I5, st5, n5, w5⟩
    rcases turn i n H5 w5 with ⟨stop, qq⟩ | ⟨go, Nx, hNx, step⟩
    · refine thnF (T.done (X.blk sc Hc scope ce fp) rfl rfl rfl hc i [] s5 _ H5 (fun _ _ => False) I5 (stat I5 n5) st5 stop) fun r s6 ⟨hr, I6⟩ => ?_
      subst hr
      have I7 : Inv X pins σ H5 s6 := Ic.call' (ch := fp) I6.os I6.base I6.hok I6.bare fun b hb => ⟨(frc b hb).1.2.2.2.1, (frc b hb).1.2.1, (frc b hb).1.2.2.2.2.1, (frc b hb).1.2.2.2.2.2⟩
      have nC : H5 sc.heap.objs.size = none := by
        have z : H5 ce.locals = none := I6.free
        rwa [cL] at z
      obtain ⟨m, hn, _⟩ := I6.loc
      have hn' : s6.heap.Ns sc.heap.objs.size m := by
        have hn : s6.heap.Ns ce.locals m := hn
        rwa [cL] at hn
      exact leave s6 m H5 I7 qq hn' (Ic.fpOk (Nat.le_refl _) nC)
    · refine thnF (T.item (X.blk sc Hc scope ce fp) rfl rfl rfl hc i [] s5 _ H5 (fun _ _ => False) I5 (stat I5 n5) st5 go) fun r s6 ⟨u, hr, h6⟩ => ?_
      subst hr
      refine thnF h6 fun _ s7 ⟨x, H7, I7, r7, y7, st7, n7⟩ => ?_
      have I7' := I7.pinned (stat I7 n7) (T.obj _ _ st7)
      refine thnF (pg.run _ s7 _ H7 x u _ I7' r7 (step x H7 y7)) fun _ s8 ⟨σ8, H8, I8, hw8, q8⟩ => thnF (pt.run _ s8 σ8 H8 _ I8 q8) fun b s9 ⟨H9, I9, q9⟩ => ?_
      have fin : ∀ {s' : Shared} {H' : Hp}, Inv (X.blk sc Hc scope ce fp) ([] ++ pinsAt fp s7.heap) σ8 H' s' → Nx H' → ∃ m, m < n ∧ ∃ i H', Inv (X.blk sc Hc scope ce fp) [] (wipe σ (own.map (·.2))) H' s' ∧ tn i s'.heap ∧ (∀ b ∈ fp, H' b = none) ∧ W i m H' := fun {s' H'} I' nx => by
        obtain ⟨m', hm, w'⟩ := hNx H' nx
        have pin' : ∀ b ∈ fp, ∀ o, s7.heap.get? b = some o → s'.heap.get? b = some o ∧ H' b = none := fun b hb o e =>
          let z := I'.pin (b, o) (List.mem_append_right _ (List.mem_append_right _ (mem_pinsAt hb e)))
          ⟨z.1, z.2.1⟩
        refine ⟨m', hm, i + 1, H', (I'.unpinned (pins := [])).weak (by rw [← hw8, wipe_length]) (fun j v e => ?_), T.keep _ _ _ st7 fun b hb o e => (pin' b hb o e).1, fun b hb => ?_, w'⟩
        · rw [← hw8] at e
          exact (wipe_some e).1
        · obtain ⟨o, e, _⟩ := T.obj _ _ st7 b hb
          exact (pin' b hb o e).2
      cases b with
      | false =>
        simp only [Bool.false_eq_true, if_false] at q9 ⊢
        exact fin I9 q9
      | true =>
        simp only [if_true] at q9 ⊢
        refine thnF (pk.run _ s9 σ8 H9 _ I9 q9) fun z s10 ⟨yk, H10, I10, r10, q10⟩ => thnF (pe.run _ s10 σ8 H10 _ I10 q10) fun z2 s11 ⟨yv, H11, I11, r11, kvs, k, hD11, hk11, hz11, nx⟩ => ?_
        exact n_dictSet (X := X.blk sc Hc scope ce fp) hu I11 hD11 hk11 hz11 r10 r11 fun H12 s12 I12 sx dn => fin I12 (nx H12 sx dn)
  exact codeAny_compStart_dict loop (T.self X.A 0 _ _ _ std loop)
end
/-- a dict comprehension over a walk -/
theorem dcN_it {P : Program} {w : World} {K : PySem.W.Frag} {J : It} {n : Nat} {G : Hp → Prop} {Y : Nat → Hp → V → Hp → Prop} (wk : Walk J n G Y) {g : TG} {tt : TT} {tk tv : TE} {vs : List Nat} {σ : L2.St} {H1 : Hp} {D : Addr} {Qd : Hp → Prop} (Pv : Nat → Hp → Prop) (hD : H1 D = none) (h0 : ∀ H', Same H1 H' → DNm P w K H' D [] → Pv 0 H') (hG : ∀ i H, i ≤ n → Pv i H → G H)
    (hs : ∀ i x H H', i < n → Pv i H → Y i H x H' → g x (wipe σ vs) H' fun σ2 H2 => wipe σ2 vs = wipe σ vs ∧ tt σ2 H2 fun b H3 =>
      if b = true then tk σ2 H3 fun y H4 => tv σ2 H4 fun z H5 => ∃ kvs k, DNm P w K H5 D kvs ∧ KeyAt K H5 y k ∧ kvs.length < sizeLine ∧ ∀ H6, SameX D H5 H6 → DNm P w K H6 D (putK kvs k z) → Pv (i + 1) H6 else Pv (i + 1) H3) (hd : ∀ H, Pv n H → Qd H) :
    ∃ W : Nat → Nat → Hp → Prop, (∃ m, W 0 m (upd H1 D (NQ P w D []))) ∧ ∀ i m H, W i m H →
      (J.stop i H ∧ Qd H) ∨ (J.go i H ∧ ∃ Nx : Hp → Prop, (∀ H', Nx H' → ∃ m', m' < m ∧ W (i + 1) m' H') ∧ ∀ x H', J.yld i H x H' → g x (wipe σ vs) H' fun σ2 H2 => wipe σ2 vs = wipe σ vs ∧ tt σ2 H2 fun b H3 =>
        if b = true then tk σ2 H3 fun y H4 => tv σ2 H4 fun z H5 => ∃ kvs k, DNm P w K H5 D kvs ∧ KeyAt K H5 y k ∧ kvs.length < sizeLine ∧ ∀ H6, SameX D H5 H6 → DNm P w K H6 D (putK kvs k z) → Nx H6 else Nx H3) := by
  refine ⟨fun i m H => m = n - i ∧ i ≤ n ∧ Pv i H, ⟨n, by simp, Nat.zero_le _, h0 _ (same_new hD) ⟨[], upd_same, rfl, fun q hq => (by cases hq), Nat.zero_le _⟩⟩, ?_⟩
  rintro i m H ⟨rfl, hi, p⟩
  have q := hG i H hi p
  by_cases hlt : i < n
  · exact .inr ⟨wk.goes i H hlt q, Pv (i + 1), fun H' p' => ⟨n - (i + 1), by omega, rfl, hlt, p'⟩, fun x H' y => hs i x H H' hlt p (wk.yields i H x H' hlt q y)⟩
  · have e : i = n := by omega
    subst e
    exact .inl ⟨wk.stops H q, hd H p⟩
end Nd

set_option maxRecDepth 100000
set_option maxHeartbeats 4000000
namespace Nd
open PySem PySem.Spec PyProof.Rows L2 Ly LamX
section
variable {X : Cx} {pins : List (Addr × Obj)} {σ : L2.St} {H : Hp} {s : Shared} {d : Addr} {o : Obj} {qs : Q3}
theorem frzN (I : Inv X pins σ H s) (h : H d = some (.frz o (NQ X.prog X.w d qs))) :
    (d == sysModules) = false ∧ s.heap.get? d = some o ∧ o.ExactDict ∧ ∃ (es : Array DictEntry) (ep : Nat), o.data = .dict es ep ∧ es.size = qs.length ∧
      ∀ (i : Nat) (q : NK × Addr × V), qs[i]? = some q → ∃ en : DictEntry, es[i]? = some en ∧ en.key = .ref q.2.1 ∧ RelV q.2.2 en.val := by
  obtain ⟨hd, ⟨hs, xs, rel, ⟨o', es, ep, e1, e2, e3, e4⟩, _⟩, _, _⟩ := (show s.heap.get? d = some o ∧ ObjOk X.prog X.w H s.heap d (NQ X.prog X.w d qs) from I.hok d _ h)
  rw [hd] at e1
  cases e1
  refine ⟨hs, hd, e2, es, ep, e3, ?_, fun i q hq => ?_⟩
  · have l1 := size_of_entries e4
    have l2 := Paired.length rel
    omega
  · obtain ⟨x, hx, r1, r2, r3⟩ := paired_get rel hq
    have := entry_at e4 i
    rw [hx] at this
    exact ⟨_, this, by show Value.ref x.2.1 = _; rw [r2], r3⟩
end
def ItN (P : Program) (w : World) (d : Addr) (o : Obj) (qs : Q3) : It :=
  ⟨fun i H => H d = some (.frz o (NQ P w d qs)) ∧ i < qs.length, fun i H x H' => H' = H ∧ ∃ q, qs[i]? = some q ∧ x = .ref q.2.1, fun i H => H d = some (.frz o (NQ P w d qs)) ∧ qs.length ≤ i⟩
def ItNi (P : Program) (w : World) (d : Addr) (o : Obj) (qs : Q3) : It :=
  ⟨fun i H => H d = some (.frz o (NQ P w d qs)) ∧ i < qs.length, fun i H x H' => ∃ T q, qs[i]? = some q ∧ x = .ref T ∧ H T = none ∧ H' = upd H T (.tup [.ref q.2.1, q.2.2]), fun i H => H d = some (.frz o (NQ P w d qs)) ∧ qs.length ≤ i⟩
section
variable {P : Program} {w : World} {K : PySem.W.Frag} {tg : Expr} {d : Addr} {o : Obj} {es : Array DictEntry} {ep : Nat} {qs : Q3}
theorem turn_keysN (it : Addr) (hod : o.data = .dict es ep) : Turn P w K tg (ItN P w d o qs) [it] it (fun i h => h.IsKeyIter it d i qs.length ep) where
  mem := by simp
  obj := fun i h st b hb => by
    have e : b = it := by simpa using hb
    subst e
    obtain ⟨oi, e, c, dd⟩ := st
    exact ⟨oi, e, fun v z => by rw [dd] at z; cases z⟩
  keep := fun i h h' st k => st.at fun oi e => k it (by simp) oi e
  item := by
    intro X hP hw hK hc i pins s σ H E I hf st hg
    subst hP hw hK
    obtain ⟨hd, hi⟩ := hg
    obtain ⟨f0, f1, f2, f3, f4, f5⟩ := hf it (by simp)
    obtain ⟨hs, hgd, hx, es', ep', hdt, hsz, ent⟩ := frzN I hd
    obtain ⟨rfl, rfl⟩ := dict_ep hod hdt
    obtain ⟨q, hq⟩ : ∃ q, qs[i]? = some q := ⟨qs[i], List.getElem?_eq_getElem hi⟩
    obtain ⟨en, hen, hkey, _⟩ := ent i q hq
    refine next_key_item st hgd hdt hsz hen fun h' st' sb => ?_
    have I1 : Inv X pins σ H { s with heap := h' } := I.turned (t' := s.toks) (fun b ob hb e => (sb.2 b hb).trans e) f0 f1 f3 f4 f5
    obtain ⟨oi, e, c, dd⟩ := id st'
    exact ⟨en.key, rfl, go_of (s := { s with heap := h' }) e c dd (by decide) ⟨.ref q.2.1, H, I1, hkey, ⟨rfl, q, hq, rfl⟩, st', fun b hb => (hf b hb).1⟩⟩
  done := by
    intro X hP hw hK hc i pins s σ H E I hf st hg
    subst hP hw hK
    obtain ⟨hd, hi⟩ := hg
    obtain ⟨f0, f1, f2, f3, f4, f5⟩ := hf it (by simp)
    obtain ⟨hs, hgd, hx, es', ep', hdt, hsz, ent⟩ := frzN I hd
    obtain ⟨rfl, rfl⟩ := dict_ep hod hdt
    exact next_key_end (I.ok.hd hc) st hgd hdt hsz hi fun h' eb => ⟨rfl, I.turned (t' := s.toks) (fun b ob hb e => eb b ob hb e) f0 f1 f3 f4 f5⟩
  self := fun A i s Q E st h => by
    refine wpAny_pyIter_slot st.typeIs F.slot_dict_keyiterator_iter (wpAny_call_entry F.slot_dict_keyiterator_iter st.typeIs F.entry_dict_keyiterator_iter ?_ (F.args_dict_keyiterator_iter_1 _))
    show wpAny _ _ (ret (.ref it)) _ _ s
    exact wpAny_pure ⟨_, rfl, "dict_keyiterator", _, st.typeIs, F.slot_dict_keyiterator_next.lookup, h⟩
theorem turn_itemsN {elts : List Expr} {kk : Nat} {tpos : Pos} (it : Addr) (hod : o.data = .dict es ep) :
    Turn P w K (.Tuple elts kk tpos) (ItNi P w d o qs) [it] it (fun i h => ∃ ok ov, IsItemIter h it d i qs.length ep ok ov) where
  mem := by simp
  obj := fun i h st b hb => by
    have e : b = it := by simpa using hb
    subst e
    obtain ⟨ok, ov, e⟩ := st
    exact ⟨_, e, fun v z => nomatch z⟩
  keep := fun i h h' st k => let ⟨ok, ov, e⟩ := st; ⟨ok, ov, k it (by simp) _ e⟩
  item := by
    intro X hP hw hK hc i pins s σ H E I hf st hg
    subst hP hw hK
    obtain ⟨hd, hi⟩ := hg
    obtain ⟨hs, hgd, hx, es', ep', hdt, hsz, ent⟩ := frzN I hd
    obtain ⟨rfl, rfl⟩ := dict_ep hod hdt
    obtain ⟨q, hq⟩ : ∃ q, qs[i]? = some q := ⟨qs[i], List.getElem?_eq_getElem hi⟩
    obtain ⟨en, hen, hkey, hval⟩ := ent i q hq
    have hie : i < es'.size := by omega
    have een : es'[i] = en := Option.some.inj ((Array.getElem?_eq_getElem hie).symm.trans hen)
    obtain ⟨ok, ov, he⟩ := st
    rw [← hsz] at he
    have hlt : it < s.heap.objs.size := Heap.lt_size he
    refine wpAny_pyNext_items_item_raw he ⟨o, hgd, hx, hdt⟩ hie fun h' ho hT hz hk => ?_
    refine ⟨_, rfl, wpAny_letOwnedTupleGo_items (s := { s with heap := h' }) ho fun h'' he' sb => ?_⟩
    have hT2 : h''.get? s.heap.objs.size = some { cls := .type "tuple", data := .seq #[es'[i].key, es'[i].val] } := (sb.2 _ (Nat.ne_of_gt hlt)).trans hT
    have new : ObjOk X.prog X.w (upd H s.heap.objs.size (.tup [.ref q.2.1, q.2.2])) h'' s.heap.objs.size (.tup [.ref q.2.1, q.2.2]) :=
      ⟨by show 2 ≤ sizeLine; decide, [es'[i].key, es'[i].val], .cons (by rw [een, hkey]; rfl) (.cons (by rw [een]; exact hval) .nil), ⟨_, hT2, rfl, _, rfl⟩⟩
    have I1 : Inv X pins σ (upd H s.heap.objs.size (.tup [.ref q.2.1, q.2.2])) { s with heap := h'' } :=
      I.turnedNew (t' := s.toks) (ch := [it]) (fun b ob hb e => (sb.2 b (by simpa using hb)).trans (hk b ob (by simpa using hb) e)) hf (Nat.le_refl _) new
    refine ⟨.ref s.heap.objs.size, _, I1, rfl, ⟨_, q, hq, rfl, I.hok.fresh (Nat.le_refl _), rfl⟩, ⟨es'[i].key, es'[i].val, ?_⟩, fun b hb => ?_⟩
    · rw [← hsz]; exact he'
    · have e : b = it := by simpa using hb
      rw [e, upd_ne (Nat.ne_of_lt hlt)]
      exact (hf it (by simp)).1
  done := by
    intro X hP hw hK hc i pins s σ H E I hf st hg
    subst hP hw hK
    obtain ⟨hd, hi⟩ := hg
    obtain ⟨f0, f1, f2, f3, f4, f5⟩ := hf it (by simp)
    obtain ⟨hs, hgd, hx, es', ep', hdt, hsz, ent⟩ := frzN I hd
    obtain ⟨rfl, rfl⟩ := dict_ep hod hdt
    obtain ⟨ok, ov, he⟩ := st
    rw [← hsz] at he
    exact wpAny_pyNext_items_end_raw (I.ok.hd hc) he ⟨o, hgd, hx, hdt⟩ (by omega) fun h' eb => ⟨rfl, I.turned (t' := s.toks) (fun b ob hb e => eb b ob hb e) f0 f1 f3 f4 f5⟩
  self := fun A i s Q E st h => let ⟨_, _, e⟩ := st; PySem.W.kcp_self e h
end
def iKeysN (P : Program) (w : World) (td : TE) : TI := fun σ H R => td σ H fun x H1 => ∃ d o qs, x = .ref d ∧ H1 d = some (.frz o (NQ P w d qs)) ∧ R (ItN P w d o qs) H1
def iItemsN (P : Program) (w : World) (td : TE) : TI := fun σ H R => td σ H fun x H1 => ∃ d o qs, x = .ref d ∧ H1 d = some (.frz o (NQ P w d qs)) ∧ R (ItNi P w d o qs) H1
section
variable {X : Cx} {tg e : Expr} {td : TE} {apos cpos : Pos} (P : Program) (w : World)
theorem pi_keysN (he : PE X e td) (hP : X.prog = P := by rfl) (hw : X.w = w := by rfl) : PI X tg e (iKeysN P w td) := by
  subst hP hw
  refine ⟨fun pins s σ H R I h => ?_⟩
  refine thn (he.run pins s σ H _ I h) fun u s1 ⟨x, H1, I1, rx, d, o, qs, ex, hd, q⟩ => ?_
  subst ex
  obtain rfl : u = Value.ref d := rx
  obtain ⟨hs, hgd, hx, es, ep, hdt, hsz, ent⟩ := frzN I1 hd
  refine iter_keys hs hgd hx hdt (pi_one (tk := s1.toks) I1 _ (turn_keysN _ hdt) ⟨_, Heap.get?_push_size _ rfl, rfl, ?_⟩ q)
  rw [hsz] <;> rfl
theorem pi_itemsN {elts : List Expr} {kk : Nat} {tpos : Pos} (he : PE X e td) (hP : X.prog = P := by rfl) (hw : X.w = w := by rfl) (hbase : attributeBase e "items" X.env (eval e X.env) = eval e X.env := by rfl) (hline : (apos.endLine == cpos.line) = true := by rfl) :
    PI X (.Tuple elts kk tpos) (.Call (.Attribute e "items" apos) [] [] cpos) (iItemsN P w td) := by
  subst hP hw
  refine ⟨fun pins s σ H R I h => ?_⟩
  refine wpAny_Call_method (T := "dict") (id := "dict.items") hbase rfl hline F.plainAttrs_dict F.slot_dict_items F.type_dict_items (thn (he.run pins s σ H _ I h) fun u s1 ⟨x, H1, I1, rx, d, o, qs, ex, hd, q⟩ => ?_)
  subst ex
  obtain rfl : u = Value.ref d := rx
  obtain ⟨hs, hgd, hx, es, ep, hdt, hsz, ent⟩ := frzN I1 hd
  have hm : s1.heap.DictRaw d es ep := ⟨o, hgd, hx, hdt⟩
  refine ⟨hm.typeIs, fun b q => by cases q; exact ⟨o, hgd, hx.2.1⟩, ?_⟩
  have I2 : Inv X pins σ H1 { s1 with heap := s1.heap.push { cls := .type "dict_items", data := .fields #[.ref d] } } := I1.kept (t' := s1.toks) fun b ob q => Heap.get?_push_of_some _ q
  have fin : wpAny (model X.prog X.w) X.A (pyIter (.ref s1.heap.objs.size)) (PIE X pins σ (.Tuple elts kk tpos) R) X.xe { s1 with heap := s1.heap.push { cls := .type "dict_items", data := .fields #[.ref d] } } := by
    refine wpAny_pyIter_items_raw (d := d) ⟨_, Heap.get?_push_size _ rfl, rfl, rfl⟩ (hm.push _) (pi_one (tk := s1.toks) I2 _ (turn_itemsN _ hdt) ⟨.none, .none, ?_⟩ q)
    rw [← hsz]
    exact Heap.get?_push_size _ rfl
  show wpAny _ _ (callWith cpos (.builtin "dict.items") [.ref d] [] []) _ X.xe s1
  exact method_meetsIn F.slot_dict_items F.entry_dict_items rfl (PySem.evalArgs_none ⟨rfl, hm.typeIs, F.args_dict_items_1 _, _, meets_dict_items_raw d hs, ⟨es, ep, hm⟩, fin⟩)
end
section
variable {P : Program} {w : World} {d : Addr} {o : Obj} {qs : Q3}
theorem walk_keysN : Walk (ItN P w d o qs) qs.length (fun H => H d = some (.frz o (NQ P w d qs))) (fun i H x H' => H' = H ∧ ∃ q, qs[i]? = some q ∧ x = .ref q.2.1) :=
  ⟨fun _ _ hi q => ⟨q, hi⟩, fun _ q => ⟨q, Nat.le_refl _⟩, fun _ _ _ _ _ _ y => y⟩
theorem walk_itemsN : Walk (ItNi P w d o qs) qs.length (fun H => H d = some (.frz o (NQ P w d qs))) (fun i H x H' => ∃ T q, qs[i]? = some q ∧ x = .ref T ∧ H T = none ∧ H' = upd H T (.tup [.ref q.2.1, q.2.2])) :=
  ⟨fun _ _ hi q => ⟨q, hi⟩, fun _ q => ⟨q, Nat.le_refl _⟩, fun _ _ _ _ _ _ y => y⟩
end
end Nd

set_option maxRecDepth 100000
set_option maxHeartbeats 4000000
namespace Nd
open PySem PySem.Spec PyProof.Rows L2 Ly LamX PySem.W
theorem zip_no_len : typeLookup (.type "zip") "__len__" = pure none := am_miss_of_fast (by decide +kernel)
theorem zip_no_hint : typeLookup (.type "zip") "__length_hint__" = pure none := am_miss_of_fast (by decide +kernel)
section
variable {prog : Program} {w : World} {A : Around} {E : Value → Shared → Prop} {s : Shared}
theorem zip_hint {z : Addr} (hT : s.TypeIs (.ref z) "zip") {Q : Bool → Shared → Prop} (h : Q true s) : wpAny (model prog w) A (Builtin.List.listLengthHint (.ref z)) Q E s := by
  unfold Builtin.List.listLengthHint
  refine wpAny_bind (wpAny_specialOf hT zip_no_len ?_)
  dsimp only
  refine wpAny_bind (wpAny_specialOf hT zip_no_hint ?_)
  exact wpAny_pure h
/-- the zip's state ahead of its turn i, while the list at S is filled -/
def ZSt (z TI TO i1 i2 l1 l2 S : Addr) (xs ys : Array Value) (i : Nat) (h : Heap) : Prop :=
  IsPair h TI (.ref i1) (.ref i2) ∧ h.IsListIter i1 l1 i ∧ h.IsListIter i2 l2 i ∧ h.IsList l1 xs ∧ h.IsList l2 ys ∧ ((IsZip h z TI TO .none ∧ ∃ a b, IsPair h TO a b) ∨ ∃ T f oT, IsZipHeld h z TI TO T f ∧ h.get? T = some oT ∧ T ≠ z ∧ T ≠ i1 ∧ T ≠ i2 ∧ T ≠ S)
theorem ZSt.but {z TI TO i1 i2 l1 l2 S : Addr} {xs ys : Array Value} {i : Nat} {h h' : Heap} (x : ZSt z TI TO i1 i2 l1 l2 S xs ys i h) (hk : ∀ b o, b ≠ S → h.get? b = some o → h'.get? b = some o) (n1 : S ≠ z) (n2 : S ≠ TI) (n3 : S ≠ TO) (n4 : S ≠ i1) (n5 : S ≠ i2) (n6 : S ≠ l1) (n7 : S ≠ l2) : ZSt z TI TO i1 i2 l1 l2 S xs ys i h' := by
  obtain ⟨h1, h2, h3, h4, h5, h6⟩ := x
  refine ⟨hk _ _ n2.symm h1, h2.at fun o e => hk _ o n4.symm e, h3.at fun o e => hk _ o n5.symm e, h4.at fun o e => hk _ o n6.symm e, h5.at fun o e => hk _ o n7.symm e, ?_⟩
  rcases h6 with ⟨hz, a, b, hTO⟩ | ⟨T, f, oT, hz, hT, r1, r2, r3, r4⟩
  · exact .inl ⟨hk _ _ n1.symm hz, a, b, hk _ _ n3.symm hTO⟩
  · exact .inr ⟨T, f, oT, hk _ _ n1.symm hz, hk _ _ r4 hT, r1, r2, r3, r4⟩
theorem z_item {z TI TO i1 i2 l1 l2 S : Addr} {xs ys : Array Value} {i : Nat} {x y : Value} {Q : Option Value → Shared → Prop} (D : ZipApart z TI TO i1 i2 l1 l2) (st : ZSt z TI TO i1 i2 l1 l2 S xs ys i s.heap) (hS : S < s.heap.objs.size) (hx : xs[i]? = some x) (hy : ys[i]? = some y)
    (hQ : ∀ h', ZSt z TI TO i1 i2 l1 l2 S xs ys (i + 1) h' → IsPair h' s.heap.objs.size x y → h'.objs.size = s.heap.objs.size + 1 → (∀ c o, c ≠ z → c ≠ TO → c ≠ i1 → c ≠ i2 → s.heap.get? c = some o → h'.get? c = some o) → Q (some (.ref s.heap.objs.size)) { s with heap := h' }) :
    wpAny (model prog w) A (pyNext (.ref z)) Q E s := by
  obtain ⟨hTI, h1, h2, hl1, hl2, hz⟩ := st
  have lt : ∀ {c o}, s.heap.get? c = some o → s.heap.objs.size ≠ c := fun e => Nat.ne_of_gt (Heap.lt_size e)
  have n1 : s.heap.objs.size ≠ i1 := let ⟨_, e, _⟩ := h1; lt e
  have n2 : s.heap.objs.size ≠ i2 := let ⟨_, e, _⟩ := h2; lt e
  rcases hz with ⟨hz, a, b, hTO⟩ | ⟨T, f, oT, hz, hT, r1, r2, r3, r4⟩
  · refine wpAny_pyNext_zip_item D hz hTI hTO h1 h2 hl1 hl2 hx hy fun h' a1 a2 a3 a4 a5 a6 hk => hQ h' ⟨hk _ _ D.TIz D.TITO D.TIi1 D.TIi2 hTI, a3, a4, hl1.at fun o e => hk _ o D.l1z D.l1TO D.l1i1 D.l1i2 e, hl2.at fun o e => hk _ o D.l2z D.l2TO D.l2i1 D.l2i2 e, .inr ⟨s.heap.objs.size, false, _, a1, a5, lt hz, n1, n2, Nat.ne_of_gt hS⟩⟩ a5 a6 fun c o c1 c2 c3 c4 e => hk c o c1 c2 c3 c4 e
  · refine wpAny_pyNext_zip_item_held D hz hT hTI h1 h2 hl1 hl2 hx hy fun h' a1 a3 a4 a5 a6 hk => hQ h' ⟨hk _ _ D.TIz D.TIi1 D.TIi2 hTI, a3, a4, hl1.at fun o e => hk _ o D.l1z D.l1i1 D.l1i2 e, hl2.at fun o e => hk _ o D.l2z D.l2i1 D.l2i2 e, .inr ⟨T, true, oT, a1, hk _ _ r1 r2 r3 hT, r1, r2, r3, r4⟩⟩ a5 a6 fun c o c1 _ c3 c4 e => hk c o c1 c3 c4 e
theorem z_end {z TI TO i1 i2 l1 l2 S : Addr} {xs ys : Array Value} {i : Nat} {Q : Option Value → Shared → Prop} (hh : A.handled = none) (D : ZipApart z TI TO i1 i2 l1 l2) (st : ZSt z TI TO i1 i2 l1 l2 S xs ys i s.heap) (hend : xs[i]? = none ∨ ys[i]? = none)
    (hQ : ∀ h', (∀ c o, c ≠ z → c ≠ TO → c ≠ i1 → c ≠ i2 → s.heap.get? c = some o → h'.get? c = some o) → Q none { s with heap := h' }) : wpAny (model prog w) A (pyNext (.ref z)) Q E s := by
  obtain ⟨hTI, h1, h2, hl1, hl2, hz⟩ := st
  rcases hz with ⟨hz, a, b, hTO⟩ | ⟨T, f, oT, hz, hT, r1, r2, r3, r4⟩
  · exact wpAny_pyNext_zip_end hh D hz hTI hTO h1 h2 hl1 hl2 hend fun h' hk => hQ h' fun c o c1 c2 c3 c4 e => hk c o c1 c2 c3 c4 e
  · exact wpAny_pyNext_zip_end_held hh D hz hT hTI h1 h2 hl1 hl2 hend fun h' hk => hQ h' fun c o c1 _ c3 c4 e => hk c o c1 c3 c4 e
/-- the tuples made so far -/
structure ZG (xs ys : Array Value) (lo : Addr) (h : Heap) (as : List Addr) : Prop where
  rise : as.Pairwise (· < ·)
  above : ∀ a ∈ as, lo < a
  pairs : ∀ (j : Nat) (a : Addr), as[j]? = some a → ∃ x y, xs[j]? = some x ∧ ys[j]? = some y ∧ IsPair h a x y
theorem z_loop {R : Result → Shared → Prop} {z TI TO i1 i2 l1 l2 S : Addr} {xs ys : Array Value} (hh : A.handled = none) (D : ZipApart z TI TO i1 i2 l1 l2) (hzS : z < S) (hTO : TO < S) (h1S : i1 < S) (h2S : i2 < S) (nTI : S ≠ TI) (n1 : S ≠ l1) (n2 : S ≠ l2) (hn : xs.size ≤ sizeLine) (he : ys.size = xs.size) (res : Value) {h₁ : Heap}
    (hR : ∀ h' tk acc c as, (∀ b o, b ≠ S → b ≠ z → b ≠ TO → b ≠ i1 → b ≠ i2 → h₁.get? b = some o → h'.get? b = some o) → h'.get? S = some { cls := .type "list", dict := none, data := .seq acc c, slots := #[] } → as.length = xs.size → ZG xs ys S h' as → acc.toList = as.map Value.ref → R (.ok (.ret res)) { s with heap := h', toks := tk }) :
    ∀ (k i : Nat) (h : Heap) (tk c : Nat) (acc : Array Value) (as : List Addr), xs.size - i = k → i ≤ xs.size → ZSt z TI TO i1 i2 l1 l2 S xs ys i h → (∀ b o, b ≠ S → b ≠ z → b ≠ TO → b ≠ i1 → b ≠ i2 → h₁.get? b = some o → h.get? b = some o) →
      h.get? S = some { cls := .type "list", dict := none, data := .seq acc c, slots := #[] } → acc.toList = as.map Value.ref → as.length = i → ZG xs ys S h as →
      codeAny (model prog w) A (.builtin "list.extend.loop" ⟨[.ref S, .ref z, res], []⟩) R { s with heap := h, toks := tk } := by
  have ns : S ≠ z ∧ S ≠ TO ∧ S ≠ i1 ∧ S ≠ i2 := ⟨Nat.ne_of_gt hzS, Nat.ne_of_gt hTO, Nat.ne_of_gt h1S, Nat.ne_of_gt h2S⟩
  have above : ∀ {a : Addr}, S < a → a ≠ z ∧ a ≠ TO ∧ a ≠ i1 ∧ a ≠ i2 := fun {a} ha => ⟨Nat.ne_of_gt (Nat.lt_trans hzS ha), Nat.ne_of_gt (Nat.lt_trans hTO ha), Nat.ne_of_gt (Nat.lt_trans h1S ha), Nat.ne_of_gt (Nat.lt_trans h2S ha)⟩
  intro k
  induction k with
  | zero =>
    intro i h tk c acc as hk hi hst hkeep hS hacc hal hG
    have hin : i = xs.size := by omega
    refine codeAny_builtin PySem.F.entry_extend_loop ?_
    rw [Around.under_plainId PySem.F.plain_extend_loop _]
    show wpAny _ A.in1 (pyNext (.ref z) >>= _) _ _ _
    refine wpAny_bind (z_end (s := { s with heap := h, toks := tk }) (A := A.in1) hh D hst (.inl (Array.getElem?_eq_none (by omega))) fun h' hk' => ?_)
    refine wpAny_pure (hR h' tk acc c as (fun b o b1 b2 b3 b4 b5 e => hk' b o b2 b3 b4 b5 (hkeep b o b1 b2 b3 b4 b5 e)) (hk' S _ ns.1 ns.2.1 ns.2.2.1 ns.2.2.2 hS) (by omega) ⟨hG.rise, hG.above, fun j a hj => ?_⟩ hacc)
    obtain ⟨x, y, e1, e2, e3⟩ := hG.pairs j a hj
    obtain ⟨a1, a2, a3, a4⟩ := above (hG.above a (List.mem_of_getElem? hj))
    exact ⟨x, y, e1, e2, hk' a _ a1 a2 a3 a4 e3⟩
  | succ k ih =>
    intro i h tk c acc as hk hi hst hkeep hS hacc hal hG
    have hlt : i < xs.size := by omega
    have hx := Array.getElem?_eq_getElem hlt
    have hy := Array.getElem?_eq_getElem (xs := ys) (i := i) (by omega)
    have hsz : acc.size = i := by rw [← Array.length_toList, hacc, List.length_map, hal]
    have hSl : S < h.objs.size := Heap.lt_size hS
    refine codeAny_builtin PySem.F.entry_extend_loop ?_
    rw [Around.under_plainId PySem.F.plain_extend_loop _]
    show wpAny _ A.in1 (pyNext (.ref z) >>= _) _ _ _
    refine wpAny_bind (z_item (s := { s with heap := h, toks := tk }) D hst hSl hx hy fun h' hst' ht hz hkp => ?_)
    dsimp only at ht hz hkp ⊢
    have hS' := hkp S _ ns.1 ns.2.1 ns.2.2.1 ns.2.2.2 hS
    have up : ∀ b o, b ≠ S → h'.get? b = some o → (h'.update S (Obj.mapSeq (·.push (Value.ref h.objs.size)))).get? b = some o := fun b o hb e => (Heap.get?_update_other _ _ (Ne.symm hb)).trans e
    show wpAny _ A.in1 (updateSeq S (·.push (Value.ref h.objs.size)) >>= _) _ _ _
    refine wpAny_bind ?_
    refine wpAny_updateSeq hS' rfl (wpAny_pure ⟨plainId_quiet PySem.F.plain_extend_loop _, ih (i + 1) _ tk _ (acc.push (Value.ref h.objs.size)) (as ++ [h.objs.size]) (by omega) hlt (hst'.but up ns.1 nTI ns.2.1 ns.2.2.1 ns.2.2.2 n1 n2)
      (fun b o b1 b2 b3 b4 b5 e => up b o b1 (hkp b o b2 b3 b4 b5 (hkeep b o b1 b2 b3 b4 b5 e))) (Heap.get?_update_self _ hS' rfl) (by rw [Array.toList_push, hacc, List.map_append]; rfl) (by rw [List.length_append, hal]; rfl) ⟨?_, fun a ha => ?_, fun j b hj => ?_⟩⟩) (by rw [hsz]; omega) (by show (acc.push (Value.ref h.objs.size)).size ≤ sizeLine + 1; rw [Array.size_push, hsz]; omega)
    · refine List.pairwise_append.mpr ⟨hG.rise, List.pairwise_singleton _ _, fun a ha b hb => ?_⟩
      rw [List.mem_singleton.mp hb]
      obtain ⟨j, hj⟩ := List.getElem?_of_mem ha
      obtain ⟨_, _, _, _, e⟩ := hG.pairs j a hj
      exact Heap.lt_size e
    · rcases List.mem_append.mp ha with ha | ha
      · exact hG.above a ha
      · rw [List.mem_singleton.mp ha]; exact hSl
    · rcases Nat.lt_trichotomy j as.length with q | q | q
      · rw [List.getElem?_append_left q] at hj
        obtain ⟨x, y, e1, e2, e3⟩ := hG.pairs j b hj
        have hb := hG.above b (List.mem_of_getElem? hj)
        obtain ⟨a1, a2, a3, a4⟩ := above hb
        exact ⟨x, y, e1, e2, up b _ (Nat.ne_of_gt hb) (hkp b _ a1 a2 a3 a4 e3)⟩
      · subst q
        have hb : h.objs.size = b := by simpa using hj
        subst hb
        exact ⟨_, _, by rw [hal]; exact hx, by rw [hal]; exact hy, up _ _ (Nat.ne_of_gt hSl) ht⟩
      · rw [List.getElem?_eq_none (by rw [List.length_append, List.length_singleton]; omega)] at hj
        cases hj
/-- list(z) -/
theorem zip_list {Q : Value → Shared → Prop} {z TI TO i1 i2 l1 l2 : Addr} {xs ys : Array Value} (hh : A.handled = none) (D : ZipApart z TI TO i1 i2 l1 l2) (hz : IsZip s.heap z TI TO .none) (hTI : IsPair s.heap TI (.ref i1) (.ref i2)) (hTO : ∃ a b, IsPair s.heap TO a b) (h1 : s.heap.IsListIter i1 l1 0) (h2 : s.heap.IsListIter i2 l2 0) (hl1 : s.heap.IsList l1 xs) (hl2 : s.heap.IsList l2 ys)
    (hn : xs.size ≤ sizeLine) (he : ys.size = xs.size)
    (hQ : ∀ h' tk acc c as, (∀ b o, b ≠ z → b ≠ TO → b ≠ i1 → b ≠ i2 → s.heap.get? b = some o → h'.get? b = some o) → h'.get? s.heap.objs.size = some { cls := .type "list", dict := none, data := .seq acc c, slots := #[] } → as.length = xs.size → ZG xs ys s.heap.objs.size h' as → acc.toList = as.map Value.ref → Q (.ref s.heap.objs.size) { s with heap := h', toks := tk }) :
    wpAny (model prog w) A (call (.type "list") [.ref z]) Q E s := by
  refine callType_codes (Q₁ := fun obj s₁ => obj = .ref s.heap.objs.size ∧ s₁ = { s with heap := s.heap.push { cls := .type "list", data := .seq #[] } }) PySem.F.called_list (PySem.F.typeCall_list_1 _) PySem.F.entry_list_init (code_list_new _ ⟨rfl, rfl⟩) fun obj s₁ e₁ => ?_
  obtain ⟨rfl, rfl⟩ := e₁
  have lt : ∀ {c o}, s.heap.get? c = some o → c < s.heap.objs.size := fun e => Heap.lt_size e
  have zS := lt hz
  have TIS := lt hTI
  have TOS : TO < s.heap.objs.size := let ⟨_, _, e⟩ := hTO; lt e
  have i1S : i1 < s.heap.objs.size := let ⟨_, e, _⟩ := h1; lt e
  have i2S : i2 < s.heap.objs.size := let ⟨_, e, _⟩ := h2; lt e
  have l1S : l1 < s.heap.objs.size := let ⟨_, e, _⟩ := hl1; lt e
  have l2S : l2 < s.heap.objs.size := let ⟨_, e, _⟩ := hl2; lt e
  generalize hSn : s.heap.objs.size = S at *
  have hS : (s.heap.push { cls := .type "list", data := .seq #[] }).get? S = some { cls := .type "list", data := .seq #[] } := by rw [← hSn]; exact Heap.get?_push_size _ rfl
  refine ⟨⟨_, hS, rfl⟩, PySem.F.args_list_init_2 _ _, ?_⟩
  show wpAny _ _ (do let old ← Builtin.List.listItems (.ref S); Builtin.List.listUpdate (.ref S) (fun _ => #[]); letGo old.toList.reverse; Builtin.List.listExtendWith (.ref S) (.ref z) .none) _ _ _
  refine wpAny_bind ?_
  unfold Builtin.List.listItems
  refine wpAny_bind (wpAny_seqItems hS rfl (wpAny_pure ?_))
  show wpAny _ _ (updateSeq S (fun _ => #[]) >>= fun _ => letGo (#[] : Array Value).toList.reverse >>= fun _ => Builtin.List.listExtendWith (.ref S) (.ref z) .none) _ _ _
  refine wpAny_bind (wpAny_updateSeq hS rfl ?_)
  have hS₂ := Heap.get?_update_self (Obj.mapSeq (fun _ => (#[] : Array Value))) hS rfl
  have oth : ∀ b o, b ≠ S → s.heap.get? b = some o → ((s.heap.push { cls := .type "list", data := .seq #[] }).update S (Obj.mapSeq (fun _ => (#[] : Array Value)))).get? b = some o := fun b o hb e => (Heap.get?_update_other _ _ (Ne.symm hb)).trans (Heap.get?_push_of_some _ e)
  refine wpAny_bind (wpAny_letGo ?_)
  have st0 : ∀ h, (∀ b o, b ≠ S → s.heap.get? b = some o → h.get? b = some o) → ZSt z TI TO i1 i2 l1 l2 S xs ys 0 h := fun h hk => by
    obtain ⟨a, b, hTO⟩ := hTO
    have ne : ∀ {c : Addr}, c < S → c ≠ S := fun h => Nat.ne_of_lt h
    exact ⟨hk _ _ (ne TIS) hTI, h1.at fun o e => hk _ o (ne i1S) e, h2.at fun o e => hk _ o (ne i2S) e, hl1.at fun o e => hk _ o (ne l1S) e, hl2.at fun o e => hk _ o (ne l2S) e, .inl ⟨hk _ _ (ne zS) hz, a, b, hk _ _ (ne TOS) hTO⟩⟩
  have key : ∀ (h : Heap) (c₁ tk : Nat), (∀ b o, b ≠ S → s.heap.get? b = some o → h.get? b = some o) → h.get? S = some { cls := .type "list", data := .seq #[] c₁ } →
      codeAny (model prog w) A.in1 (.builtin "list.extend.loop" ⟨[.ref S, .ref z, .none], []⟩) (wants (fun r s₂ => r = .none ∧ Q (.ref S) s₂) E) { s with heap := h, toks := tk } := fun h c₁ tk hk hS₁ =>
    z_loop (R := wants (fun r s₂ => r = .none ∧ Q (.ref S) s₂) E) (A := A.in1) (s := s) (h₁ := s.heap) hh D zS TOS i1S i2S (Nat.ne_of_gt TIS) (Nat.ne_of_gt l1S) (Nat.ne_of_gt l2S) hn he .none (fun h' tk' acc c as hk' hS' hl hG hacc => ⟨rfl, hQ h' tk' acc c as (fun b o b2 b3 b4 b5 e => hk' b o (fun z => by rw [z] at e; exact absurd (Heap.lt_size e) (by rw [hSn]; exact Nat.lt_irrefl _)) b2 b3 b4 b5 e) hS' hl hG hacc⟩)
      xs.size 0 h tk c₁ #[] [] (Nat.sub_zero _) (Nat.zero_le _) (st0 h hk) (fun b o b1 _ _ _ _ e => hk b o b1 e) hS₁ rfl rfl ⟨List.Pairwise.nil, (fun _ ha => nomatch ha), (fun j a hj => by simp at hj)⟩
  have hz2 := oth z _ (Nat.ne_of_lt zS) hz
  unfold Builtin.List.listExtendWith
  refine wpAny_bind (wpAny_typeOf (T := "zip") ⟨_, hz2, rfl⟩ ?_)
  have e1 : Builtin.List.listSameRef (.ref S) (.ref z) = false := by simp [Builtin.List.listSameRef, Nat.ne_of_gt zS]
  have e2 : (Value.type "zip" == Value.type "list") = false := by decide
  have e3 : (Value.type "zip" == Value.type "tuple") = false := by decide
  simp only [e1, e2, e3, Bool.or_false, Bool.false_eq_true, if_false]
  refine wpAny_bind (wpAny_pyIter_zip hz2 ?_)
  refine wpAny_bind (wpAny_holding (zip_hint ⟨_, hz2, rfl⟩ ?_))
  simp only [Bool.true_or, if_true]
  refine wpAny_bind (wpAny_rule ?_)
  refine wpAny_bind ?_
  show wpAny _ _ (updateSeq S (·.push .none) >>= fun _ => updateSeq S (·.pop)) _ _ _
  refine wpAny_bind (wpAny_updateSeq hS₂ rfl ?_)
  have hS₃ := Heap.get?_update_self (Obj.mapSeq (·.push Value.none)) hS₂ rfl
  refine wpAny_updateSeq (hz := by seq_fits) hS₃ rfl ?_
  have hS₄ := Heap.get?_update_self (Obj.mapSeq (·.pop)) hS₃ rfl
  refine wpAny_pure ⟨plainId_quiet PySem.F.plain_extend_loop _, key _ _ _ (fun b o hb e => ?_) hS₄⟩
  exact (Heap.get?_update_other _ _ (Ne.symm hb)).trans ((Heap.get?_update_other _ _ (Ne.symm hb)).trans (oth b o hb e))
end
/-- new tuples become tracked -/
theorem take_tups {X : Cx} {pins : List (Addr × Obj)} {σ : L2.St} {H0 : Hp} {s0 : Shared} (I0 : Inv X pins σ H0 s0) : ∀ (as : List Addr) (ps : List (V × V)) (H : Hp) (s : Shared), Inv X pins σ H s → as.Pairwise (· < ·) → (∀ a ∈ as, s0.heap.objs.size ≤ a ∧ H a = none) →
    Paired (fun a (p : V × V) => ∃ x y, IsPair s.heap a x y ∧ RelV p.1 x ∧ RelV p.2 y) as ps → ∃ H', Inv X pins σ H' s ∧ (∀ b, b ∉ as → H' b = H b) ∧ Paired (fun a (p : V × V) => H' a = some (.tup [p.1, p.2])) as ps
  | [], _, H, s, I, _, _, .nil => ⟨H, I, fun _ _ => rfl, .nil⟩
  | a :: as, _, H, s, I, hr, hn, .cons (b := p) h t => by
    obtain ⟨hr1, hr2⟩ := List.pairwise_cons.mp hr
    obtain ⟨x, y, hxy, rx, ry⟩ := h
    have I1 : Inv X pins σ (upd H a (.tup [p.1, p.2])) s := I.take (t' := s.toks) (h' := s.heap) (fun b o _ e => e) (I0.fpOk (hn a List.mem_cons_self).1 (hn a List.mem_cons_self).2) ⟨by show 2 ≤ sizeLine; decide, [x, y], .cons rx (.cons ry .nil), ⟨_, hxy, rfl, _, rfl⟩⟩
    have nea : ∀ b ∈ as, b ≠ a := fun b hb => Nat.ne_of_gt (hr1 b hb)
    obtain ⟨H', I', k1, k2⟩ := take_tups I0 as _ (upd H a (.tup [p.1, p.2])) s I1 hr2 (fun b hb => ⟨(hn b (List.mem_cons_of_mem _ hb)).1, by rw [upd_ne (nea b hb)]; exact (hn b (List.mem_cons_of_mem _ hb)).2⟩) t
    have hna : a ∉ as := fun hm => nea a hm rfl
    refine ⟨H', I', fun b hb => ?_, .cons ?_ k2⟩
    · rw [k1 b (fun z => hb (List.mem_cons_of_mem _ z)), upd_ne (fun z : b = a => hb (by rw [z]; exact List.mem_cons_self))]
    · rw [k1 a hna, upd_same]
def tListZip (K : PySem.W.Frag) (t : TA) : TE := fun σ H Q => t σ H fun vs H1 => ∃ a b xs ys, vs = [.ref a, .ref b] ∧ SqL K H1 a xs ∧ SqL K H1 b ys ∧ ys.length = xs.length ∧
  ∀ p us H', H1 p = none → Same H1 H' → H' p = some (.lst us) → Paired (fun (xy : V × V) u => ∃ t, u = V.ref t ∧ H' t = some (.tup [xy.1, xy.2])) (xs.zip ys) us → Q (.ref p) H'
theorem pe_listZip {X : Cx} (K : PySem.W.Frag) {e e2 : Expr} {t : TA} {p1 p2 pos1 pos2 : Pos} (hc : X.calm = true) (hgl : Gl X "list") (hml : X.mg "list" = none) (hgz : Gl X "zip") (hmz : X.mg "zip" = none) (ha : PA X [e, e2] t)
    (hs : starEach [e, e2] X.env = (false, eval e X.env) :: starEach [e2] X.env := by rfl) (hpl : (backTo pos2 (starEach [e2] X.env)).any (·.1) = false := by rfl)
    (hs1 : starEach [.Call (.Name "zip" p2) [e, e2] [] pos2] X.env = (false, eval (.Call (.Name "zip" p2) [e, e2] [] pos2) X.env) :: starEach [] X.env := by rfl) (hK : X.K = K := by rfl) :
    PE X (.Call (.Name "list" p1) [.Call (.Name "zip" p2) [e, e2] [] pos2] [] pos1) (tListZip K t) := by
  subst hK
  refine ⟨fun pins s σ H Q I h => ?_⟩
  refine Call_ (ld_blt I hgl hml PyProof.Rows.boot_list (PyProof.Rows.callWith_type1 (PyProof.Rows.args_cons (Call_ (ld_blt I hgz hmz PyProof.Rows.boot_zip (PyProof.Rows.callWith_type1 (thn (ha.run pos2 pins s σ H _ I h) fun us s1 ⟨vs, H1, I1, r1, q1⟩ => ?_) hs hpl))) hs1) hs1))
  obtain ⟨a, b, xs, ys, ex, hqx, hqy, hle, q⟩ := q1
  subst ex
  cases r1 with
  | cons r rr =>
    cases rr with
    | cons r' rr =>
      cases rr
      cases r
      cases r'
      obtain ⟨its, rv, p1, hz1⟩ := I1.list hqx
      obtain ⟨its2, rv2, p2, _⟩ := I1.list hqy
      have l1 := rv.length
      have l2 := rv2.length
      refine call_zip_2 p1.isList p2.isList fun h' hz hTI hTO h1 h2 hsz hk => ?_
      generalize hB : s1.heap.objs.size = B at *
      refine PyProof.Rows.args_nil ?_
      have D := PySem.W.ktu_apart B a b (by rw [← hB]; exact p1.lt) (by rw [← hB]; exact p2.lt)
      refine zip_list (s := { s1 with heap := h' }) (I1.ok.hd hc) D hz hTI ⟨_, _, hTO⟩ h1 h2 (p1.isList.at fun o e => hk _ o e) (p2.isList.at fun o e => hk _ o e) (by simp only [List.size_toArray]; omega) (by simp only [List.size_toArray]; omega) fun h'' tk acc c as hk2 hS hal hG hacc => ?_
      dsimp only at hk2 hS hG
      have hsz' : h'.objs.size = B + 5 := hsz
      rw [hsz'] at hS hG
      have old : ∀ b o, s1.heap.get? b = some o → h''.get? b = some o := fun b o e => by
        have hlt : @LT.lt Nat _ b B := by rw [← hB]; exact Heap.lt_size e
        refine hk2 b o ?_ ?_ ?_ ?_ (hk b o e) <;> exact Nat.ne_of_lt (by omega)
      have I2 : Inv X pins σ H1 { s1 with heap := h'', toks := tk } := I1.kept old
      have fresh : ∀ {b : Addr}, B ≤ b → H1 b = none := fun {b} hb => I1.hok.fresh (by rw [hB]; exact hb)
      -- the tuples
      have hpair : Paired (fun a (p : V × V) => ∃ x y, IsPair h'' a x y ∧ RelV p.1 x ∧ RelV p.2 y) as (xs.zip ys) := by
        refine paired_ix (by rw [hal, List.length_zip]; simp only [List.size_toArray]; omega) fun j a p ha hp => ?_
        obtain ⟨x, y, e1, e2, e3⟩ := hG.pairs j a ha
        obtain ⟨f1, f2⟩ := List.getElem?_zip_eq_some.mp hp
        obtain ⟨u1, g1, r1⟩ := rv.get f1
        obtain ⟨u2, g2, r2⟩ := rv2.get f2
        rw [List.getElem?_toArray, g1] at e1
        rw [List.getElem?_toArray, g2] at e2
        cases e1
        cases e2
        exact ⟨_, _, e3, r1, r2⟩
      obtain ⟨H', I3, k1, k2⟩ := take_tups I1 as _ H1 _ I2 hG.rise (fun a ha => by
        have h5 : @LT.lt Nat _ (B + 5) a := hG.above a ha
        have h6 : @LE.le Nat _ B a := by omega
        exact ⟨by rw [hB]; exact h6, fresh h6⟩) hpair
      have hpn : H' (B + 5) = none := by
        rw [k1 _ fun hm => Nat.lt_irrefl _ (hG.above _ hm)]
        exact fresh (Nat.le_add_right _ _)
      have I4 : Inv X pins σ (upd H' (B + 5) (.lst (as.map V.ref))) { s1 with heap := h'', toks := tk } := I3.take (t' := tk) (h' := h'') (fun b o _ e => e) (I1.fpOk (by rw [hB]; exact Nat.le_add_right _ _) hpn) ⟨by rw [List.length_map, hal]; simp only [List.size_toArray]; omega, acc.toList, c, by rw [hacc]; exact vals_refs as, by rw [Array.toArray_toList]; exact hS⟩
      have sm : Same H1 (upd H' (B + 5) (.lst (as.map V.ref))) := fun b u e => by
        have nb : @LT.lt Nat _ b B := by
          rcases Nat.lt_or_ge b B with h | h
          · exact h
          · rw [fresh h] at e; cases e
        have nb5 : @LT.lt Nat _ b (B + 5) := by omega
        rw [upd_ne (Nat.ne_of_lt nb5), k1 _ fun hm => Nat.lt_asymm nb5 (hG.above _ hm)]
        exact e
      show EP X pins σ Q (.ref h'.objs.size) _
      rw [hsz']
      refine ⟨.ref (B + 5), _, I4, rfl, q (B + 5) (as.map V.ref) _ (fresh (Nat.le_add_right _ _)) sm upd_same ?_⟩
      refine paired_ix (by rw [List.length_map, hal, List.length_zip]; simp only [List.size_toArray]; omega) fun j p u hp hu => ?_
      rw [List.getElem?_map] at hu
      obtain ⟨a, ha, rfl⟩ := Option.map_eq_some_iff.mp hu
      obtain ⟨p', hp', hH⟩ := paired_get k2 ha
      rw [hp] at hp'
      cases hp'
      exact ⟨a, rfl, by rw [upd_ne (Nat.ne_of_gt (hG.above a (List.mem_of_getElem? ha)))]; exact hH⟩
end Nd

set_option maxRecDepth 100000
set_option maxHeartbeats 4000000
namespace Nt
open PySem PySem.Spec PyProof.Rows L2 Ly LamX Nd
mutual
/-- data of texts, numbers, None and tracked tuples -/
inductive Tp (K : PySem.W.Frag) (H : Hp) : V → PyData → Prop
  | non : Tp K H .non .none
  | int (i : Int) : Tp K H (.int i) (.int i)
  | str (x : Str) : Tp K H (.str x) (.str x)
  | tup {a : Addr} {xs : List V} {ds : List PyData} : SqT K H a xs → TpAll K H xs ds → Tp K H (.ref a) (.tuple ds)
inductive TpAll (K : PySem.W.Frag) (H : Hp) : List V → List PyData → Prop
  | nil : TpAll K H [] []
  | cons {v : V} {vs : List V} {d : PyData} {ds : List PyData} : Tp K H v d → TpAll K H vs ds → TpAll K H (v :: vs) (d :: ds)
end
section
variable {K : PySem.W.Frag} {H H' : Hp}
mutual
theorem Tp.mono (m : ∀ a xs, SqT K H a xs → SqT K H' a xs) : ∀ {d : PyData} {v : V}, Tp K H v d → Tp K H' v d
  | _, _, .non => .non
  | _, _, .int i => .int i
  | _, _, .str x => .str x
  | _, _, .tup h hs => .tup (m _ _ h) (TpAll.mono m hs)
theorem TpAll.mono (m : ∀ a xs, SqT K H a xs → SqT K H' a xs) : ∀ {ds : List PyData} {vs : List V}, TpAll K H vs ds → TpAll K H' vs ds
  | _, _, .nil => .nil
  | _, _, .cons h t => .cons (Tp.mono m h) (TpAll.mono m t)
end
theorem Tp.same {v : V} {d : PyData} (h : Tp K H v d) (s : Same H H') : Tp K H' v d := h.mono fun _ _ => same_sqt s
theorem TpAll.same {v : List V} {d : List PyData} (h : TpAll K H v d) (s : Same H H') : TpAll K H' v d := h.mono fun _ _ => same_sqt s
theorem Tp.sx {p : Addr} {v : V} {d : PyData} (h : Tp K H v d) (s : SameX p H H') (hp : NotT H p) : Tp K H' v d := h.mono fun _ _ => sqt_sx' s hp
theorem TpAll.sx {p : Addr} {v : List V} {d : List PyData} (h : TpAll K H v d) (s : SameX p H H') (hp : NotT H p) : TpAll K H' v d := h.mono fun _ _ => sqt_sx' s hp
mutual
theorem Tp.dp : ∀ {d : PyData} {v : V}, Tp K H v d → Dp K H v d
  | _, _, .non => .non
  | _, _, .int i => .int i
  | _, _, .str x => .str x
  | _, _, .tup h hs => .tup h (TpAll.dp hs)
theorem TpAll.dp : ∀ {ds : List PyData} {vs : List V}, TpAll K H vs ds → DpAll K H vs ds
  | _, _, .nil => .nil
  | _, _, .cons h t => .cons (Tp.dp h) (TpAll.dp t)
end
theorem TpAll.len : ∀ {vs : List V} {ds : List PyData}, TpAll K H vs ds → vs.length = ds.length
  | _, _, .nil => rfl
  | _, _, .cons _ h => by rw [List.length_cons, List.length_cons, TpAll.len h]
theorem TpAll.get : ∀ {vs : List V} {ds : List PyData}, TpAll K H vs ds → ∀ {i : Nat} {v : V}, vs[i]? = some v → ∃ d, ds[i]? = some d ∧ Tp K H v d
  | _, _, .cons h1 h2, 0, v, e => ⟨_, rfl, by cases e; exact h1⟩
  | _, _, .cons h1 h2, i + 1, v, e => TpAll.get h2 e
theorem TpAll.app : ∀ {vs ws : List V} {ds es : List PyData}, TpAll K H vs ds → TpAll K H ws es → TpAll K H (vs ++ ws) (ds ++ es)
  | _, _, _, _, .nil, h => h
  | _, _, _, _, .cons h1 h2, h => .cons h1 (TpAll.app h2 h)
theorem TpAll.take : ∀ (n : Nat) {vs : List V} {ds : List PyData}, TpAll K H vs ds → TpAll K H (vs.take n) (ds.take n)
  | 0, _, _, _ => .nil
  | _ + 1, _, _, .nil => .nil
  | n + 1, _, _, .cons h1 h2 => .cons h1 (TpAll.take n h2)
theorem TpAll.drop : ∀ (n : Nat) {vs : List V} {ds : List PyData}, TpAll K H vs ds → TpAll K H (vs.drop n) (ds.drop n)
  | 0, _, _, h => h
  | _ + 1, _, _, .nil => .nil
  | n + 1, _, _, .cons _ h2 => TpAll.drop n h2
theorem TpAll.rev : ∀ {vs : List V} {ds : List PyData}, TpAll K H vs ds → TpAll K H vs.reverse ds.reverse
  | _, _, .nil => .nil
  | _, _, .cons h1 h2 => by
    rw [List.reverse_cons, List.reverse_cons]
    exact (TpAll.rev h2).app (.cons h1 .nil)
theorem TpAll.snoc {vs : List V} {ds : List PyData} {v : V} {d : PyData} (h : TpAll K H vs ds) (k : Tp K H v d) : TpAll K H (vs ++ [v]) (ds ++ [d]) := h.app (.cons k .nil)
theorem tp_strs : ∀ xs : List Str, TpAll K H (xs.map V.str) (xs.map .str)
  | [] => .nil
  | x :: xs => .cons (.str x) (tp_strs xs)
theorem TpAll.names : ∀ {vs : List V} {ns : List Str}, TpAll K H vs (ns.map .str) → vs = ns.map V.str
  | [], [], _ => rfl
  | v :: vs, n :: ns, .cons h1 h2 => by
    cases h1
    rw [TpAll.names h2]
    rfl
end
abbrev Pth := List Str
abbrev Prt := Pth × Str
abbrev Wir := Prt × Prt
def dPort (q : Prt) : PyData := .tuple [dTx q.1, .str q.2]
def dWire (x : Wir) : PyData := .tuple [dPort x.1, dPort x.2]
section
variable {K : PySem.W.Frag} {H H' : Hp}
theorem tp_path {a : Addr} {p : Pth} (h : SqT K H a (p.map V.str)) : Tp K H (.ref a) (dTx p) := .tup h (tp_strs p)
theorem tp_port {a : Addr} {v : V} {p : Pth} {n : Str} (h : SqT K H a [v, .str n]) (k : Tp K H v (dTx p)) : Tp K H (.ref a) (dPort (p, n)) := .tup h (.cons k (.cons (.str n) .nil))
theorem tp_wire {a : Addr} {v u : V} {x : Wir} (h : SqT K H a [v, u]) (k : Tp K H v (dPort x.1)) (l : Tp K H u (dPort x.2)) : Tp K H (.ref a) (dWire x) := .tup h (.cons k (.cons l .nil))
theorem path_inv {v : V} {p : Pth} (h : Tp K H v (dTx p)) : ∃ a, v = .ref a ∧ SqT K H a (p.map V.str) := by
  cases h with
  | tup h1 h2 =>
    have := h2.names
    subst this
    exact ⟨_, rfl, h1⟩
theorem port_inv {v : V} {q : Prt} (h : Tp K H v (dPort q)) : ∃ a u, v = .ref a ∧ SqT K H a [u, .str q.2] ∧ Tp K H u (dTx q.1) := by
  cases h with
  | tup h1 h2 => cases h2 with
    | cons h3 h4 => cases h4 with
      | cons h5 h6 =>
        cases h5
        cases h6
        exact ⟨_, _, rfl, h1, h3⟩
theorem wire_inv {v : V} {x : Wir} (h : Tp K H v (dWire x)) : ∃ a u z, v = .ref a ∧ SqT K H a [u, z] ∧ Tp K H u (dPort x.1) ∧ Tp K H z (dPort x.2) := by
  cases h with
  | tup h1 h2 => cases h2 with
    | cons h3 h4 => cases h4 with
      | cons h5 h6 =>
        cases h6
        exact ⟨_, _, _, rfl, h1, h3, h5⟩
def kPath (p : Pth) : NK := .tup (p.map .text)
def kPort (q : Prt) : NK := .tup [kPath q.1, .text q.2]
theorem texts_inj : ∀ {p q : Pth}, p.map NestedKey.text = q.map NestedKey.text → p = q
  | [], [], _ => rfl
  | [], _ :: _, h => by cases h
  | _ :: _, [], h => by cases h
  | x :: p, y :: q, h => by
    injection h with h1 h2
    injection h1 with h1
    rw [h1, texts_inj h2]
theorem kPath_inj {p q : Pth} (h : kPath p = kPath q) : p = q := by
  unfold kPath at h
  injection h with h
  exact texts_inj h
theorem kPort_inj {p q : Prt} (h : kPort p = kPort q) : p = q := by
  unfold kPort at h
  injection h with h
  injection h with h1 h2
  injection h2 with h2 _
  injection h2 with h2
  exact Prod.ext (kPath_inj h1) h2
theorem nk_strs : ∀ p : Pth, NkAll K H (p.map .text) (p.map V.str)
  | [] => .nil
  | x :: p => .cons (.text x) (nk_strs p)
theorem dep_texts : ∀ p : Pth, NestedKey.depthAll (p.map .text) ≤ 1
  | [] => by simp [NestedKey.depthAll]
  | x :: p => by
    have := dep_texts p
    simp only [List.map_cons, NestedKey.depthAll, NestedKey.depth]
    omega
theorem dep_path (p : Pth) : (kPath p).depth ≤ 2 := by
  have := dep_texts p
  unfold kPath
  simp only [NestedKey.depth]
  omega
theorem dep_port (q : Prt) : (kPort q).depth ≤ 3 := by
  have := dep_path q.1
  unfold kPort
  simp only [NestedKey.depth, NestedKey.depthAll]
  omega
theorem nk_path {v : V} {p : Pth} (h : Tp K H v (dTx p)) : NkV K H (kPath p) v := by
  obtain ⟨a, rfl, h1⟩ := path_inv h
  exact .tup h1 (nk_strs p)
theorem key_path {v : V} {p : Pth} (h : Tp K H v (dTx p)) : KeyAt K H v (kPath p) := by
  obtain ⟨a, rfl, h1⟩ := path_inv h
  exact ⟨⟨_, rfl⟩, nk_path h, Nat.le_trans (dep_path p) (by decide)⟩
theorem key_port {v : V} {q : Prt} (h : Tp K H v (dPort q)) : KeyAt K H v (kPort q) := by
  obtain ⟨a, u, rfl, h1, h2⟩ := port_inv h
  exact ⟨⟨_, rfl⟩, .tup h1 (.cons (nk_path h2) (.cons (.text _) .nil)), Nat.le_trans (dep_port q) (by decide)⟩
end
def TextOk (z : Str) : Prop := ∃ n c, PText n c ∧ z = textOf n c
def wordT (z : Str) : Str := (Txt.split z " ").headD Str.empty
def rowT (z : Str) : Str × List Str × List Str := (portsTab.find? fun r => decide (r.1 = wordT z)).getD (Str.empty, [], [])
def insT (z : Str) : List Str := (rowT z).2.1
def outsT (z : Str) : List Str := (rowT z).2.2
theorem word_of {n : Str} {c : Option Int} (h : PText n c) : wordT (textOf n c) = n := by
  unfold wordT
  rw [split_text h]
  cases c <;> rfl
theorem row_of : ∀ r ∈ portsTab, portsTab.find? (fun x => decide (x.1 = r.1)) = some r := by decide +kernel
theorem rowT_of {z : Str} (h : TextOk z) : (wordT z, insT z, outsT z) ∈ portsTab := by
  obtain ⟨n, c, hp, rfl⟩ := h
  obtain ⟨ins, outs, hr⟩ := names_ports hp.ok.1
  have e := row_of _ hr
  have er : rowT (textOf n c) = (n, ins, outs) := by
    unfold rowT
    rw [word_of hp]
    have e : portsTab.find? (fun x => decide (x.1 = n)) = some (n, ins, outs) := e
    rw [e]
    rfl
  unfold insT outsT
  rw [er, word_of hp]
  exact hr
theorem split_head {z : Str} (h : TextOk z) : ∃ r, Txt.split z " " = wordT z :: r := by
  obtain ⟨n, c, hp, rfl⟩ := h
  rw [word_of hp, split_text hp]
  cases c with
  | none => exact ⟨_, rfl⟩
  | some v => exact ⟨_, rfl⟩
theorem ports_small : ∀ r ∈ portsTab, r.2.1.length ≤ 3 ∧ r.2.2.length ≤ 2 ∧ (∀ x ∈ r.1 :: r.2.1 ++ r.2.2, nameOk x = true) ∧ r.2.1.Nodup ∧ r.2.2.Nodup := by
  have k : (portsTab.all fun r => decide (r.2.1.length ≤ 3 ∧ r.2.2.length ≤ 2) && (r.1 :: r.2.1 ++ r.2.2).all nameOk && decide (r.2.1.Nodup ∧ r.2.2.Nodup)) = true := by decide +kernel
  intro r hr
  have h := List.all_eq_true.mp k r hr
  rw [Bool.and_eq_true, Bool.and_eq_true] at h
  obtain ⟨⟨h1, h2⟩, h3⟩ := h
  obtain ⟨h1, h4⟩ := of_decide_eq_true h1
  obtain ⟨h5, h6⟩ := of_decide_eq_true h3
  exact ⟨h1, h4, fun x hx => List.all_eq_true.mp h2 x hx, h5, h6⟩
abbrev Part := Pth × Str
def dPart (x : Part) : PyData := .tuple [dTx x.1, .str x.2]
def isD (x : Part) : Bool := decide (wordT x.2 = "delay")
def insP (x : Part) : List Prt := (insT x.2).map fun n => (x.1, n)
def outsP (x : Part) : List Prt := (outsT x.2).map fun n => (x.1, n)
def tgts (outs : List Str) (parts : List Part) : List Prt := parts.flatMap insP ++ outs.map fun n => ([], n)
def srcs (parts : List Part) (place : Nat) : List Prt := (parts.zipIdx.filter fun q => decide (q.2 < place) || isD q.1).flatMap fun q => outsP q.1
end Nt

set_option maxRecDepth 100000
set_option maxHeartbeats 4000000
namespace Od
open PySem PySem.Spec PyProof.Rows L2 Ly
section
variable {X : Cx}
/-- a new tuple, told -/
def NewT (H : Hp) (xs : List V) (Q : VK) : Prop := ∀ c H', Same H H' → KnT H' c xs → Q (.ref c) H'
theorem newT_at {pins : List (Addr × Obj)} {σ : L2.St} {H : Hp} {s : Shared} {xs : List V} {its : List Value} {Q : VK} (I : Inv X pins σ H s) (r : Vals xs its) (hz : xs.length ≤ sizeLine) (q : NewT H xs Q) :
    EP X pins σ Q (.ref s.heap.objs.size) { s with heap := s.heap.push { cls := .type "tuple", data := .seq its.toArray } } := by
  have hf : H s.heap.objs.size = none := I.hok.fresh (Nat.le_refl _)
  have I2 : Inv X pins σ (upd H s.heap.objs.size (.frz { cls := .type "tuple", data := .seq its.toArray } (.tup xs))) { s with heap := s.heap.push { cls := .type "tuple", data := .seq its.toArray } } :=
    I.laid (t' := s.toks) (fun b o e => Heap.get?_push_of_some _ e) (Nat.le_refl _) ⟨Heap.get?_push_size _ rfl, hz, its, r, IsTup.new _ _⟩
  exact ⟨.ref s.heap.objs.size, _, I2, rfl, q _ _ (same_new hf) ⟨{ cls := .type "tuple", data := .seq its.toArray }, upd_same, rfl⟩⟩
def tTupF (t : TA) : TE := fun σ H Q => t σ H fun xs H1 => xs.length ≤ sizeLine ∧ NewT H1 xs Q
theorem pe_tupF {es : List Expr} {x1 : Nat} {pos : Pos} {t : TA} (h : PA X es t) : PE X (.Tuple es x1 pos) (tTupF t) := by
  refine ⟨fun pins s σ H Q I hq => ?_⟩
  refine wpAny_Tuple_spliced (thn (h.run pos pins s σ H _ I hq) fun us s1 ⟨xs, H1, I1, r, z, q⟩ => ⟨by rw [← r.length]; exact z, ?_⟩)
  exact newT_at I1 r z q
/-- tuple(l) -/
def rTupG (K : PySem.W.Frag) : List V → Hp → VK → Prop := fun vs H Q => (∃ p ys, vs = [.ref p] ∧ SqL K H p ys ∧ NewT H ys Q) ∨ ∃ z : Str, vs = [.str z] ∧ z.length ≤ sizeLine ∧ NewT H (z.cps.toList.map fun c => V.str ⟨#[c]⟩) Q
theorem vals_ix : ∀ (xs : List V) (us : List Value), xs.length = us.length → (∀ (i : Nat) x u, xs[i]? = some x → us[i]? = some u → RelV x u) → Vals xs us
  | [], [], _, _ => .nil
  | x :: xs, u :: us, hl, h => .cons (h 0 x u rfl rfl) (vals_ix xs us (by simpa using hl) fun i y v h1 h2 => h (i + 1) y v h1 h2)
theorem sign_vals {z : Str} {acc : Array Value} (h : ItemsOf (SignAt z) acc z.cps.size) : Vals (z.cps.toList.map fun c => V.str ⟨#[c]⟩) acc.toList := by
  refine vals_ix _ _ (by rw [List.length_map, Array.length_toList, Array.length_toList, h.1]) fun i x u h1 h2 => ?_
  obtain ⟨c, t, h3, rfl⟩ := h.2 i u (by simpa using h2)
  rw [List.getElem?_map] at h1
  have h4 : z.cps.toList[i]? = some c := by simpa using h3
  rw [h4] at h1
  cases h1
  exact ⟨t, rfl⟩
theorem call_tupleG (K : PySem.W.Frag) (hc : X.calm = true) (hK : X.K = K := by rfl) : CallR X (.type "tuple") (rTupG K) := by
  subst hK
  intro pins s σ H vs us Q I r h
  rcases h with ⟨p, ys, rfl, hq, q⟩ | ⟨z, rfl, hz, q⟩
  · exact call_tupleF X.K rfl pins s σ H _ us Q I r ⟨p, ys, rfl, hq, fun l ob hl ho => q l _ (same_new hl) ⟨ob, upd_same, ho⟩⟩
  · obtain ⟨u, rfl, ru⟩ := vals1 r
    obtain ⟨t, rfl⟩ := ru
    refine call_tuple_str (I.ok.hd hc) z t (fun h' tk acc kp hacc => ?_) hz
    have I1 : Inv X pins σ H { s with heap := h', toks := tk } := I.kept (t' := tk) kp
    exact newT_at I1 (sign_vals hacc) (by rw [List.length_map]; exact hz) q
end
end Od

set_option maxRecDepth 100000
set_option maxHeartbeats 4000000
namespace Nt
open PySem PySem.Spec PyProof.Rows L2 Ly LamX Nd
theorem hu8 {A : Around} {k : Nat} (hr : Room k A) : A.units + 8 < cLine := by have := hr.un; omega
theorem hu9 {A : Around} {k : Nat} (hr : Room k A) : A.units + 9 < cLine := by have := hr.un; omega
theorem hu10 {A : Around} {k : Nat} (hr : Room k A) : A.units + 10 < cLine := by have := hr.un; omega
def PathOk (p : Pth) : Prop := 1 ≤ p.length ∧ p.length ≤ 3 ∧ ∀ x ∈ p, nameOk x = true
def spFeedS (K : PySem.W.Frag) : Sp := fun vs H Q _ => ∃ (s : Addr) (ns : List Int) (k : Nat), vs = [.ref s, .int k] ∧ SqL K H s (ns.map V.int) ∧ k ≤ 1000 ∧ ∀ p a b H', Same H H' → H p = none → FeedAt H' p a b → Q (.ref p) H'
def spPortsL : Sp := fun vs H Q _ => ∃ z : Str, vs = [.str z] ∧ TextOk z ∧
  ∀ l a b H', Same H H' → H' l = some (.lst [.ref a, .ref b]) → H' a = some (.lst ((insT z).map V.str)) → H' b = some (.lst ((outsT z).map V.str)) → Q (.ref l) H'
def spNumber : Sp := fun vs H Q _ => ∃ (p : Addr) (a b : Int), vs = [.ref p] ∧ FeedAt H p a b ∧ ∀ (d : Int) (H' : Hp) (a' b' : Int), R32 d → SameX p H H' → FeedAt H' p a' b' → Q (.int d) H'
def spPathsL (K : PySem.W.Frag) : Sp := fun vs H Q _ => ∃ (p : Addr) (m : Nat) (a b : Int), vs = [.ref p, .int m] ∧ FeedAt H p a b ∧ m ≤ 16 ∧
  ∀ (l : Addr) (us : List V) (ps : List Pth) (H' : Hp) (a' b' : Int), SameX p H H' → FeedAt H' p a' b' → H' l = some (.lst us) → l ≠ p → TpAll K H' us (ps.map dTx) → ps.length = m → ps.Nodup → (∀ q ∈ ps, PathOk q) → Q (.ref l) H'
def PartsAt (K : PySem.W.Frag) (H : Hp) (us : List V) (parts : List Part) : Prop := TpAll K H us (parts.map dPart)
def spSrcs (K : PySem.W.Frag) : Sp := fun vs H Q _ => ∃ (l : Addr) (us : List V) (parts : List Part) (n : Nat), vs = [.ref l, .int n] ∧ SqL K H l us ∧ PartsAt K H us parts ∧ (∀ x ∈ parts, TextOk x.2) ∧ parts.length ≤ 16 ∧
  ∀ (l' : Addr) (ws : List V) (H' : Hp), Same H H' → H' l' = some (.lst ws) → H l' = none → TpAll K H' ws ((srcs parts n).map dPort) → Q (.ref l') H'
def spTurned (K : PySem.W.Frag) : Sp := fun vs H Q _ => ∃ (p l : Addr) (us : List V) (parts : List Part) (a b : Int), vs = [.ref p, .ref l] ∧ FeedAt H p a b ∧ H l = some (.lst us) ∧ l ≠ p ∧ PartsAt K H us parts ∧ parts.length ≤ 16 ∧
  ∀ (l' : Addr) (ws : List V) (parts' : List Part) (H' : Hp) (a' b' : Int), SameX p H H' → FeedAt H' p a' b' → H' l' = some (.lst ws) → l' ≠ p → PartsAt K H' ws parts' → parts'.Perm parts → Q (.ref l') H'
def spTexts : Sp := fun vs H Q _ => ∃ (p l : Addr) (ws : List Str) (m : Nat) (fr : Bool) (a b : Int), vs = [.ref p, .ref l, .int m, .bl fr] ∧ FeedAt H p a b ∧ H l = some (.lst (ws.map V.str)) ∧ l ≠ p ∧ ws ≠ [] ∧ ws.length ≤ 100 ∧ (∀ x ∈ ws, x ∈ portNames) ∧ m ≤ 16 ∧
  ∀ (l' : Addr) (ts : List Str) (H' : Hp) (a' b' : Int), SameX p H H' → FeedAt H' p a' b' → H' l' = some (.lst (ts.map V.str)) → l' ≠ p → ts.length = m → (∀ z ∈ ts, TextOk z) → (fr = false → ∀ z r, ts = z :: r → insT z = [] ∨ wordT z = "delay") → Q (.ref l') H'
def spTgts (K : PySem.W.Frag) : Sp := fun vs H Q _ => ∃ (o l : Addr) (outs : List Str) (us : List V) (parts : List Part), vs = [.ref o, .ref l] ∧ (SqL K H o (outs.map V.str) ∧ SqL K H l us ∨ SqT K H o (outs.map V.str) ∧ SqT K H l us) ∧ PartsAt K H us parts ∧ (∀ x ∈ parts, TextOk x.2) ∧ parts.length ≤ 16 ∧ outs.length ≤ 8 ∧
  ∀ (l' : Addr) (ws : List V) (H' : Hp), Same H H' → H' l' = some (.lst ws) → H l' = none → TpAll K H' ws ((tgts outs parts).map dPort) → Q (.ref l') H'
theorem textOk_plain {w : Str} (h : w ∈ portNames) (hw : withK w = false) : TextOk w := ⟨w, none, ⟨⟨h, fun _ e => by cases e⟩, by rw [hw]; rfl⟩, rfl⟩
theorem textOk_k {w : Str} {d : Int} (h : w ∈ portNames) (hw : withK w = true) (hd : R32 d) : TextOk (w ++ " " ++ Str.ofString (toString d)) := ⟨w, some d, ⟨⟨h, fun _ e => by cases e; exact hd⟩, by rw [hw]; rfl⟩, rfl⟩
theorem textOk_len {z : Str} (h : TextOk z) : z.length ≤ 100 := by
  obtain ⟨n, c, hp, rfl⟩ := h
  exact textOf_len hp.ok
theorem srcs_len {parts : List Part} {n : Nat} (ht : ∀ x ∈ parts, TextOk x.2) : (srcs parts n).length ≤ 2 * parts.length := by
  unfold srcs
  have key : ∀ l : List (Part × Nat), (∀ q ∈ l, TextOk q.1.2) → (l.flatMap fun q => outsP q.1).length ≤ 2 * l.length := by
    intro l
    induction l with
    | nil => simp
    | cons q l ih =>
      intro h
      have h1 := ih fun z hz => h z (List.mem_cons_of_mem _ hz)
      have h2 := (ports_small _ (rowT_of (h q List.mem_cons_self))).2.1
      have h3 : (outsP q.1).length ≤ 2 := by unfold outsP; rw [List.length_map]; exact h2
      rw [List.flatMap_cons, List.length_append, List.length_cons]
      omega
  have h1 := key (parts.zipIdx.filter fun q => decide (q.2 < n) || isD q.1) fun q hq => by
    have := (List.mem_filter.mp hq).1
    exact ht _ (List.fst_mem_of_mem_zipIdx this)
  have h2 := List.length_filter_le (fun q : Part × Nat => decide (q.2 < n) || isD q.1) parts.zipIdx
  rw [List.length_zipIdx] at h2
  omega
def WiresAt (K : PySem.W.Frag) (H : Hp) (ws : List V) (wires : List Wir) : Prop := TpAll K H ws (wires.map dWire)
/-- a list of the four tuples -/
def NetAt (K : PySem.W.Frag) (H : Hp) (l : Addr) (ins outs : List Str) (parts : List Part) (wires : List Wir) : Prop :=
  ∃ a b c d us ws, H l = some (.lst [.ref a, .ref b, .ref c, .ref d]) ∧ KnT H a (ins.map V.str) ∧ KnT H b (outs.map V.str) ∧ KnT H c us ∧ PartsAt K H us parts ∧ KnT H d ws ∧ WiresAt K H ws wires
theorem knt_sxn {p : Addr} {H H' : Hp} {a : Addr} {xs : List V} (h : KnT H a xs) (s : SameX p H H') (hp : NotT H p) : KnT H' a xs := by
  obtain ⟨ob, h1, h2⟩ := h
  exact ⟨ob, s _ _ (fun e => hp xs (.inr ⟨ob, by rw [← e]; exact h1⟩)) h1, h2⟩
theorem NetAt.same {K : PySem.W.Frag} {H H' : Hp} {l : Addr} {ins outs : List Str} {parts : List Part} {wires : List Wir} (h : NetAt K H l ins outs parts wires) (s : Same H H') : NetAt K H' l ins outs parts wires := by
  obtain ⟨a, b, c, d, us, ws, h1, h2, h3, h4, h5, h6, h7⟩ := h
  exact ⟨a, b, c, d, us, ws, s _ _ h1, h2.same s, h3.same s, h4.same s, TpAll.same h5 s, h6.same s, TpAll.same h7 s⟩
theorem NetAt.sx {K : PySem.W.Frag} {H H' : Hp} {p l : Addr} {ins outs : List Str} {parts : List Part} {wires : List Wir} (h : NetAt K H l ins outs parts wires) (s : SameX p H H') (hp : NotT H p) (ne : l ≠ p) : NetAt K H' l ins outs parts wires := by
  obtain ⟨a, b, c, d, us, ws, h1, h2, h3, h4, h5, h6, h7⟩ := h
  exact ⟨a, b, c, d, us, ws, s _ _ ne h1, knt_sxn h2 s hp, knt_sxn h3 s hp, knt_sxn h4 s hp, TpAll.sx h5 s hp, knt_sxn h6 s hp, TpAll.sx h7 s hp⟩
def spLaid (P : Program) (w : World) (K : PySem.W.Frag) : Sp := fun vs H Q _ => ∃ (i o l d : Addr) (ins outs : List Str) (us : List V) (parts : List Part) (kvs : List (NK × V)) (src : Nt.Prt → Nt.Prt), vs = [.ref i, .ref o, .ref l, .ref d] ∧ SqL K H i (ins.map V.str) ∧ SqL K H o (outs.map V.str) ∧ SqL K H l us ∧ PartsAt K H us parts ∧
  (∀ x ∈ parts, TextOk x.2) ∧ parts.length ≤ 16 ∧ outs.length ≤ 8 ∧ DN P w K H d kvs ∧ (∀ t ∈ tgts outs parts, ∃ v, valV kvs (kPort t) = some v ∧ Tp K H v (dPort (src t))) ∧
  ∀ (n : Addr) (H' : Hp), Same H H' → H n = none → NetAt K H' n ins outs parts ((tgts outs parts).map fun t => (t, src t)) → Q (.ref n) H'
def constT (z : Str) : Int := (((primOf z).bind (·.2)).getD 0)
def firsts (parts : List Part) : List (NK × V) := (parts.filter isD).map fun x => (kPath x.1, .int (constT x.2))
def spFirst (P : Program) (w : World) (K : PySem.W.Frag) : Sp := fun vs H Q _ => ∃ (l : Addr) (ins outs : List Str) (parts : List Part) (wires : List Wir), vs = [.ref l] ∧ NetAt K H l ins outs parts wires ∧ (∀ x ∈ parts, TextOk x.2) ∧ parts.length ≤ 16 ∧ (parts.map (·.1)).Nodup ∧
  ∀ (d : Addr) (H' : Hp), Same H H' → H d = none → DNf P w K H' d (firsts parts) → Q (.ref d) H'
theorem tgts_len {outs : List Str} {parts : List Part} (ht : ∀ x ∈ parts, TextOk x.2) : (tgts outs parts).length ≤ 3 * parts.length + outs.length := by
  unfold tgts
  rw [List.length_append, List.length_map]
  have key : ∀ l : List Part, (∀ x ∈ l, TextOk x.2) → (l.flatMap insP).length ≤ 3 * l.length := by
    intro l
    induction l with
    | nil => simp
    | cons q l ih =>
      intro h
      have h1 := ih fun z hz => h z (List.mem_cons_of_mem _ hz)
      have h2 := (ports_small _ (rowT_of (h q List.mem_cons_self))).1
      have h3 : (insP q).length ≤ 3 := by unfold insP; rw [List.length_map]; exact h2
      rw [List.flatMap_cons, List.length_append, List.length_cons]
      omega
  have := key parts ht
  omega
end Nt

set_option maxRecDepth 100000
set_option maxHeartbeats 4000000
namespace Ly
open PySem PySem.Spec PyProof.Rows L2
def ExT (cls : Value) (d : Option Addr) (a : Addr) : HO := .ext fun h => ∃ (oe : Obj) (vs : Array Value), h.get? a = some oe ∧ Zc cls d oe ∧ oe.data = .fields vs
theorem exT_ok {P : Program} {w : World} {H : Hp} {h : Heap} {a : Addr} {cls : Value} {d : Option Addr} {oe : Obj} {vs : Array Value} (e : h.get? a = some oe) (z : Zc cls d oe) (hd : oe.data = .fields vs) : ObjOk P w H h a (ExT cls d a) :=
  ⟨⟨oe, vs, e, z, hd⟩, ⟨oe, e⟩, fun h1 h2 z k => by
    obtain ⟨o, v, q, r⟩ := z
    exact ⟨o, v, k _ q, r⟩⟩
theorem exT_at {P : Program} {w : World} {H : Hp} {h : Heap} {a : Addr} {cls : Value} {d : Option Addr} (hok : HOk P w H h) (he : H a = some (ExT cls d a)) : ∃ (oe : Obj) (vs : Array Value), h.get? a = some oe ∧ Zc cls d oe ∧ oe.data = .fields vs := by
  have x : ObjOk P w H h a (.ext fun h => ∃ (oe : Obj) (vs : Array Value), h.get? a = some oe ∧ Zc cls d oe ∧ oe.data = .fields vs) := hok a _ he
  exact x.1
section
variable {X : Cx} {pins : List (Addr × Obj)} {σ : L2.St} {H : Hp} {s sI : Shared}
/-- an object above all that stands is tracked -/
theorem track {a : Addr} {o : HO} (J : Inv X pins σ H s) (na : H a = none) (nL : a ≠ X.env.locals) (hpin : ∀ p ∈ X.pn ++ pins, p.1 ≠ a) (hcell : ∀ x c, X.env.cells.lookup x = some c → c ≠ a)
    (hold : ∀ b u, X.s_0.heap.get? b = some u → b ∉ X.ex → b ≠ a) (new : ObjOk X.prog X.w (upd H a o) s.heap a o) : Inv X pins σ (upd H a o) s := by
  refine ⟨J.ok, J.os, J.bare, ⟨J.base.keep, J.base.slot, fun b u e n hx => ?_, J.base.there, fun b xs e => ?_, fun b u v e => ?_, fun b ps e => ?_⟩, J.loc, J.cell, ?_, fun x c e => ?_, fun p hp => ?_, L2.HOk.laidN J.hok (fun b u q => q) na new, J.len⟩
  · rw [upd_ne (hold b u e hx)]
    exact J.base.free b u e n hx
  · have q := J.base.tups b xs e
    rw [upd_ne (ne_of_none q na)]
    exact q
  · have q := J.base.frzs b u v e
    rw [upd_ne (ne_of_none q na)]
    exact q
  · obtain ⟨more, q⟩ := J.base.tbls b ps e
    exact ⟨more, by rw [upd_ne (ne_of_none q na)]; exact q⟩
  · rw [upd_ne (Ne.symm nL)]
    exact J.free
  · rw [upd_ne (hcell x c e)]
    exact J.freeC x c e
  · obtain ⟨e, n, r⟩ := J.pin p hp
    exact ⟨e, by rw [upd_ne (hpin p hp)]; exact n, r⟩
theorem toSuite (I : Inv X pins σ H s) (a : Addr) : Inv (X.suite a (X.pn ++ pins)) [] σ H s :=
  ⟨I.ok.suite _ _, I.os, I.bare, I.base, I.loc, I.cell, I.free, I.freeC, fun p hp => I.pin p (by rw [List.append_nil] at hp; exact hp), I.hok, I.len⟩
theorem fromSuite {a : Addr} {pn' : List (Addr × Obj)} (I : Inv (X.suite a (X.pn ++ pins)) pn' σ H s) (ok : X.Ok) : Inv X pins σ H s :=
  ⟨ok, I.os, I.bare, I.base, I.loc, I.cell, I.free, I.freeC, fun p hp => I.pin p (List.mem_append_left _ hp), I.hok, I.len⟩
end
/-- what the clause 'except x as n' wishes of the body's exception: it is tracked in the suite and behind it -/
def wKp (K : PySem.W.Frag) (c : Value) (i : Nat) (ts : Addr → Value → Option Addr → TS) (Wout : WX) (D : Ends) : WX := fun cls d σ H =>
  ∃ b, PySem.W.exmOne K cls c = some b ∧ (b = true → ∀ a, H a = none → ts a cls d { nx := fun σ' H' => D.nx (σ'.set i none) H', rt := D.rt, bk := fun σ' H' => D.bk (σ'.set i none) H', ct := fun σ' H' => D.ct (σ'.set i none) H' } (σ.set i (some (.ref a))) (upd H a (ExT cls d a))) ∧
    (b = false → Wout cls d σ H)
section
variable {X : Cx} {x n : Str} {c : Value} {i : Nat} {body suite : List Stmt} {b₀ : Stmt} {np pos pos' : Pos} {tb : WX → TS} {ts : Addr → Value → Option Addr → TS} {Wout : WX}
end
section
variable {X : Cx}
/-- e.f, e a tracked exception of the class at C -/
def tXt (C : Addr) (f : Str) (te : TE) : TE := fun σ H Q => te σ H fun x H1 => ∃ (a dd : Addr) (fs : List (Str × V)) (v : V), x = .ref a ∧ H1 a = some (ExT (.ref C) (some dd) a) ∧ H1 dd = some (.xd fs) ∧ fs.lookup f = some v ∧ Q v H1
theorem inst_exT {H : Hp} {s : Shared} {a C dd : Addr} {fs : List (Str × V)} (hok : HOk X.prog X.w H s.heap) (he : H a = some (ExT (.ref C) (some dd) a)) (ed : H dd = some (.xd fs)) :
    ∃ (oe : Obj) (od : Obj) (mA : Str → Option Value), PySem.W.InstAt s.heap a oe C (some od) ∧ (∀ f, RelO (fs.lookup f) (mA f)) ∧ ∀ f, PySem.W.lookIn f od = some (mA f) := by
  obtain ⟨oe, vs, ha, hz, hd⟩ := exT_at hok he
  have hx : ObjOk X.prog X.w H s.heap dd (.xd fs) := hok dd _ ed
  obtain ⟨mA, hns, hr⟩ := hx
  obtain ⟨od, ho, hl⟩ := lookIn_ns hns
  exact ⟨oe, od, mA, ⟨ha, hz.1, by unfold PySem.W.notCls; rw [hd] <;> rfl, by rw [hz.2]; exact ho⟩, hr, hl⟩
theorem pe_xt {C : Addr} {e : Expr} {te : TE} {pos : Pos} {n : Str} (T : XfC X.K C) (hno : PySem.W.findIn X.K (.ref C) n = some none) (he : PE X e te) (hb : attributeBase e n X.env (eval e X.env) = eval e X.env := by rfl) :
    PE X (.Attribute e n pos) (tXt C n te) := by
  refine ⟨fun pins s σ H Q I h => ?_⟩
  refine attr_of hb (thn (he.run pins s σ H _ I h) fun u s1 hh => ?_)
  obtain ⟨x, H1, I1, rx, a, dd, fs, v, ex, ea, ed, l, q⟩ := hh
  subst ex
  obtain rfl : u = Value.ref a := rx
  obtain ⟨oe, od, mA, J, hr, hl⟩ := inst_exT I1.hok ea ed
  obtain ⟨u, hu, ru⟩ := RelO.some_of (v := v) (o := mA n) (by rw [← l]; exact hr n)
  exact HandSPX.exc_get I1.kIn J T.ga T.gg T.exC (PySem.W.findObj_own T.hdC hno rfl (by rw [hl, hu])) (handed_of ru) ⟨v, H1, I1.tok _, ru, q⟩
/-- what isinstance asks of the class -/
structure ExcK (K : PySem.W.Frag) (D : Addr) : Prop where
  cl : (PySem.W.clsIn K D).isSome = true
  hg : PySem.W.findIn K (.ref D) "__getattribute__" = some (some (.builtin "BaseException.__getattribute__"))
  hk : PySem.W.findIn K (.ref D) "__getattr__" = some none
  hs : PySem.W.subIn K (.ref D) (.type "BaseException") = some true
  ha : PySem.W.findIn K (.ref D) "__class__" = some (some (.builtin "object.__class__"))
  hn : PySem.W.specialIn K (.builtin "object.__class__") "__get__" = some (some (.builtin "getset_descriptor.__get__"))
  ht : PySem.W.takesIn K (.builtin "object.__class__") = some true
  hm : PySem.W.mroIn K D (.type "object") = some true
end
section
variable {X : Cx} {CX : CXT} {k : Nat} {C p g : Addr} {mc : Value} {sp : Sp} {E : L2.St → XK} {o e : Expr} {es : List Expr} {m : Str} {pos apos : Pos} {ta : TE} {t : TA} {pl : Sem Bool} {pins : List (Addr × Obj)} {σ : L2.St} {H : Hp} {s : Shared}
end
theorem kit_ve {K : PySem.W.Frag} {C : Addr} (h : PySem.W.subIn K (.ref C) (.type "ValueError") = some true) : PySem.W.kitOne K (.ref C) (.type "ValueError") = some true := by
  unfold PySem.W.kitOne
  split
  · rfl
  · unfold PySem.W.kitCls
    dsimp only
    rw [if_pos (show PySem.W.kitMeta "ValueError" = true by decide +kernel)]
    exact h
/-- the __init__ of an own exception class: its one field -/
def spXI (C : Addr) (f : Str) : Sp := fun vs H Q _ => ∃ (a : Addr) (v : V), vs = [.ref a, v] ∧ H a = some (exo a C none) ∧ ∀ dx, H dx = none → dx ≠ a → Q .non (upd (upd H dx (exd dx [(f, v)])) a (exo a C (some dx)))
/-- the heap behind a made exception -/
theorem same_exc {H : Hp} {a dx : Addr} {u1 u2 u3 u4 : HO} (na : H a = none) (nd : H dx = none) : Same H (upd (del (upd (upd (upd H a u1) dx u2) a u3) a) dx u4) := fun b u e => by
  have n1 : b ≠ a := ne_of_none e na
  have n2 : b ≠ dx := ne_of_none e nd
  rw [upd_ne n2, del_ne n1, upd_ne n1, upd_ne n2, upd_ne n1]
  exact e
end Ly

set_option maxRecDepth 100000
set_option maxHeartbeats 4000000
namespace K82
open PySem L2 Ly Nd Nt Od
local macro_rules | `(tactic| walk_at "nx") => `(tactic| dsimp only [tNext])
def top (i : Nat) : Stmt := PySem.Challenge.pw_stepblocks_k82_lines_of_targets.main.body.getD i (.Pass ⟨0, 0, 0, 0⟩)
abbrev s_UnknownPort_init : Stmt := inClass (top 6) 0
abbrev s_is_name : Stmt := top 18
abbrev s_number_of : Stmt := top 19
abbrev s_is_primitive_text : Stmt := top 20
abbrev s_Block_init : Stmt := inClass (top 22) 0
abbrev s_Primitive_init : Stmt := inClass (top 23) 0
abbrev s_Primitive_parse : Stmt := inClass (top 23) 1
abbrev s_are_ports : Stmt := top 42
abbrev s_is_path : Stmt := top 43
abbrev s_are_parts : Stmt := top 44
abbrev s_ports_of : Stmt := top 45
abbrev s_targets_of : Stmt := top 46
abbrev s_sources_of : Stmt := top 47
abbrev s_are_wires : Stmt := top 48
abbrev s_are_good_for_net : Stmt := top 49
abbrev s_Net_init : Stmt := inClass (top 50) 0
abbrev s_Net_lay : Stmt := inClass (top 50) 3
abbrev s_Net_ordered : Stmt := inClass (top 50) 4
abbrev s_Net_is_fed : Stmt := inClass (top 50) 5
abbrev s_Net_first_state : Stmt := inClass (top 50) 10
abbrev s_has_word : Stmt := top 52
abbrev s_check_rings : Stmt := top 53
abbrev s_line_targets : Stmt := top 54
abbrev s_line_at : Stmt := top 55
abbrev s_line_of : Stmt := top 56
abbrev s_law_feed : Stmt := top 58
abbrev s_law_take : Stmt := top 59
abbrev s_law_pick : Stmt := top 60
abbrev s_law_ports : Stmt := top 61
abbrev s_law_number : Stmt := top 62
abbrev s_law_paths : Stmt := top 63
abbrev s_law_sources : Stmt := top 64
abbrev s_law_turned : Stmt := top 65
abbrev s_law_texts : Stmt := top 66
abbrev s_law_net : Stmt := top 67
abbrev s_law_targets : Stmt := top 68
abbrev s_law_laid : Stmt := top 69
abbrev s_law_first : Stmt := top 70
abbrev s_law_made : Stmt := top 71
abbrev s_law_lined : Stmt := top 73
abbrev s_law_has_ring : Stmt := top 74
abbrev s_law_line : Stmt := top 75
abbrev s_law_delayed : Stmt := top 76
abbrev s_law_asked : Stmt := top 77
abbrev s_law_odd : Stmt := top 78
abbrev s_law : Stmt := top 79
structure Adr where
  t_MODULUS : Tok
  t_MAX_NAME : Tok
  t_MAX_NET : Tok
  t_MAX_PATH : Tok
  t_DIGITS : Tok
  t_LETTERS : Tok
  f_number_of : Addr
  f_is_primitive_text : Addr
  f_is_name : Addr
  f_are_ports : Addr
  f_is_path : Addr
  f_are_parts : Addr
  f_ports_of : Addr
  f_targets_of : Addr
  f_sources_of : Addr
  f_are_wires : Addr
  f_are_good_for_net : Addr
  f_has_word : Addr
  f_check_rings : Addr
  f_line_targets : Addr
  f_line_at : Addr
  f_line_of : Addr
  f_law_feed : Addr
  f_law_take : Addr
  f_law_pick : Addr
  f_law_ports : Addr
  f_law_number : Addr
  f_law_paths : Addr
  f_law_sources : Addr
  f_law_turned : Addr
  f_law_texts : Addr
  f_law_net : Addr
  f_law_targets : Addr
  f_law_laid : Addr
  f_law_first : Addr
  f_law_made : Addr
  f_law_lined : Addr
  f_law_has_ring : Addr
  f_law_line : Addr
  f_law_delayed : Addr
  f_law_asked : Addr
  f_law_odd : Addr
  f_law : Addr
  d_PORTS : Addr
  es_PORTS : Array DictEntry
  en_PORTS : Nat
  u_RESERVED : Addr
  C_Block : Addr
  C_Primitive : Addr
  f_Block_init : Addr
  f_Primitive_init : Addr
  p_Primitive_parse : Addr
  f_Primitive_parse : Addr
  C_Diagram : Addr
  tv_Diagram_MAX_PORTS : Tok
  C_Net : Addr
  f_Net_init : Addr
  f_Net_lay : Addr
  f_Net_ordered : Addr
  f_Net_is_fed : Addr
  f_Net_first_state : Addr
  C_UnknownPort : Addr
  C_BlockError : Addr
  f_UnknownPort_init : Addr
  C_DelayRing : Addr
structure Txt (K : PySem.W.Frag) (w : World) (mg : Str → Option Value) (ad : Adr) : Prop where
  n_len : mg "len" = none
  n_abs : mg "abs" = none
  n_max : mg "max" = none
  n_min : mg "min" = none
  n_range : mg "range" = none
  n_isinstance : mg "isinstance" = none
  n_int : mg "int" = none
  n_str : mg "str" = none
  n_tuple : mg "tuple" = none
  n_list : mg "list" = none
  n_set : mg "set" = none
  n_dict : mg "dict" = none
  n_all : mg "all" = none
  n_repr : mg "repr" = none
  n_enumerate : mg "enumerate" = none
  n_zip : mg "zip" = none
  g_MODULUS : mg "MODULUS" = some (.int 4294967296 ad.t_MODULUS)
  g_MAX_NAME : mg "MAX_NAME" = some (.int 8 ad.t_MAX_NAME)
  g_MAX_NET : mg "MAX_NET" = some (.int 48 ad.t_MAX_NET)
  g_MAX_PATH : mg "MAX_PATH" = some (.int 24 ad.t_MAX_PATH)
  g_DIGITS : mg "DIGITS" = some (.str "0123456789" ad.t_DIGITS)
  g_LETTERS : mg "LETTERS" = some (.str "abcdefghijklmnopqrstuvwxyz" ad.t_LETTERS)
  g_number_of : mg "number_of" = some (.ref ad.f_number_of)
  k_number_of : PySem.W.keepIn K (.ref ad.f_number_of) = true
  g_is_primitive_text : mg "is_primitive_text" = some (.ref ad.f_is_primitive_text)
  k_is_primitive_text : PySem.W.keepIn K (.ref ad.f_is_primitive_text) = true
  g_is_name : mg "is_name" = some (.ref ad.f_is_name)
  k_is_name : PySem.W.keepIn K (.ref ad.f_is_name) = true
  g_are_ports : mg "are_ports" = some (.ref ad.f_are_ports)
  k_are_ports : PySem.W.keepIn K (.ref ad.f_are_ports) = true
  g_is_path : mg "is_path" = some (.ref ad.f_is_path)
  k_is_path : PySem.W.keepIn K (.ref ad.f_is_path) = true
  g_are_parts : mg "are_parts" = some (.ref ad.f_are_parts)
  k_are_parts : PySem.W.keepIn K (.ref ad.f_are_parts) = true
  g_ports_of : mg "ports_of" = some (.ref ad.f_ports_of)
  k_ports_of : PySem.W.keepIn K (.ref ad.f_ports_of) = true
  g_targets_of : mg "targets_of" = some (.ref ad.f_targets_of)
  k_targets_of : PySem.W.keepIn K (.ref ad.f_targets_of) = true
  g_sources_of : mg "sources_of" = some (.ref ad.f_sources_of)
  k_sources_of : PySem.W.keepIn K (.ref ad.f_sources_of) = true
  g_are_wires : mg "are_wires" = some (.ref ad.f_are_wires)
  k_are_wires : PySem.W.keepIn K (.ref ad.f_are_wires) = true
  g_are_good_for_net : mg "are_good_for_net" = some (.ref ad.f_are_good_for_net)
  k_are_good_for_net : PySem.W.keepIn K (.ref ad.f_are_good_for_net) = true
  g_has_word : mg "has_word" = some (.ref ad.f_has_word)
  k_has_word : PySem.W.keepIn K (.ref ad.f_has_word) = true
  g_check_rings : mg "check_rings" = some (.ref ad.f_check_rings)
  k_check_rings : PySem.W.keepIn K (.ref ad.f_check_rings) = true
  g_line_targets : mg "line_targets" = some (.ref ad.f_line_targets)
  k_line_targets : PySem.W.keepIn K (.ref ad.f_line_targets) = true
  g_line_at : mg "line_at" = some (.ref ad.f_line_at)
  k_line_at : PySem.W.keepIn K (.ref ad.f_line_at) = true
  g_line_of : mg "line_of" = some (.ref ad.f_line_of)
  k_line_of : PySem.W.keepIn K (.ref ad.f_line_of) = true
  g__law_feed : mg "_law_feed" = some (.ref ad.f_law_feed)
  k__law_feed : PySem.W.keepIn K (.ref ad.f_law_feed) = true
  g__law_take : mg "_law_take" = some (.ref ad.f_law_take)
  k__law_take : PySem.W.keepIn K (.ref ad.f_law_take) = true
  g__law_pick : mg "_law_pick" = some (.ref ad.f_law_pick)
  k__law_pick : PySem.W.keepIn K (.ref ad.f_law_pick) = true
  g__law_ports : mg "_law_ports" = some (.ref ad.f_law_ports)
  k__law_ports : PySem.W.keepIn K (.ref ad.f_law_ports) = true
  g__law_number : mg "_law_number" = some (.ref ad.f_law_number)
  k__law_number : PySem.W.keepIn K (.ref ad.f_law_number) = true
  g__law_paths : mg "_law_paths" = some (.ref ad.f_law_paths)
  k__law_paths : PySem.W.keepIn K (.ref ad.f_law_paths) = true
  g__law_sources : mg "_law_sources" = some (.ref ad.f_law_sources)
  k__law_sources : PySem.W.keepIn K (.ref ad.f_law_sources) = true
  g__law_turned : mg "_law_turned" = some (.ref ad.f_law_turned)
  k__law_turned : PySem.W.keepIn K (.ref ad.f_law_turned) = true
  g__law_texts : mg "_law_texts" = some (.ref ad.f_law_texts)
  k__law_texts : PySem.W.keepIn K (.ref ad.f_law_texts) = true
  g__law_net : mg "_law_net" = some (.ref ad.f_law_net)
  k__law_net : PySem.W.keepIn K (.ref ad.f_law_net) = true
  g__law_targets : mg "_law_targets" = some (.ref ad.f_law_targets)
  k__law_targets : PySem.W.keepIn K (.ref ad.f_law_targets) = true
  g__law_laid : mg "_law_laid" = some (.ref ad.f_law_laid)
  k__law_laid : PySem.W.keepIn K (.ref ad.f_law_laid) = true
  g__law_first : mg "_law_first" = some (.ref ad.f_law_first)
  k__law_first : PySem.W.keepIn K (.ref ad.f_law_first) = true
  g__law_made : mg "_law_made" = some (.ref ad.f_law_made)
  k__law_made : PySem.W.keepIn K (.ref ad.f_law_made) = true
  g__law_lined : mg "_law_lined" = some (.ref ad.f_law_lined)
  k__law_lined : PySem.W.keepIn K (.ref ad.f_law_lined) = true
  g__law_has_ring : mg "_law_has_ring" = some (.ref ad.f_law_has_ring)
  k__law_has_ring : PySem.W.keepIn K (.ref ad.f_law_has_ring) = true
  g__law_line : mg "_law_line" = some (.ref ad.f_law_line)
  k__law_line : PySem.W.keepIn K (.ref ad.f_law_line) = true
  g__law_delayed : mg "_law_delayed" = some (.ref ad.f_law_delayed)
  k__law_delayed : PySem.W.keepIn K (.ref ad.f_law_delayed) = true
  g__law_asked : mg "_law_asked" = some (.ref ad.f_law_asked)
  k__law_asked : PySem.W.keepIn K (.ref ad.f_law_asked) = true
  g__law_odd : mg "_law_odd" = some (.ref ad.f_law_odd)
  k__law_odd : PySem.W.keepIn K (.ref ad.f_law_odd) = true
  g_law : mg "law" = some (.ref ad.f_law)
  k_law : PySem.W.keepIn K (.ref ad.f_law) = true
  g_PORTS : mg "PORTS" = some (.ref ad.d_PORTS)
  d_PORTS : KDict K w ad.d_PORTS ad.es_PORTS ad.en_PORTS
  ports : ∀ n ins outs, (n, ins, outs) ∈ portsTab → PortsOf K w ad.d_PORTS n ins outs
  keys : ∃ ts : List Tok, ts.length = portsTab.length ∧ ad.es_PORTS.toList.map (·.key) = (portsTab.zip ts).map fun p => .str p.1.1 p.2
  g_RESERVED : mg "RESERVED" = some (.ref ad.u_RESERVED)
  u_RESERVED : ∀ H, SqT K H ad.u_RESERVED ((["block", "part", "end", "self"] : List Str).map V.str)
  g_Block : mg "Block" = some (.ref ad.C_Block)
  g_Primitive : mg "Primitive" = some (.ref ad.C_Primitive)
  cl_Primitive : Cls K ad.C_Primitive
  na_Primitive_name : NoAttr K ad.C_Primitive "name"
  na_Primitive_inputs : NoAttr K ad.C_Primitive "inputs"
  na_Primitive_outputs : NoAttr K ad.C_Primitive "outputs"
  na_Primitive_constant : NoAttr K ad.C_Primitive "constant"
  na_Primitive_text : NoAttr K ad.C_Primitive "text"
  ki_Primitive_Block : PySem.W.kitOne K (.ref ad.C_Primitive) (.ref ad.C_Block) = some true
  ki_Primitive_Primitive : PySem.W.kitOne K (.ref ad.C_Primitive) (.ref ad.C_Primitive) = some true
  mk_Primitive : Mk K ad.C_Primitive ad.f_Primitive_init
  cr_Primitive : ClX.CRead K ad.C_Primitive (.type "type")
  cm_Primitive_parse : ClX.CMet K ad.C_Primitive (.type "type") "parse" ad.p_Primitive_parse ad.f_Primitive_parse
  g_Diagram : mg "Diagram" = some (.ref ad.C_Diagram)
  cl_Diagram : Cls K ad.C_Diagram
  cr_Diagram : ClX.CRead K ad.C_Diagram (.type "type")
  cv_Diagram_MAX_PORTS : ClX.CVal K ad.C_Diagram (.type "type") "MAX_PORTS" (.int 8) (.int 8 ad.tv_Diagram_MAX_PORTS)
  co_Diagram_MAX_PORTS : Con K ad.C_Diagram "MAX_PORTS" (.int 8) (.int 8 ad.tv_Diagram_MAX_PORTS)
  g_Net : mg "Net" = some (.ref ad.C_Net)
  cl_Net : Cls K ad.C_Net
  na_Net_inputs : NoAttr K ad.C_Net "inputs"
  na_Net_outputs : NoAttr K ad.C_Net "outputs"
  na_Net_parts : NoAttr K ad.C_Net "parts"
  na_Net_wires : NoAttr K ad.C_Net "wires"
  na_Net_blocks : NoAttr K ad.C_Net "blocks"
  na_Net_source_of : NoAttr K ad.C_Net "source_of"
  na_Net_sequence : NoAttr K ad.C_Net "sequence"
  mk_Net : Mk K ad.C_Net ad.f_Net_init
  m_Net_lay : Meth K ad.C_Net "lay" ad.f_Net_lay
  m_Net_ordered : Meth K ad.C_Net "ordered" ad.f_Net_ordered
  m_Net_is_fed : Meth K ad.C_Net "is_fed" ad.f_Net_is_fed
  m_Net_first_state : Meth K ad.C_Net "first_state" ad.f_Net_first_state
  g_BlockError : mg "BlockError" = some (.ref ad.C_BlockError)
  g_UnknownPort : mg "UnknownPort" = some (.ref ad.C_UnknownPort)
  oex_UnknownPort : OexC K ad.C_UnknownPort
  in_UnknownPort : PySem.W.findIn K (.ref ad.C_UnknownPort) "__init__" = some (some (.ref ad.f_UnknownPort_init))
  tf_UnknownPort : PySem.W.typeIn K (.ref ad.f_UnknownPort_init) = some (.type "function")
  xf_UnknownPort : XfC K ad.C_UnknownPort
  ek_UnknownPort : ExcK K ad.C_UnknownPort
  kv_UnknownPort : PySem.W.kitOne K (.ref ad.C_UnknownPort) (.type "ValueError") = some true
  kb_UnknownPort : PySem.W.kitOne K (.ref ad.C_UnknownPort) (.ref ad.C_BlockError) = some true
  em_UnknownPort : PySem.W.exmOne K (.ref ad.C_UnknownPort) (.ref ad.C_BlockError) = some true
  es_UnknownPort : PySem.W.exmOne K (.ref ad.C_UnknownPort) (.ref ad.C_UnknownPort) = some true
  no_UnknownPort_name : PySem.W.findIn K (.ref ad.C_UnknownPort) "name" = some none
  g_DelayRing : mg "DelayRing" = some (.ref ad.C_DelayRing)
  xq_DelayRing : PySem.W.excIn K ad.C_DelayRing [.type "ValueError", .type "Exception", .type "BaseException", .type "object"] "ValueError.__new__" = true
  xk_DelayRing : PySem.W.keepIn K (.ref ad.C_DelayRing) = true
  xe_DelayRing : PySem.W.subIn K (.ref ad.C_DelayRing) (.type "BaseException") = some true
  xt_DelayRing : PySem.W.typeIn K (.ref ad.C_DelayRing) = some (.type "type")
  es_DelayRing : PySem.W.exmOne K (.ref ad.C_DelayRing) (.ref ad.C_DelayRing) = some true
  en_DelayRing_UnknownPort : PySem.W.exmOne K (.ref ad.C_DelayRing) (.ref ad.C_UnknownPort) = some false
section
variable {P : Program} {w : World} {K : PySem.W.Frag} {mg : Str → Option Value} {base : Heap} {ad : Adr}
theorem sc_law_feed : FnScope ["script", "k", "seed", "digits"] ["script", "k"] (defScope s_law_feed) := ⟨rfl, rfl, rfl, by decide +kernel, rfl, by decide +kernel, by decide +kernel⟩
theorem ok_feed {f : Addr} {fd : FuncData} (F : Fun K "_law_feed" "_law_feed" s_law_feed f fd) (T : Txt K w mg ad) : FnOk P w K mg base CX0 1 f fd ["script", "k"] (spFeedS K) := by
  refine F.ok sc_law_feed (fun vs H Q E h => ?_) (fun cdv A outer s H vs Q E hr h => ?_)
  · obtain ⟨s, ns, k, rfl, _⟩ := h
    rfl
  · obtain ⟨sa, ns, k, rfl, hS, hk, q⟩ := h
    refine ⟨_, (pss_cons (ps_set (i := 2) sc_law_feed.nd rfl (Or.inl rfl) (pe_ix (ix_listK K) (pe_op op_cat (pe_callTy call_list_of (by rfl) T.n_list (by decide +kernel) (pa_cons (pe_slice (sl_listK K) (pv 0) (po_some (pv 1)) (po_some (pe_op op_add (pv 1) pe_int))) pa_nil)) (pe_lst (pa_cons (pe_op op_add (pe_op op_mul pe_int (pv 1)) pe_int) pa_nil))) pe_int (fun _ _ => rfl)))
    (pss_cons (ps_set (i := 3) sc_law_feed.nd rfl (Or.inl rfl) (pe_callB (call_max2 rfl) (by rfl) T.n_max (by decide +kernel) (pa_cons pe_int (pa_cons (pe_op op_sub (pe_callB call_abs (by rfl) T.n_abs (by decide +kernel) (pa_cons (pv 2) pa_nil)) (pe_op op_pow pe_int pe_int)) pa_nil))))
    (pss_one (ps_ret (pe_lst (pa_cons (pv 3) (pa_cons (pe_op op_mod (pe_callTy call_int1 (by rfl) T.n_int (by decide +kernel) (pa_cons (pe_op op_add (pe_op op_add (pe_op op_mul (pe_op op_mod (pe_callTy call_int1 (by rfl) T.n_int (by decide +kernel) (pa_cons (pe_callB call_abs (by rfl) T.n_abs (by decide +kernel) (pa_cons (pv 2) pa_nil)) pa_nil)) pe_int) pe_int) (pe_op op_mul pe_int (pv 1))) pe_int) pa_nil)) pe_int) pa_nil))))))), ?_⟩
    refine asg (fun v H1 => Same H H1 ∧ ∃ c : Int, v = .int c) (fun Q' h' => ?_) ?_
    · refine ⟨_, rfl, _, rfl, _, rfl, _, rfl, _, _, rfl, rfl, _, rfl, sa, _, rfl, hS, fun l hl => ?_⟩
      have t1 := same_new (o := .lst (cutV (ns.map V.int) (some (k : Nat)) (some ((k : Nat) + 1)))) hl
      refine ⟨l, _, rfl, .inl (SqL.of upd_same), fun l2 hl2 => ?_⟩
      have t2 := t1.trans (same_new (o := .lst (cutV (ns.map V.int) (some (k : Nat)) (some ((k : Nat) + 1)))) hl2)
      refine ⟨_, rfl, _, _, rfl, rfl, .inl (by omega), _, _, rfl, rfl, szl (show 1 ≤ 100000 by decide), fun l3 hl3 => ?_⟩
      have t3 := t2.trans (same_new (o := .lst [V.int (71 * (k : Nat) + 23)]) hl3)
      have hcut : ∃ cs : List Int, cutV (ns.map V.int) (some (k : Nat)) (some ((k : Nat) + 1)) = cs.map V.int ∧ cs.length ≤ 1 := by
        unfold cutV
        refine ⟨(ns.drop (HT.sIx (ns.map V.int).length 0 (some (k : Nat)))).take (HT.sIx (ns.map V.int).length (ns.map V.int).length (some ((k : Nat) + 1)) - HT.sIx (ns.map V.int).length 0 (some (k : Nat))), by rw [List.map_take, List.map_drop], ?_⟩
        have e : ((k : Nat) : Int) + 1 = ((k + 1 : Nat) : Int) := by omega
        rw [e, HT.sIx_nat, HT.sIx_nat, List.length_take]
        omega
      obtain ⟨cs, ecs, hcs⟩ := hcut
      rw [ecs] at hl2 hl3 t3 ⊢
      refine ⟨l2, l3, _, _, rfl, rfl, same_new hl3 _ _ upd_same, upd_same, szl (by rw [List.length_map, List.length_singleton]; omega), fun l4 hl4 => ?_⟩
      obtain ⟨z, r, hz⟩ : ∃ z r, cs.map V.int ++ [V.int (71 * (k : Nat) + 23)] = V.int z :: r := by
        cases cs with
        | nil => exact ⟨_, _, rfl⟩
        | cons c r => exact ⟨c, _, rfl⟩
      refine ⟨l4, _, _, .int z, rfl, rfl, SqL.of upd_same, by rw [hz]; exact atI_nat (j := 0) rfl, h' _ _ ⟨t3.trans (same_new hl4), _, rfl⟩⟩
    rintro _ H1 ⟨s1, c, rfl⟩
    dsimp only [gName]
    refine ⟨_, rfl, _, rfl, _, _, rfl, rfl, ⟨by omega, by omega, by decide⟩, _, _, rfl, rfl, ?_⟩
    refine ⟨_, _, rfl, ?_⟩
    dsimp only [gName]
    refine ⟨_, rfl, _, rfl, _, rfl, .inl ⟨_, rfl, _, _, rfl, rfl, (by decide : (0 : Int) < 1000003), _, _, rfl, rfl, .inr (by omega), _, rfl, _, _, rfl, rfl, .inl (by omega), _, _, rfl, rfl, _, _, rfl, rfl, .inl ⟨_, rfl, _, _, rfl, rfl, (by decide : (0 : Int) < 1000033), szl (show 2 ≤ 100000 by decide), fun p hp => ?_⟩⟩⟩
    refine q p _ _ _ (s1.trans (same_new hp)) (by cases e : H p with | none => rfl | some u => rw [s1 _ _ e] at hp; cases hp) ⟨upd_same, ?_, ?_, ?_⟩
    · split <;> omega
    · omega
    · omega
theorem sc_law_take : FnScope ["feed", "size", "digit"] ["feed", "size"] (defScope s_law_take) := ⟨rfl, rfl, rfl, by decide +kernel, rfl, by decide +kernel, by decide +kernel⟩
theorem ok_take {f : Addr} {fd : FuncData} (F : Fun K "_law_take" "_law_take" s_law_take f fd) (T : Txt K w mg ad) : FnOk P w K mg base CX0 1 f fd ["feed", "size"] spTake := by
  refine F.ok sc_law_take (fun vs H Q E h => ?_) (fun cdv A outer s H vs Q E hr h => ?_)
  · obtain ⟨p, many, a, b, rfl, _⟩ := h
    rfl
  · obtain ⟨p, many, a, b, rfl, ⟨hf, ha, hb, hb2⟩, hm, hm2, q⟩ := h
    refine ⟨_, (pss_cons (ps_if (pt_cmpR op_gt (pe_ix (ix_listK K) (pv 0) pe_int (fun _ _ => rfl)) pe_int (nomark _)) (pss_cons (ps_set (i := 2) sc_law_take.nd rfl (Or.inl rfl) (pe_op op_mod (pe_callTy call_int1 (by rfl) T.n_int (by decide +kernel) (pa_cons (pe_ix (ix_listK K) (pv 0) pe_int (fun _ _ => rfl)) pa_nil)) (pv 1)))
    (pss_cons (ps_asg (pe_op op_fdivW (pe_ix (ix_listK K) (pv 0) pe_int (fun _ _ => rfl)) (pv 1)) (pg_sub (pv 0) pe_int set_list))
    (pss_one (ps_ret (pv 2))))) pss_nil)
    (pss_cons (ps_asg (pe_op op_mod (pe_callTy call_int1 (by rfl) T.n_int (by decide +kernel) (pa_cons (pe_op op_add (pe_op op_mul (pe_ix (ix_listK K) (pv 0) pe_int (fun _ _ => rfl)) pe_int) pe_int) pa_nil)) pe_int) (pg_sub (pv 0) pe_int set_list))
    (pss_one (ps_ret (pe_op op_mod (pe_callTy call_int1 (by rfl) T.n_int (by decide +kernel) (pa_cons (pe_op op_fdivW (pe_ix (ix_listK K) (pv 0) pe_int (fun _ _ => rfl)) pe_int) pa_nil)) (pv 1)))))), ?_⟩
    have i0 : atI [V.int a, V.int b] (0 : Int) = some (V.int a) := atI_nat (j := 0) rfl
    have i1 : atI [V.int a, V.int b] (1 : Int) = some (V.int b) := atI_nat (j := 1) rfl
    have hdiv : CDivW a many := wide_div (b := 41) hm (by omega) (by decide) (by decide)
    refine ⟨_, rfl, p, _, _, _, rfl, rfl, SqL.of hf, i0, _, _, rfl, rfl, _, rfl, ite2 (fun hc => ?_) (fun hc => ?_)⟩
    · refine ⟨_, rfl, p, _, _, _, rfl, rfl, SqL.of hf, i0, .inl ⟨_, rfl, _, rfl, _, _, rfl, rfl, hm, ?_⟩⟩
      dsimp only [gName]
      refine ⟨_, rfl, p, _, _, _, rfl, rfl, SqL.of hf, i0, _, rfl, _, _, rfl, rfl, hdiv, ?_⟩
      refine ⟨_, rfl, p, _, _, 0, rfl, rfl, hf, rfl, ?_⟩
      refine ⟨_, rfl, q _ _ _ (Int.emod_nonneg _ (by omega)) (Int.emod_lt_of_pos _ hm) ⟨upd_same, Int.ediv_nonneg ha (by omega), hb, hb2⟩⟩
    · refine ⟨_, rfl, p, _, _, _, rfl, rfl, SqL.of hf, i1, _, _, rfl, rfl, .inr (by omega), _, _, rfl, rfl, .inl ⟨_, rfl, _, _, rfl, rfl, (by decide : (0 : Int) < 4294967311), ?_⟩⟩
      refine ⟨_, rfl, p, _, _, 1, rfl, rfl, hf, rfl, ?_⟩
      refine ⟨_, rfl, p, _, _, _, rfl, rfl, SqL.of upd_same, atI_nat (j := 1) rfl, _, _, rfl, rfl, ⟨by decide, by decide⟩, .inl ⟨_, rfl, _, rfl, _, _, rfl, rfl, hm, ?_⟩⟩
      refine q _ _ _ (Int.emod_nonneg _ (by omega)) (Int.emod_lt_of_pos _ hm) ⟨upd_same, ha, ?_, ?_⟩ <;> omega
theorem sc_law_pick : FnScope ["feed", "choices"] ["feed", "choices"] (defScope s_law_pick) := ⟨rfl, rfl, rfl, by decide +kernel, rfl, by decide +kernel, by decide +kernel⟩
theorem ok_pick {f : Addr} {fd fdt : FuncData} (F : Fun K "_law_pick" "_law_pick" s_law_pick f fd) (T : Txt K w mg ad) (G_law_take : FnOk P w K mg base CX0 1 ad.f_law_take fdt ["feed", "size"] spTake) (b_law_take : Binds K fdt ["feed", "size"] []) : FnOk P w K mg base CX0 2 f fd ["feed", "choices"] (spPick K) := by
  refine F.ok sc_law_pick (fun vs H Q E h => ?_) (fun cdv A outer s H vs Q E hr h => ?_)
  · obtain ⟨p, q, xs, a, b, rfl, _⟩ := h
    rfl
  · obtain ⟨p, q, xs, a, b, rfl, hf, hS, ne, h0, h1, k⟩ := h
    refine ⟨_, (pss_one (ps_ret (pe_ix (ix_listK K) (pv 1) (pe_call G_law_take (hr.mono (by decide)) rfl T.g__law_take T.k__law_take b_law_take .nil pass0 (pa_cons (pv 0) (pa_cons (pe_callB (call_lenK K) (by rfl) T.n_len (by decide +kernel) (pa_cons (pv 1) pa_nil)) pa_nil))) (fun _ _ => rfl)))), ?_⟩
    refine ⟨_, rfl, _, rfl, _, rfl, q, xs, rfl, .inl hS, p, _, a, b, rfl, hf, by omega, by omega, fun d a' b' hd0 hd1 hf' => ?_⟩
    have hlt : d.toNat < xs.length := by omega
    have e : d = ((d.toNat : Nat) : Int) := by omega
    exact ⟨q, xs, _, xs[d.toNat], rfl, rfl, sql_upd hS ne, at_of e (List.getElem?_eq_getElem hlt), k _ a' b' (List.getElem_mem hlt) hf'⟩
theorem sc_law_number : FnScope ["feed"] ["feed"] (defScope s_law_number) := ⟨rfl, rfl, rfl, by decide +kernel, rfl, by decide +kernel, by decide +kernel⟩
theorem ok_number {f : Addr} {fd fdt fdp : FuncData} (F : Fun K "_law_number" "_law_number" s_law_number f fd) (T : Txt K w mg ad) (G_law_take : FnOk P w K mg base CX0 1 ad.f_law_take fdt ["feed", "size"] spTake) (b_law_take : Binds K fdt ["feed", "size"] [])
    (G_law_pick : FnOk P w K mg base CX0 2 ad.f_law_pick fdp ["feed", "choices"] (spPick K)) (b_law_pick : Binds K fdp ["feed", "choices"] []) : FnOk P w K mg base CX0 3 f fd ["feed"] spNumber := by
  refine F.ok sc_law_number (fun vs H Q E h => ?_) (fun cdv A outer s H vs Q E hr h => ?_)
  · obtain ⟨p, a, b, rfl, _⟩ := h
    rfl
  · obtain ⟨p, a, b, rfl, hf, k⟩ := h
    refine ⟨_, (pss_one (ps_ret (pe_call G_law_pick (hr.mono (by decide)) rfl T.g__law_pick T.k__law_pick b_law_pick .nil pass0 (pa_cons (pv 0) (pa_cons (pe_lst (pa_cons pe_int (pa_cons pe_int (pa_cons pe_int (pa_cons pe_int (pa_cons pe_int (pa_cons pe_int (pa_cons pe_int (pa_cons pe_int (pa_cons pe_int (pa_cons (pe_call G_law_take (hr.mono (by decide)) rfl T.g__law_take T.k__law_take b_law_take .nil pass0 (pa_cons (pv 0) (pa_cons pe_int pa_nil))) pa_nil))))))))))) pa_nil))))), ?_⟩
    refine ⟨_, rfl, _, rfl, p, _, a, b, rfl, hf, by decide, by decide, fun d a1 b1 h0 h1 hf1 => ⟨szl (show 10 ≤ 100000 by decide), fun l hl => ?_⟩⟩
    have s1 : SameX p H (upd H p (.lst [.int a1, .int b1])) := sx_put (sx_of (Same.refl H))
    have nl : l ≠ p := (ne_of_none hf1.1 hl).symm
    have hf2 := feed_new (o := .lst [.int 0, .int 0, .int 1, .int 1, .int 2, .int 3, .int 7, .int 4294967295, .int 2147483648, .int d]) hf1 hl
    refine ⟨p, l, _, a1, b1, rfl, hf2, SqL.of upd_same, nl, (show 0 < 10 by decide), (show 10 ≤ 1000 by decide), fun v a2 b2 hv hf3 => ?_⟩
    have s2 := sx_put (p := p) (o := .lst [.int a2, .int b2]) (sx_new (o := .lst [.int 0, .int 0, .int 1, .int 1, .int 2, .int 3, .int 7, .int 4294967295, .int 2147483648, .int d]) s1 hl)
    have all : ∀ v ∈ [V.int 0, .int 0, .int 1, .int 1, .int 2, .int 3, .int 7, .int 4294967295, .int 2147483648, .int d], ∃ i : Int, v = .int i ∧ R32 i := fun v hv => by
      simp only [List.mem_cons, List.not_mem_nil, or_false] at hv
      rcases hv with rfl | rfl | rfl | rfl | rfl | rfl | rfl | rfl | rfl | rfl
      all_goals exact ⟨_, rfl, by constructor <;> omega⟩
    obtain ⟨i, rfl, hi⟩ := all v hv
    exact k i _ a2 b2 hi s2 hf3
theorem sc_law_ports : FnScope ["text", "word"] ["text"] (defScope s_law_ports) := ⟨rfl, rfl, rfl, by decide +kernel, rfl, by decide +kernel, by decide +kernel⟩
theorem ok_lports {f : Addr} {fd : FuncData} (F : Fun K "_law_ports" "_law_ports" s_law_ports f fd) (T : Txt K w mg ad) : FnOk P w K mg base CX0 1 f fd ["text"] spPortsL := by
  refine F.ok sc_law_ports (fun vs H Q E h => ?_) (fun cdv A outer s H vs Q E hr h => ?_)
  · obtain ⟨z, rfl, _⟩ := h
    rfl
  · obtain ⟨z, rfl, hz, k⟩ := h
    refine ⟨_, (pss_cons (ps_set (i := 1) sc_law_ports.nd rfl (Or.inl rfl) (pe_ix (ix_listK K) (pe_split (pv 0) pe_str) pe_int (fun _ _ => rfl)))
    (pss_cons (ps_if (pt_cmpR op_eq (pv 1) pe_str (nomark _)) (pss_one (ps_ret (pe_lst (pa_cons (pe_lst pa_nil) (pa_cons (pe_lst (pa_cons pe_str pa_nil)) pa_nil))))) pss_nil)
    (pss_cons (ps_if (pt_cmpR op_eq (pv 1) pe_str (nomark _)) (pss_one (ps_ret (pe_lst (pa_cons (pe_lst (pa_cons pe_str pa_nil)) (pa_cons (pe_lst (pa_cons pe_str pa_nil)) pa_nil))))) pss_nil)
    (pss_cons (ps_if (pt_cmpR op_eq (pv 1) pe_str (nomark _)) (pss_one (ps_ret (pe_lst (pa_cons (pe_lst (pa_cons pe_str (pa_cons pe_str (pa_cons pe_str pa_nil)))) (pa_cons (pe_lst (pa_cons pe_str pa_nil)) pa_nil))))) pss_nil)
    (pss_one (ps_ret (pe_lst (pa_cons (pe_lst (pa_cons pe_str (pa_cons pe_str pa_nil))) (pa_cons (pe_ifExp (pt_cmpR op_eq (pv 1) pe_str (nomark _)) (pe_lst (pa_cons pe_str (pa_cons pe_str pa_nil))) (pe_lst (pa_cons pe_str pa_nil))) pa_nil))))))))), ?_⟩
    have hrow := rowT_of hz
    refine asg (fun v H1 => v = .str (wordT z) ∧ Same H H1) (fun Q' q => ?_) ?_
    · obtain ⟨r, hsp⟩ := split_head hz
      refine ⟨_, rfl, ⟨z, rfl⟩, z, " ", rfl, rfl, (by decide +kernel), Nat.le_trans (Nat.add_le_add_right (textOk_len hz) 2) (by decide), fun p hp0 => ?_⟩
      refine ⟨p, _, _, _, rfl, rfl, SqL.of upd_same, atI_nat (j := 0) (by rw [hsp]; rfl), q _ _ ⟨rfl, same_new hp0⟩⟩
    rintro _ H1 ⟨rfl, s1⟩
    dsimp only [gName]
    have vne : ∀ {x y : Str}, x ≠ y → decide (V.str x = V.str y) = false := fun h => decide_eq_false fun e => h (V.str.inj e)
    refine ⟨_, rfl, rfl, _, rfl, ?_⟩
    by_cases h1 : wordT z = "const"
    · rw [decide_eq_true (congrArg V.str h1)]
      rw [h1] at hrow
      obtain ⟨e1, e2⟩ := ports_fun hrow (show (("const" : Str), ([] : List Str), (["out"] : List Str)) ∈ portsTab by decide +kernel)
      refine iteT ⟨szl (Nat.zero_le _), fun a ha => ⟨szl (show 1 ≤ 100000 by decide), fun b hb => ⟨szl (show 2 ≤ 100000 by decide), fun l hl => ?_⟩⟩⟩
      have t1 := same_new (o := .lst []) ha
      have t2 := same_new (o := .lst [V.str "out"]) hb
      have t3 := same_new (o := .lst [V.ref a, .ref b]) hl
      exact k l a b _ (s1.trans ((t1.trans t2).trans t3)) upd_same (by rw [e1]; exact (t2.trans t3) _ _ upd_same) (by rw [e2]; exact t3 _ _ upd_same)
    rw [vne h1]
    refine iteF ?_
    walk_at "nx"
    refine ⟨_, rfl, rfl, _, rfl, ?_⟩
    by_cases h2 : wordT z = "delay"
    · rw [decide_eq_true (congrArg V.str h2)]
      rw [h2] at hrow
      obtain ⟨e1, e2⟩ := ports_fun hrow (show (("delay" : Str), (["in"] : List Str), (["out"] : List Str)) ∈ portsTab by decide +kernel)
      refine iteT ⟨szl (show 1 ≤ 100000 by decide), fun a ha => ⟨szl (show 1 ≤ 100000 by decide), fun b hb => ⟨szl (show 2 ≤ 100000 by decide), fun l hl => ?_⟩⟩⟩
      have t1 := same_new (o := .lst [V.str "in"]) ha
      have t2 := same_new (o := .lst [V.str "out"]) hb
      have t3 := same_new (o := .lst [V.ref a, .ref b]) hl
      exact k l a b _ (s1.trans ((t1.trans t2).trans t3)) upd_same (by rw [e1]; exact (t2.trans t3) _ _ upd_same) (by rw [e2]; exact t3 _ _ upd_same)
    rw [vne h2]
    refine iteF ?_
    walk_at "nx"
    refine ⟨_, rfl, rfl, _, rfl, ?_⟩
    by_cases h3 : wordT z = "pick"
    · rw [decide_eq_true (congrArg V.str h3)]
      rw [h3] at hrow
      obtain ⟨e1, e2⟩ := ports_fun hrow (show (("pick" : Str), (["c", "a", "b"] : List Str), (["out"] : List Str)) ∈ portsTab by decide +kernel)
      refine iteT ⟨szl (show 3 ≤ 100000 by decide), fun a ha => ⟨szl (show 1 ≤ 100000 by decide), fun b hb => ⟨szl (show 2 ≤ 100000 by decide), fun l hl => ?_⟩⟩⟩
      have t1 := same_new (o := .lst [V.str "c", .str "a", .str "b"]) ha
      have t2 := same_new (o := .lst [V.str "out"]) hb
      have t3 := same_new (o := .lst [V.ref a, .ref b]) hl
      exact k l a b _ (s1.trans ((t1.trans t2).trans t3)) upd_same (by rw [e1]; exact (t2.trans t3) _ _ upd_same) (by rw [e2]; exact t3 _ _ upd_same)
    rw [vne h3]
    refine iteF ?_
    walk_at "nx"
    have hab : insT z = (["a", "b"] : List Str) ∧ outsT z = if wordT z = "divide" then (["quotient", "rest"] : List Str) else (["out"] : List Str) :=
      (show ∀ r ∈ portsTab, r.1 ≠ "const" → r.1 ≠ "delay" → r.1 ≠ "pick" → r.2.1 = (["a", "b"] : List Str) ∧ r.2.2 = if r.1 = "divide" then (["quotient", "rest"] : List Str) else (["out"] : List Str) by decide +kernel) _ hrow h1 h2 h3
    obtain ⟨e1, e2⟩ := hab
    refine ⟨szl (show 2 ≤ 100000 by decide), fun a ha => ?_⟩
    have t1 := same_new (o := .lst [V.str "a", .str "b"]) ha
    refine ⟨_, rfl, rfl, _, rfl, ?_⟩
    by_cases h4 : wordT z = "divide"
    · rw [decide_eq_true (congrArg V.str h4)]
      rw [if_pos h4] at e2
      refine iteT ⟨szl (show 2 ≤ 100000 by decide), fun b hb => ⟨szl (show 2 ≤ 100000 by decide), fun l hl => ?_⟩⟩
      have t2 := same_new (o := .lst [V.str "quotient", .str "rest"]) hb
      have t3 := same_new (o := .lst [V.ref a, .ref b]) hl
      exact k l a b _ (s1.trans ((t1.trans t2).trans t3)) upd_same (by rw [e1]; exact (t2.trans t3) _ _ upd_same) (by rw [e2]; exact t3 _ _ upd_same)
    · rw [vne h4]
      rw [if_neg h4] at e2
      refine iteF ⟨szl (show 1 ≤ 100000 by decide), fun b hb => ⟨szl (show 2 ≤ 100000 by decide), fun l hl => ?_⟩⟩
      have t2 := same_new (o := .lst [V.str "out"]) hb
      have t3 := same_new (o := .lst [V.ref a, .ref b]) hl
      exact k l a b _ (s1.trans ((t1.trans t2).trans t3)) upd_same (by rw [e1]; exact (t2.trans t3) _ _ upd_same) (by rw [e2]; exact t3 _ _ upd_same)

end
end K82

set_option maxRecDepth 100000
set_option maxHeartbeats 4000000
namespace K82
open PySem L2 Ly Nd Nt Od
local macro_rules | `(tactic| walk_at "nx") => `(tactic| dsimp only [tNext])
section
variable {P : Program} {w : World} {K : PySem.W.Frag} {mg : Str → Option Value} {base : Heap} {ad : Adr}
def srcsTo (parts : List Part) (n j : Nat) : List Nt.Prt := ((parts.zipIdx.take j).filter fun q => decide (q.2 < n) || isD q.1).flatMap fun q => outsP q.1
theorem srcsTo_all (parts : List Part) (n : Nat) : srcsTo parts n parts.length = srcs parts n := by
  unfold srcsTo srcs
  rw [List.take_of_length_le (by rw [List.length_zipIdx]; exact Nat.le_refl _)]
theorem srcsTo_succ {parts : List Part} {n j : Nat} {x : Part} (h : parts[j]? = some x) : srcsTo parts n (j + 1) = srcsTo parts n j ++ if (decide (j < n) || isD x) = true then outsP x else [] := by
  unfold srcsTo
  have e : parts.zipIdx[j]? = some (x, j) := by rw [List.getElem?_zipIdx, h]; simp
  rw [List.take_add_one, e, List.filter_append, List.flatMap_append]
  congr 1
  have e2 : List.filter (fun q : Part × Nat => decide (q.2 < n) || isD q.1) [(x, j)] = match (decide (j < n) || isD x) with | true => [(x, j)] | false => [] := rfl
  show List.flatMap _ (List.filter (fun q : Part × Nat => decide (q.2 < n) || isD q.1) [(x, j)]) = _
  rw [e2]
  cases (decide (j < n) || isD x) with
  | true => simp
  | false => rfl
theorem srcsTo_len {parts : List Part} {n j : Nat} (ht : ∀ x ∈ parts, TextOk x.2) : (srcsTo parts n j).length ≤ 2 * parts.length := by
  have key : ∀ l : List (Part × Nat), (∀ q ∈ l, TextOk q.1.2) → (l.flatMap fun q => outsP q.1).length ≤ 2 * l.length := by
    intro l
    induction l with
    | nil => simp
    | cons q l ih =>
      intro h
      have h1 := ih fun z hz => h z (List.mem_cons_of_mem _ hz)
      have h2 := (ports_small _ (rowT_of (h q List.mem_cons_self))).2.1
      have h3 : (outsP q.1).length ≤ 2 := by unfold outsP; rw [List.length_map]; exact h2
      rw [List.flatMap_cons, List.length_append, List.length_cons]
      omega
  unfold srcsTo
  have h1 := key ((parts.zipIdx.take j).filter fun q => decide (q.2 < n) || isD q.1) fun q hq => by
    have := List.mem_of_mem_take (List.mem_filter.mp hq).1
    exact ht _ (List.fst_mem_of_mem_zipIdx this)
  have h2 := List.length_filter_le (fun q : Part × Nat => decide (q.2 < n) || isD q.1) (parts.zipIdx.take j)
  rw [List.length_take, List.length_zipIdx] at h2
  omega
theorem parts_get {H : Hp} {us : List V} {parts : List Part} (h : PartsAt K H us parts) {j : Nat} {v : V} (e : us[j]? = some v) : ∃ x, parts[j]? = some x ∧ ∃ a u, v = .ref a ∧ SqT K H a [u, .str x.2] ∧ Tp K H u (dTx x.1) := by
  obtain ⟨d, h1, h2⟩ := TpAll.get h e
  rw [List.getElem?_map] at h1
  obtain ⟨x, h3, rfl⟩ := Option.map_eq_some_iff.mp h1
  exact ⟨x, h3, port_inv (q := x) h2⟩
theorem parts_len {H : Hp} {us : List V} {parts : List Part} (h : PartsAt K H us parts) : us.length = parts.length := by
  have := TpAll.len h
  rw [List.length_map] at this
  exact this
theorem sc_law_sources : FnScope ["parts", "place", "found", "at", "path", "text", "port"] ["parts", "place"] (defScope s_law_sources) := ⟨rfl, rfl, rfl, by decide +kernel, rfl, by decide +kernel, by decide +kernel⟩
theorem ok_sources {f : Addr} {fd fdp : FuncData} (F : Fun K "_law_sources" "_law_sources" s_law_sources f fd) (T : Txt K w mg ad) (G_law_ports : FnOk P w K mg base CX0 1 ad.f_law_ports fdp ["text"] spPortsL) (b_law_ports : Binds K fdp ["text"] []) : FnOk P w K mg base CX0 2 f fd ["parts", "place"] (spSrcs K) := by
  refine F.ok sc_law_sources (fun vs H Q E h => ?_) (fun cdv A outer s H vs Q E hr h => ?_)
  · obtain ⟨l, us, parts, n, rfl, _⟩ := h
    rfl
  · obtain ⟨l, us, parts, n, rfl, hl, hp, ht, h16, k⟩ := h
    refine ⟨_, (pss_cons (ps_set (i := 2) sc_law_sources.nd rfl (Or.inl rfl) (pe_lst pa_nil))
    (pss_cons (ps_for PassesOwn.never rfl (pi_enum (by rfl) T.n_enumerate (pa_cons (pv 0) pa_nil)) (pg_tup (by rfl) (pgs_cons (pg_name (i := 3) sc_law_sources.nd rfl (Or.inl rfl)) (pgs_cons (pg_tup (by rfl) (pgs_cons (pg_name (i := 4) sc_law_sources.nd rfl (Or.inr rfl)) (pgs_cons (pg_name (i := 5) sc_law_sources.nd rfl (Or.inl rfl)) pgs_nil))) pgs_nil)))
    (pss_one (ps_if (PW.pt (pw_or (pt_cmpR op_lt (pv 3) (pv 1) (nomark _)) (pw_or1 (pt_cmpR op_eq (pe_ix (ix_listK K) (pe_split (pv 5) pe_str) pe_int (fun _ _ => rfl)) pe_str (nomark _))))) (pss_one (ps_set (i := 2) sc_law_sources.nd rfl (Or.inl rfl) (pe_op op_cat (pv 2) (pe_lc (own := [("port", 6)]) rfl sc_law_sources.nd (pi_listK K (pe_ix (ix_listK K) (pe_call G_law_ports (hr.mono (by decide)) rfl T.g__law_ports T.k__law_ports b_law_ports .nil pass0 (pa_cons (pv 5) pa_nil)) pe_int (fun _ _ => rfl))) (blkOk_by (own := [("port", 6)]) (N := ["parts", "place", "found", "at", "path", "text", "port"]) (sc := defScope s_law_sources) (by decide +kernel)) (fun _ _ _ _ _ => (pg_name (i := 6) sc_law_sources.nd rfl (Or.inl rfl))) (fun _ _ _ _ _ => pts_nil) (fun _ _ _ _ _ => (pe_tupF (pa_cons (pv 4) (pa_cons (pv 6) pa_nil)))))))) pss_nil)))
    (pss_one (ps_ret (pv 2))))), ?_⟩
    have hul := parts_len hp
    refine ⟨szl (Nat.zero_le _), fun f0 hf0 => ?_⟩
    dsimp only [gName]
    have t0 := same_new (o := .lst []) hf0
    have e0 : upd H f0 (.lst []) f0 = some (.lst []) := upd_same
    revert t0 e0
    generalize upd H f0 (.lst []) = H0
    intro t0 e0
    refine ⟨_, rfl, l, _, rfl, same_sql t0 hl, for_it walk_enum (fun j σ H' => Same H H' ∧ ∃ (g : Addr) (ws : List V) (x3 x4 x5 x6 : Option V), H' g = some (.lst ws) ∧ H g = none ∧ TpAll K H' ws ((srcsTo parts n j).map dPort) ∧ σ = [some (.ref l), some (.int (n : Nat)), some (.ref g), x3, x4, x5, x6]) ⟨t0, f0, [], _, _, _, _, e0, hf0, .nil, rfl⟩ (fun j σ H' _ h => same_sql h.1 hl) ?_ ?_⟩
    · rintro j v σ H1 H2 hj ⟨s1, g, ws, x3, x4, x5, x6, hg, hgn, hws, rfl⟩ ⟨T', a, b, rfl, hT', rfl, e1, e2⟩
      dsimp only at e1 e2
      cases e1
      have t2 := same_new (o := .tup [V.int (j : Nat), b]) hT'
      obtain ⟨x, hx, q, u, rfl, hq, hu⟩ := parts_get hp e2
      have hxm := List.mem_of_getElem? hx
      have hx2 := ht x hxm
      have s12 := s1.trans t2
      refine ⟨T', _, rfl, SqT.of upd_same, rfl, _, _, rfl, _, _, rfl, q, _, rfl, same_sqt s12 hq, rfl, _, _, rfl, _, _, rfl, rfl, rfl, ?_⟩
      dsimp only [gName]
      have hg2 := t2 _ _ hg
      have hws2 := TpAll.same hws t2
      have hu2 := hu.same s12
      revert s12 hg2 hws2 hu2
      generalize upd H1 T' (.tup [V.int (j : Nat), .ref q]) = H3
      intro s12 hg2 hws2 hu2
      have hwl : ws.length ≤ 32 := by
        have h1 := TpAll.len hws
        rw [List.length_map] at h1
        have h2 := srcsTo_len (n := n) (j := j) ht
        omega
      refine ⟨_, rfl, _, rfl, _, _, rfl, rfl, _, rfl, ?_⟩
      by_cases hjn : j < n
      · rw [decide_eq_true (show ((j : Nat) : Int) < (n : Nat) by omega)]
        refine iteT (iteT ?_)
        have hpath := hu2
        refine ⟨_, rfl, _, rfl, x.2, rfl, hx2, fun l2 a2 b2 H5 s5 e1 e2 e3 => ?_⟩
        refine ⟨l2, _, _, _, rfl, rfl, SqL.of e1, atI_nat (j := 1) rfl, b2, rfl, ⟨_, SqL.of e3⟩, fun D hD => lc_list (K := K) (a := b2) (xs := (outsT x.2).map V.str) (fun m H'' => Same H5 H'' ∧ ∃ ys, H'' D = some (.lst ys) ∧ TpAll K H'' ys (((outsT x.2).take m).map fun n => dPort (x.1, n))) ⟨same_new hD, [], upd_same, .nil⟩ (fun m H'' _ h => SqL.of (h.1 _ _ e3)) ?_ ?_⟩
        · rintro m y H6 hy ⟨s6, ys, hys, hyt⟩
          obtain ⟨hm, e⟩ := List.getElem?_eq_some_iff.mp hy
          rw [List.length_map] at hm
          rw [List.getElem_map] at e
          subst e
          have hyl := TpAll.len hyt
          rw [List.length_map, List.length_take] at hyl
          have h3 := (ports_small _ (rowT_of hx2))
          have h31 : (insT x.2).length ≤ 3 := h3.1
          have h32 : (outsT x.2).length ≤ 2 := h3.2.1
          refine ⟨rfl, ?_⟩
          dsimp only [tYes]
          refine iteT ⟨_, rfl, _, rfl, szl (show 2 ≤ 100000 by decide), fun c G7 u7 k7 => ?_⟩
          have hys7 := u7 _ _ hys
          refine ⟨ys, hys7, szt (by omega), same_mut (s6.trans u7) hD, ys ++ [.ref c], upd_same, ?_⟩
          rw [List.take_add_one, List.getElem?_eq_getElem hm, List.map_append]
          exact TpAll.sx (TpAll.snoc (TpAll.same hyt u7) (tp_port k7.sqt (hpath.same ((s5.trans s6).trans u7)))) (sx_put (sx_of (Same.refl G7))) (notT_lst hys7)
        rintro H6 ⟨s6, ys, hys, hyt⟩
        rw [List.length_map, List.take_length] at hyt
        have s56 := s5.trans s6
        have es : srcsTo parts n (j + 1) = srcsTo parts n j ++ outsP x := by
          have hcond : (decide (j < n) || isD x) = true := by rw [decide_eq_true hjn]; rfl
          rw [srcsTo_succ hx, if_pos hcond]
        have hyl := TpAll.len hyt
        rw [List.length_map] at hyl
        have h32 : (outsT x.2).length ≤ 2 := (ports_small _ (rowT_of hx2)).2.1
        refine ⟨g, D, _, _, rfl, rfl, s56 _ _ hg2, hys, szl (by omega), fun g' hg' => ?_⟩
        have t9 := same_new (o := .lst (ws ++ ys)) hg'
        have sAll := (s12.trans s56)
        refine ⟨sAll.trans t9, g', _, _, _, _, _, upd_same, ?_, ?_, rfl⟩
        · cases e : H g' with
          | none => rfl
          | some u => rw [sAll _ _ e] at hg'; cases hg'
        · rw [es, List.map_append]
          refine (TpAll.same hws2 (s56.trans t9)).app ?_
          have := TpAll.same hyt t9
          unfold outsP
          rw [List.map_map]
          exact this
      · rw [decide_eq_false (show ¬ ((j : Nat) : Int) < (n : Nat) by omega)]
        obtain ⟨r, hsp⟩ := split_head hx2
        refine iteF ⟨_, rfl, ⟨x.2, rfl⟩, x.2, " ", rfl, rfl, (by decide +kernel), Nat.le_trans (Nat.add_le_add_right (textOk_len hx2) 2) (by decide), fun p0 hp0 => ⟨p0, _, _, _, rfl, rfl, SqL.of upd_same, atI_nat (j := 0) (by rw [hsp]; rfl), rfl, _, rfl, ?_⟩⟩
        have t4 := same_new (o := .lst ((Txt.split x.2 " ").map V.str)) hp0
        have hpath := hu2.same t4
        have hg4 := t4 _ _ hg2
        have hws4 := TpAll.same hws2 t4
        have s14 := s12.trans t4
        revert hpath hg4 hws4 s14
        generalize upd H3 p0 (.lst ((Txt.split x.2 " ").map V.str)) = H4
        intro hpath hg4 hws4 s14
        by_cases hd : wordT x.2 = "delay"
        · rw [decide_eq_true (congrArg V.str hd)]
          refine iteT ?_
          refine ⟨_, rfl, _, rfl, x.2, rfl, hx2, fun l2 a2 b2 H5 s5 e1 e2 e3 => ?_⟩
          refine ⟨l2, _, _, _, rfl, rfl, SqL.of e1, atI_nat (j := 1) rfl, b2, rfl, ⟨_, SqL.of e3⟩, fun D hD => lc_list (K := K) (a := b2) (xs := (outsT x.2).map V.str) (fun m H'' => Same H5 H'' ∧ ∃ ys, H'' D = some (.lst ys) ∧ TpAll K H'' ys (((outsT x.2).take m).map fun n => dPort (x.1, n))) ⟨same_new hD, [], upd_same, .nil⟩ (fun m H'' _ h => SqL.of (h.1 _ _ e3)) ?_ ?_⟩
          · rintro m y H6 hy ⟨s6, ys, hys, hyt⟩
            obtain ⟨hm, e⟩ := List.getElem?_eq_some_iff.mp hy
            rw [List.length_map] at hm
            rw [List.getElem_map] at e
            subst e
            have hyl := TpAll.len hyt
            rw [List.length_map, List.length_take] at hyl
            have h3 := (ports_small _ (rowT_of hx2))
            have h31 : (insT x.2).length ≤ 3 := h3.1
            have h32 : (outsT x.2).length ≤ 2 := h3.2.1
            refine ⟨rfl, ?_⟩
            dsimp only [tYes]
            refine iteT ⟨_, rfl, _, rfl, szl (show 2 ≤ 100000 by decide), fun c G7 u7 k7 => ?_⟩
            have hys7 := u7 _ _ hys
            refine ⟨ys, hys7, szt (by omega), same_mut (s6.trans u7) hD, ys ++ [.ref c], upd_same, ?_⟩
            rw [List.take_add_one, List.getElem?_eq_getElem hm, List.map_append]
            exact TpAll.sx (TpAll.snoc (TpAll.same hyt u7) (tp_port k7.sqt (hpath.same ((s5.trans s6).trans u7)))) (sx_put (sx_of (Same.refl G7))) (notT_lst hys7)
          rintro H6 ⟨s6, ys, hys, hyt⟩
          rw [List.length_map, List.take_length] at hyt
          have s56 := s5.trans s6
          have es : srcsTo parts n (j + 1) = srcsTo parts n j ++ outsP x := by
            have hcond : (decide (j < n) || isD x) = true := by unfold isD; rw [decide_eq_true hd, Bool.or_true]
            rw [srcsTo_succ hx, if_pos hcond]
          have hyl := TpAll.len hyt
          rw [List.length_map] at hyl
          have h32 : (outsT x.2).length ≤ 2 := (ports_small _ (rowT_of hx2)).2.1
          refine ⟨g, D, _, _, rfl, rfl, s56 _ _ hg4, hys, szl (by omega), fun g' hg' => ?_⟩
          have t9 := same_new (o := .lst (ws ++ ys)) hg'
          have sAll := (s14.trans s56)
          refine ⟨sAll.trans t9, g', _, _, _, _, _, upd_same, ?_, ?_, rfl⟩
          · cases e : H g' with
            | none => rfl
            | some u => rw [sAll _ _ e] at hg'; cases hg'
          · rw [es, List.map_append]
            refine (TpAll.same hws4 (s56.trans t9)).app ?_
            have := TpAll.same hyt t9
            unfold outsP
            rw [List.map_map]
            exact this
        · rw [decide_eq_false (fun e => hd (V.str.inj e))]
          refine iteF ?_
          have es : srcsTo parts n (j + 1) = srcsTo parts n j := by
            have hcond : (decide (j < n) || isD x) = false := by unfold isD; rw [decide_eq_false hjn, decide_eq_false hd]; rfl
            rw [srcsTo_succ hx, hcond, if_neg Bool.false_ne_true, List.append_nil]
          exact ⟨s14, g, ws, _, _, _, _, hg4, hgn, by rw [es]; exact hws4, rfl⟩
    · rintro σ H1 ⟨s1, g, ws, x3, x4, x5, x6, hg, hgn, hws, rfl⟩
      rw [hul, srcsTo_all] at hws
      exact ⟨_, rfl, k g ws H1 s1 hg hgn hws⟩

end
end K82

set_option maxRecDepth 100000
set_option maxHeartbeats 4000000
namespace K82
open PySem L2 Ly Nd Nt Od
local macro_rules | `(tactic| walk_at "nx") => `(tactic| dsimp only [tNext])
section
variable {P : Program} {w : World} {K : PySem.W.Frag} {mg : Str → Option Value} {base : Heap} {ad : Adr}
def tgtsTo (parts : List Part) (j : Nat) : List Nt.Prt := (parts.take j).flatMap insP
theorem tgtsTo_all (parts : List Part) : tgtsTo parts parts.length = parts.flatMap insP := by unfold tgtsTo; rw [List.take_length]
theorem tgtsTo_succ {parts : List Part} {j : Nat} {x : Part} (h : parts[j]? = some x) : tgtsTo parts (j + 1) = tgtsTo parts j ++ insP x := by
  unfold tgtsTo
  rw [List.take_add_one, h, List.flatMap_append]
  simp
theorem tgtsTo_len {parts : List Part} {j : Nat} (ht : ∀ x ∈ parts, TextOk x.2) : (tgtsTo parts j).length ≤ 3 * parts.length := by
  have h1 := tgts_len (outs := []) (parts := parts.take j) fun x hx => ht x (List.mem_of_mem_take hx)
  unfold tgts at h1
  rw [List.map_nil, List.append_nil, List.length_nil, List.length_take] at h1
  unfold tgtsTo
  omega
theorem sc_law_targets : FnScope ["outs", "parts", "found", "path", "text", "port", "name"] ["outs", "parts"] (defScope s_law_targets) := ⟨rfl, rfl, rfl, by decide +kernel, rfl, by decide +kernel, by decide +kernel⟩
theorem ok_ltargets {f : Addr} {fd fdp : FuncData} (F : Fun K "_law_targets" "_law_targets" s_law_targets f fd) (T : Txt K w mg ad) (G_law_ports : FnOk P w K mg base CX0 1 ad.f_law_ports fdp ["text"] spPortsL) (b_law_ports : Binds K fdp ["text"] []) : FnOk P w K mg base CX0 2 f fd ["outs", "parts"] (spTgts K) := by
  refine F.ok sc_law_targets (fun vs H Q E h => ?_) (fun cdv A outer s H vs Q E hr h => ?_)
  · obtain ⟨o, l, outs, us, parts, rfl, _⟩ := h
    rfl
  · obtain ⟨o, l, outs, us, parts, rfl, hk, hp, ht, h16, h8, k⟩ := h
    have hul := parts_len hp
    rcases hk with ⟨ho, hl⟩ | ⟨ho, hl⟩
    · refine ⟨_, (pss_cons (ps_set (i := 2) sc_law_targets.nd rfl (Or.inl rfl) (pe_lst pa_nil))
    (pss_cons (ps_for PassesOwn.never rfl (pi_listK K (pv 1)) (pg_tup (by rfl) (pgs_cons (pg_name (i := 3) sc_law_targets.nd rfl (Or.inr rfl)) (pgs_cons (pg_name (i := 4) sc_law_targets.nd rfl (Or.inl rfl)) pgs_nil)))
    (pss_one (ps_set (i := 2) sc_law_targets.nd rfl (Or.inl rfl) (pe_op op_cat (pv 2) (pe_lc (own := [("port", 5)]) rfl sc_law_targets.nd (pi_listK K (pe_ix (ix_listK K) (pe_call G_law_ports (hr.mono (by decide)) rfl T.g__law_ports T.k__law_ports b_law_ports .nil pass0 (pa_cons (pv 4) pa_nil)) pe_int (fun _ _ => rfl))) (blkOk_by (own := [("port", 5)]) (N := ["outs", "parts", "found", "path", "text", "port", "name"]) (sc := defScope s_law_targets) (by decide +kernel)) (fun _ _ _ _ _ => (pg_name (i := 5) sc_law_targets.nd rfl (Or.inl rfl))) (fun _ _ _ _ _ => pts_nil) (fun _ _ _ _ _ => (pe_tupF (pa_cons (pv 3) (pa_cons (pv 5) pa_nil)))))))))
    (pss_one (ps_ret (pe_op op_cat (pv 2) (pe_lc (own := [("name", 6)]) rfl sc_law_targets.nd (pi_listK K (pv 0)) (blkOk_by (own := [("name", 6)]) (N := ["outs", "parts", "found", "path", "text", "port", "name"]) (sc := defScope s_law_targets) (by decide +kernel)) (fun _ _ _ _ _ => (pg_name (i := 6) sc_law_targets.nd rfl (Or.inl rfl))) (fun _ _ _ _ _ => pts_nil) (fun _ _ _ _ _ => (pe_tupF (pa_cons (pe_tupF pa_nil) (pa_cons (pv 6) pa_nil)))))))))), ?_⟩
      refine ⟨szl (Nat.zero_le _), fun f0 hf0 => ?_⟩
      dsimp only [gName]
      have t0 := same_new (o := .lst []) hf0
      have e0 : upd H f0 (.lst []) f0 = some (.lst []) := upd_same
      revert t0 e0
      generalize upd H f0 (.lst []) = H0
      intro t0 e0
      refine ⟨_, rfl, l, rfl, ⟨_, same_sql t0 hl⟩, for_list (K := K) (a := l) (xs := us) (fun j σ H' => Same H H' ∧ ∃ (g : Addr) (ws : List V) (x3 x4 x5 x6 : Option V), H' g = some (.lst ws) ∧ H g = none ∧ TpAll K H' ws ((tgtsTo parts j).map dPort) ∧ σ = [some (.ref o), some (.ref l), some (.ref g), x3, x4, x5, x6]) ⟨t0, f0, [], _, _, _, _, e0, hf0, .nil, rfl⟩ (fun j σ H' _ h => same_sql h.1 hl) ?_ ?_⟩
      · rintro j b σ H1 e2 ⟨s1, g, ws, x3, x4, x5, x6, hg, hgn, hws, rfl⟩
        obtain ⟨x, hx, q, u, rfl, hq, hu⟩ := parts_get hp e2
        have hxm := List.mem_of_getElem? hx
        have hx2 := ht x hxm
        refine ⟨q, _, rfl, same_sqt s1 hq, rfl, _, _, rfl, _, _, rfl, rfl, ?_⟩
        dsimp only [gName]
        have hpath := hu.same s1
        have hwl : ws.length ≤ 48 := by
          have h1 := TpAll.len hws
          rw [List.length_map] at h1
          have h2 := tgtsTo_len (j := j) ht
          omega
        refine ⟨_, rfl, _, rfl, x.2, rfl, hx2, fun l2 a2 b2 H5 s5 e1 e2 e3 => ?_⟩
        refine ⟨l2, _, _, _, rfl, rfl, SqL.of e1, atI_nat (j := 0) rfl, a2, rfl, ⟨_, SqL.of e2⟩, fun D hD => lc_list (K := K) (a := a2) (xs := (insT x.2).map V.str) (fun m H'' => Same H5 H'' ∧ ∃ ys, H'' D = some (.lst ys) ∧ TpAll K H'' ys (((insT x.2).take m).map fun n => dPort (x.1, n))) ⟨same_new hD, [], upd_same, .nil⟩ (fun m H'' _ h => SqL.of (h.1 _ _ e2)) ?_ ?_⟩
        · rintro m y H6 hy ⟨s6, ys, hys, hyt⟩
          obtain ⟨hm, e⟩ := List.getElem?_eq_some_iff.mp hy
          rw [List.length_map] at hm
          rw [List.getElem_map] at e
          subst e
          have hyl := TpAll.len hyt
          rw [List.length_map, List.length_take] at hyl
          have h3 := (ports_small _ (rowT_of hx2))
          have h31 : (insT x.2).length ≤ 3 := h3.1
          have h32 : (outsT x.2).length ≤ 2 := h3.2.1
          refine ⟨rfl, ?_⟩
          dsimp only [tYes]
          refine iteT ⟨_, rfl, _, rfl, szl (show 2 ≤ 100000 by decide), fun c G7 u7 k7 => ?_⟩
          have hys7 := u7 _ _ hys
          refine ⟨ys, hys7, szt (by omega), same_mut (s6.trans u7) hD, ys ++ [.ref c], upd_same, ?_⟩
          rw [List.take_add_one, List.getElem?_eq_getElem hm, List.map_append]
          exact TpAll.sx (TpAll.snoc (TpAll.same hyt u7) (tp_port k7.sqt (hpath.same ((s5.trans s6).trans u7)))) (sx_put (sx_of (Same.refl G7))) (notT_lst hys7)
        rintro H6 ⟨s6, ys, hys, hyt⟩
        rw [List.length_map, List.take_length] at hyt
        have s56 := s5.trans s6
        have es : tgtsTo parts (j + 1) = tgtsTo parts j ++ insP x := tgtsTo_succ hx
        have hyl := TpAll.len hyt
        rw [List.length_map] at hyl
        have h31 : (insT x.2).length ≤ 3 := (ports_small _ (rowT_of hx2)).1
        refine ⟨g, D, _, _, rfl, rfl, s56 _ _ hg, hys, szl (by omega), fun g' hg' => ?_⟩
        have t9 := same_new (o := .lst (ws ++ ys)) hg'
        have sAll := (s1.trans s56)
        refine ⟨sAll.trans t9, g', _, _, _, _, _, upd_same, ?_, ?_, rfl⟩
        · cases e : H g' with
          | none => rfl
          | some u => rw [sAll _ _ e] at hg'; cases hg'
        · rw [es, List.map_append]
          refine (TpAll.same hws (s56.trans t9)).app ?_
          have := TpAll.same hyt t9
          unfold insP
          rw [List.map_map]
          exact this
      · rintro σ H1 ⟨s1, g, ws, x3, x4, x5, x6, hg, hgn, hws, rfl⟩
        rw [hul, tgtsTo_all] at hws
        refine ⟨_, rfl, _, rfl, o, rfl, ⟨_, same_sql s1 ho⟩, fun D hD => lc_list (K := K) (a := o) (xs := outs.map V.str) (fun m H'' => Same H1 H'' ∧ ∃ ys, H'' D = some (.lst ys) ∧ TpAll K H'' ys ((outs.take m).map fun n => dPort ([], n))) ⟨same_new hD, [], upd_same, .nil⟩ (fun m H'' _ h => same_sql (s1.trans h.1) ho) ?_ ?_⟩
        · rintro m y H6 hy ⟨s6, ys, hys, hyt⟩
          obtain ⟨hm, e⟩ := List.getElem?_eq_some_iff.mp hy
          rw [List.length_map] at hm
          rw [List.getElem_map] at e
          subst e
          have hyl := TpAll.len hyt
          rw [List.length_map, List.length_take] at hyl
          refine ⟨rfl, ?_⟩
          dsimp only [tYes]
          refine iteT ⟨szl (Nat.zero_le _), fun c1 G6 u6 k6 => ⟨_, rfl, szl (show 2 ≤ 100000 by decide), fun c G7 u7 k7 => ?_⟩⟩
          have hys7 := u7 _ _ (u6 _ _ hys)
          refine ⟨ys, hys7, szt (by omega), same_mut ((s6.trans u6).trans u7) hD, ys ++ [.ref c], upd_same, ?_⟩
          rw [List.take_add_one, List.getElem?_eq_getElem hm, List.map_append]
          exact TpAll.sx (TpAll.snoc (TpAll.same hyt (u6.trans u7)) (tp_port (p := []) k7.sqt (tp_path (p := []) (k6.same u7).sqt))) (sx_put (sx_of (Same.refl G7))) (notT_lst hys7)
        rintro H6 ⟨s6, ys, hys, hyt⟩
        rw [List.length_map, List.take_length] at hyt
        have hyl := TpAll.len hyt
        rw [List.length_map] at hyl
        have hwl : ws.length ≤ 64 := by
          have h1 := TpAll.len hws
          rw [List.length_map] at h1
          have h2 := tgtsTo_len (j := parts.length) ht
          rw [tgtsTo_all] at h2
          omega
        refine ⟨g, D, _, _, rfl, rfl, s6 _ _ hg, hys, szl (by omega), fun g' hg' => ?_⟩
        have t9 := same_new (o := .lst (ws ++ ys)) hg'
        have sAll := s1.trans s6
        refine k g' _ _ (sAll.trans t9) upd_same ?_ ?_
        · cases e : H g' with
          | none => rfl
          | some u => rw [sAll _ _ e] at hg'; cases hg'
        · unfold tgts
          rw [List.map_append]
          refine (TpAll.same hws (s6.trans t9)).app ?_
          rw [List.map_map]
          exact TpAll.same hyt t9
    · refine ⟨_, (pss_cons (ps_set (i := 2) sc_law_targets.nd rfl (Or.inl rfl) (pe_lst pa_nil))
    (pss_cons (ps_for PassesOwn.never rfl (pi_tupK K (pv 1)) (pg_tup (by rfl) (pgs_cons (pg_name (i := 3) sc_law_targets.nd rfl (Or.inr rfl)) (pgs_cons (pg_name (i := 4) sc_law_targets.nd rfl (Or.inl rfl)) pgs_nil)))
    (pss_one (ps_set (i := 2) sc_law_targets.nd rfl (Or.inl rfl) (pe_op op_cat (pv 2) (pe_lc (own := [("port", 5)]) rfl sc_law_targets.nd (pi_listK K (pe_ix (ix_listK K) (pe_call G_law_ports (hr.mono (by decide)) rfl T.g__law_ports T.k__law_ports b_law_ports .nil pass0 (pa_cons (pv 4) pa_nil)) pe_int (fun _ _ => rfl))) (blkOk_by (own := [("port", 5)]) (N := ["outs", "parts", "found", "path", "text", "port", "name"]) (sc := defScope s_law_targets) (by decide +kernel)) (fun _ _ _ _ _ => (pg_name (i := 5) sc_law_targets.nd rfl (Or.inl rfl))) (fun _ _ _ _ _ => pts_nil) (fun _ _ _ _ _ => (pe_tupF (pa_cons (pv 3) (pa_cons (pv 5) pa_nil)))))))))
    (pss_one (ps_ret (pe_op op_cat (pv 2) (pe_lc (own := [("name", 6)]) rfl sc_law_targets.nd (pi_tupK K (pv 0)) (blkOk_by (own := [("name", 6)]) (N := ["outs", "parts", "found", "path", "text", "port", "name"]) (sc := defScope s_law_targets) (by decide +kernel)) (fun _ _ _ _ _ => (pg_name (i := 6) sc_law_targets.nd rfl (Or.inl rfl))) (fun _ _ _ _ _ => pts_nil) (fun _ _ _ _ _ => (pe_tupF (pa_cons (pe_tupF pa_nil) (pa_cons (pv 6) pa_nil)))))))))), ?_⟩
      refine ⟨szl (Nat.zero_le _), fun f0 hf0 => ?_⟩
      dsimp only [gName]
      have t0 := same_new (o := .lst []) hf0
      have e0 : upd H f0 (.lst []) f0 = some (.lst []) := upd_same
      revert t0 e0
      generalize upd H f0 (.lst []) = H0
      intro t0 e0
      refine ⟨_, rfl, l, rfl, ⟨_, same_sqt t0 hl⟩, for_tup (K := K) (a := l) (xs := us) (fun j σ H' => Same H H' ∧ ∃ (g : Addr) (ws : List V) (x3 x4 x5 x6 : Option V), H' g = some (.lst ws) ∧ H g = none ∧ TpAll K H' ws ((tgtsTo parts j).map dPort) ∧ σ = [some (.ref o), some (.ref l), some (.ref g), x3, x4, x5, x6]) ⟨t0, f0, [], _, _, _, _, e0, hf0, .nil, rfl⟩ (fun j σ H' _ h => same_sqt h.1 hl) ?_ ?_⟩
      · rintro j b σ H1 e2 ⟨s1, g, ws, x3, x4, x5, x6, hg, hgn, hws, rfl⟩
        obtain ⟨x, hx, q, u, rfl, hq, hu⟩ := parts_get hp e2
        have hxm := List.mem_of_getElem? hx
        have hx2 := ht x hxm
        refine ⟨q, _, rfl, same_sqt s1 hq, rfl, _, _, rfl, _, _, rfl, rfl, ?_⟩
        dsimp only [gName]
        have hpath := hu.same s1
        have hwl : ws.length ≤ 48 := by
          have h1 := TpAll.len hws
          rw [List.length_map] at h1
          have h2 := tgtsTo_len (j := j) ht
          omega
        refine ⟨_, rfl, _, rfl, x.2, rfl, hx2, fun l2 a2 b2 H5 s5 e1 e2 e3 => ?_⟩
        refine ⟨l2, _, _, _, rfl, rfl, SqL.of e1, atI_nat (j := 0) rfl, a2, rfl, ⟨_, SqL.of e2⟩, fun D hD => lc_list (K := K) (a := a2) (xs := (insT x.2).map V.str) (fun m H'' => Same H5 H'' ∧ ∃ ys, H'' D = some (.lst ys) ∧ TpAll K H'' ys (((insT x.2).take m).map fun n => dPort (x.1, n))) ⟨same_new hD, [], upd_same, .nil⟩ (fun m H'' _ h => SqL.of (h.1 _ _ e2)) ?_ ?_⟩
        · rintro m y H6 hy ⟨s6, ys, hys, hyt⟩
          obtain ⟨hm, e⟩ := List.getElem?_eq_some_iff.mp hy
          rw [List.length_map] at hm
          rw [List.getElem_map] at e
          subst e
          have hyl := TpAll.len hyt
          rw [List.length_map, List.length_take] at hyl
          have h3 := (ports_small _ (rowT_of hx2))
          have h31 : (insT x.2).length ≤ 3 := h3.1
          have h32 : (outsT x.2).length ≤ 2 := h3.2.1
          refine ⟨rfl, ?_⟩
          dsimp only [tYes]
          refine iteT ⟨_, rfl, _, rfl, szl (show 2 ≤ 100000 by decide), fun c G7 u7 k7 => ?_⟩
          have hys7 := u7 _ _ hys
          refine ⟨ys, hys7, szt (by omega), same_mut (s6.trans u7) hD, ys ++ [.ref c], upd_same, ?_⟩
          rw [List.take_add_one, List.getElem?_eq_getElem hm, List.map_append]
          exact TpAll.sx (TpAll.snoc (TpAll.same hyt u7) (tp_port k7.sqt (hpath.same ((s5.trans s6).trans u7)))) (sx_put (sx_of (Same.refl G7))) (notT_lst hys7)
        rintro H6 ⟨s6, ys, hys, hyt⟩
        rw [List.length_map, List.take_length] at hyt
        have s56 := s5.trans s6
        have es : tgtsTo parts (j + 1) = tgtsTo parts j ++ insP x := tgtsTo_succ hx
        have hyl := TpAll.len hyt
        rw [List.length_map] at hyl
        have h31 : (insT x.2).length ≤ 3 := (ports_small _ (rowT_of hx2)).1
        refine ⟨g, D, _, _, rfl, rfl, s56 _ _ hg, hys, szl (by omega), fun g' hg' => ?_⟩
        have t9 := same_new (o := .lst (ws ++ ys)) hg'
        have sAll := (s1.trans s56)
        refine ⟨sAll.trans t9, g', _, _, _, _, _, upd_same, ?_, ?_, rfl⟩
        · cases e : H g' with
          | none => rfl
          | some u => rw [sAll _ _ e] at hg'; cases hg'
        · rw [es, List.map_append]
          refine (TpAll.same hws (s56.trans t9)).app ?_
          have := TpAll.same hyt t9
          unfold insP
          rw [List.map_map]
          exact this
      · rintro σ H1 ⟨s1, g, ws, x3, x4, x5, x6, hg, hgn, hws, rfl⟩
        rw [hul, tgtsTo_all] at hws
        refine ⟨_, rfl, _, rfl, o, rfl, ⟨_, same_sqt s1 ho⟩, fun D hD => lc_tup (K := K) (a := o) (xs := outs.map V.str) (fun m H'' => Same H1 H'' ∧ ∃ ys, H'' D = some (.lst ys) ∧ TpAll K H'' ys ((outs.take m).map fun n => dPort ([], n))) ⟨same_new hD, [], upd_same, .nil⟩ (fun m H'' _ h => same_sqt (s1.trans h.1) ho) ?_ ?_⟩
        · rintro m y H6 hy ⟨s6, ys, hys, hyt⟩
          obtain ⟨hm, e⟩ := List.getElem?_eq_some_iff.mp hy
          rw [List.length_map] at hm
          rw [List.getElem_map] at e
          subst e
          have hyl := TpAll.len hyt
          rw [List.length_map, List.length_take] at hyl
          refine ⟨rfl, ?_⟩
          dsimp only [tYes]
          refine iteT ⟨szl (Nat.zero_le _), fun c1 G6 u6 k6 => ⟨_, rfl, szl (show 2 ≤ 100000 by decide), fun c G7 u7 k7 => ?_⟩⟩
          have hys7 := u7 _ _ (u6 _ _ hys)
          refine ⟨ys, hys7, szt (by omega), same_mut ((s6.trans u6).trans u7) hD, ys ++ [.ref c], upd_same, ?_⟩
          rw [List.take_add_one, List.getElem?_eq_getElem hm, List.map_append]
          exact TpAll.sx (TpAll.snoc (TpAll.same hyt (u6.trans u7)) (tp_port (p := []) k7.sqt (tp_path (p := []) (k6.same u7).sqt))) (sx_put (sx_of (Same.refl G7))) (notT_lst hys7)
        rintro H6 ⟨s6, ys, hys, hyt⟩
        rw [List.length_map, List.take_length] at hyt
        have hyl := TpAll.len hyt
        rw [List.length_map] at hyl
        have hwl : ws.length ≤ 64 := by
          have h1 := TpAll.len hws
          rw [List.length_map] at h1
          have h2 := tgtsTo_len (j := parts.length) ht
          rw [tgtsTo_all] at h2
          omega
        refine ⟨g, D, _, _, rfl, rfl, s6 _ _ hg, hys, szl (by omega), fun g' hg' => ?_⟩
        have t9 := same_new (o := .lst (ws ++ ys)) hg'
        have sAll := s1.trans s6
        refine k g' _ _ (sAll.trans t9) upd_same ?_ ?_
        · cases e : H g' with
          | none => rfl
          | some u => rw [sAll _ _ e] at hg'; cases hg'
        · unfold tgts
          rw [List.map_append]
          refine (TpAll.same hws (s6.trans t9)).app ?_
          rw [List.map_map]
          exact TpAll.same hyt t9

end
end K82

set_option maxRecDepth 100000
set_option maxHeartbeats 4000000
namespace K82
open PySem L2 Ly Nd Nt Od
local macro_rules | `(tactic| walk_at "nx") => `(tactic| dsimp only [tNext])
section
variable {P : Program} {w : World} {K : PySem.W.Frag} {mg : Str → Option Value} {base : Heap} {ad : Adr}
theorem sc_law_laid : FnScope ["ins", "outs", "parts", "fed", "wires", "target"] ["ins", "outs", "parts", "fed"] (defScope s_law_laid) := ⟨rfl, rfl, rfl, by decide +kernel, rfl, by decide +kernel, by decide +kernel⟩
theorem ok_laid {f : Addr} {fd fdt : FuncData} (F : Fun K "_law_laid" "_law_laid" s_law_laid f fd) (T : Txt K w mg ad) (G_law_targets : FnOk P w K mg base CX0 2 ad.f_law_targets fdt ["outs", "parts"] (spTgts K)) (b_law_targets : Binds K fdt ["outs", "parts"] []) : FnOk P w K mg base CX0 3 f fd ["ins", "outs", "parts", "fed"] (spLaid P w K) := by
  refine F.ok sc_law_laid (fun vs H Q E h => ?_) (fun cdv A outer s H vs Q E hr h => ?_)
  · obtain ⟨i, o, l, d, ins, outs, us, parts, kvs, src, rfl, _⟩ := h
    rfl
  · obtain ⟨i, o, l, d, ins, outs, us, parts, kvs, src, rfl, hi, ho, hl, hp, ht, h16, h8, hd, hsrc, k⟩ := h
    refine ⟨_, (pss_cons (ps_setLc (i := 4) (own := [("target", 5)]) rfl sc_law_laid.nd rfl rfl (sw_true rfl rfl rfl (by decide +kernel)) (pi_listK K (pe_call G_law_targets (hr.mono (by decide)) rfl T.g__law_targets T.k__law_targets b_law_targets .nil pass0 (pa_cons (pv 1) (pa_cons (pv 2) pa_nil)))) (blkOk_by (own := [("target", 5)]) (N := ["ins", "outs", "parts", "fed", "wires", "target"]) (sc := defScope s_law_laid) (by decide +kernel)) (fun _ _ _ _ _ => (pg_name (i := 5) sc_law_laid.nd rfl (Or.inl rfl))) (fun _ _ _ _ _ => pts_nil) (fun _ _ _ _ _ => (pe_tupF (pa_cons (pv 5) (pa_cons (pe_dgetN P w K (hu9 hr) (pv 3) (pv 5) (fun _ _ => rfl)) pa_nil)))))
    (pss_one (ps_ret (pe_lst (pa_cons (pe_callTy (call_tupleG K rfl) (by rfl) T.n_tuple (by decide +kernel) (pa_cons (pv 0) pa_nil)) (pa_cons (pe_callTy (call_tupleG K rfl) (by rfl) T.n_tuple (by decide +kernel) (pa_cons (pv 1) pa_nil)) (pa_cons (pe_callTy (call_tupleG K rfl) (by rfl) T.n_tuple (by decide +kernel) (pa_cons (pv 2) pa_nil)) (pa_cons (pe_callTy (call_tupleG K rfl) (by rfl) T.n_tuple (by decide +kernel) (pa_cons (pv 4) pa_nil)) pa_nil)))))))), ?_⟩
    refine asg (fun v H' => ∃ (wl : Addr) (ws : List V), v = .ref wl ∧ H' wl = some (.lst ws) ∧ WiresAt K H' ws ((tgts outs parts).map fun t => (t, src t)) ∧ Same H H') (fun Q' q => ?_) ?_
    · refine ⟨_, rfl, _, rfl, o, l, outs, us, parts, rfl, .inl ⟨ho, hl⟩, hp, ht, h16, h8, fun tl tws H1 s1 htl htn htw => ?_⟩
      have htln := TpAll.len htw
      rw [List.length_map] at htln
      have htgl := tgts_len (outs := outs) ht
      revert htw htln hsrc q htgl
      generalize tgts outs parts = ts
      intro hsrc q htw htln htgl
      refine ⟨tl, rfl, ⟨_, SqL.of htl⟩, fun D hD => lc_list (K := K) (a := tl) (xs := tws) (fun m H' => Same H1 H' ∧ ∃ ys, H' D = some (.lst ys) ∧ WiresAt K H' ys ((ts.take m).map fun t => (t, src t))) ⟨same_new hD, [], upd_same, .nil⟩ (fun m H' _ h => SqL.of (h.1 _ _ htl)) ?_ ?_⟩
      · rintro m y H6 hy ⟨s6, ys, hys, hyt⟩
        obtain ⟨dd, h1, hyp⟩ := TpAll.get htw hy
        rw [List.getElem?_map] at h1
        obtain ⟨t, htm, rfl⟩ := Option.map_eq_some_iff.mp h1
        obtain ⟨v, hv, hvt⟩ := hsrc t (List.mem_of_getElem? htm)
        have hyl := TpAll.len hyt
        rw [List.length_map, List.length_map, List.length_take] at hyl
        have s16 := s1.trans s6
        refine ⟨rfl, ?_⟩
        dsimp only [tYes]
        refine iteT ⟨_, rfl, _, rfl, _, rfl, d, kvs, kPort t, v, rfl, hd.same s16, key_port (hyp.same s6), hv, szl (show 2 ≤ 100000 by decide), fun c G7 u7 k7 => ?_⟩
        have hys7 := u7 _ _ hys
        refine ⟨ys, hys7, szt (by omega), same_mut (s6.trans u7) hD, ys ++ [.ref c], upd_same, ?_⟩
        rw [List.take_add_one, htm, List.map_append]
        unfold Nt.WiresAt
        rw [List.map_append]
        exact TpAll.sx (TpAll.snoc (TpAll.same hyt u7) (tp_wire (x := (t, src t)) k7.sqt (hyp.same (s6.trans u7)) (hvt.same (s16.trans u7)))) (sx_put (sx_of (Same.refl G7))) (notT_lst hys7)
      · rintro H6 ⟨s6, ys, hys, hyt⟩
        rw [htln, List.take_length] at hyt
        exact q _ _ ⟨D, ys, rfl, hys, hyt, s1.trans s6⟩
    rintro _ H1 ⟨wl, ws, rfl, hwl, hws, s1⟩
    dsimp only [gName]
    refine ⟨_, rfl, .inl ⟨i, _, rfl, same_sql s1 hi, fun c1 G1 u1 k1 => ⟨_, rfl, .inl ⟨o, _, rfl, same_sql (s1.trans u1) ho, fun c2 G2 u2 k2 => ⟨_, rfl, .inl ⟨l, _, rfl, same_sql ((s1.trans u1).trans u2) hl, fun c3 G3 u3 k3 => ⟨_, rfl, .inl ⟨wl, _, rfl, SqL.of (((u1.trans u2).trans u3) _ _ hwl), fun c4 G4 u4 k4 => ⟨szl (show 4 ≤ 100000 by decide), fun n hn => ?_⟩⟩⟩⟩⟩⟩⟩⟩⟩
    have t5 := same_new (o := .lst [V.ref c1, .ref c2, .ref c3, .ref c4]) hn
    have t45 := u4.trans t5
    have t35 := u3.trans t45
    have t25 := u2.trans t35
    have t15 := u1.trans t25
    have t05 := s1.trans t15
    refine k n _ t05 ?_ ⟨c1, c2, c3, c4, us, ws, upd_same, k1.same t25, k2.same t35, k3.same t45, TpAll.same hp t05, k4.same t5, TpAll.same hws t15⟩
    cases e : H n with
    | none => rfl
    | some u => rw [((((s1.trans u1).trans u2).trans u3).trans u4) _ _ e] at hn; cases hn
def firstsTo (parts : List Part) (j : Nat) : List (NK × V) := firsts (parts.take j)
theorem firstsTo_succ {parts : List Part} {j : Nat} {x : Part} (h : parts[j]? = some x) : firstsTo parts (j + 1) = firstsTo parts j ++ if isD x = true then [(kPath x.1, .int (constT x.2))] else [] := by
  unfold firstsTo firsts
  rw [List.take_add_one, h, List.filter_append, List.map_append]
  congr 1
  cases hd : isD x with
  | true =>
    have e : List.filter isD (some x).toList = [x] := by
      show List.filter isD [x] = [x]
      rw [List.filter_cons_of_pos hd]
      rfl
    rw [e, if_pos rfl]
    rfl
  | false =>
    have e : List.filter isD (some x).toList = [] := by
      show List.filter isD [x] = []
      rw [List.filter_cons_of_neg (by rw [hd]; exact Bool.false_ne_true)]
      rfl
    rw [e, if_neg Bool.false_ne_true]
    rfl
theorem firsts_nodup {parts : List Part} (h : (parts.map (·.1)).Nodup) : ((firsts parts).map (·.1)).Nodup := by
  unfold firsts
  rw [List.map_map]
  have h1 : ((parts.filter isD).map (·.1)).Nodup := h.sublist (List.Sublist.map _ List.filter_sublist)
  have e : ((fun x : NK × V => x.1) ∘ fun x : Part => (kPath x.1, V.int (constT x.2))) = kPath ∘ (·.1) := rfl
  rw [e, ← List.map_map]
  exact List.pairwise_map.mpr (h1.imp fun ne e => ne (kPath_inj e))
theorem delay_text {z : Str} (h : TextOk z) (hd : wordT z = "delay") : ∃ v : Int, R32 v ∧ z = textOf "delay" (some v) ∧ constT z = v := by
  obtain ⟨n, c, hp, rfl⟩ := h
  rw [word_of hp] at hd
  subst hd
  cases c with
  | none =>
    have := hp.kc
    exact absurd this (by decide +kernel)
  | some v =>
    refine ⟨v, hp.ok.2 v rfl, rfl, ?_⟩
    unfold constT
    rw [primOf_text hp]
    rfl
theorem sc_law_first : FnScope ["net", "path", "text"] ["net"] (defScope s_law_first) := ⟨rfl, rfl, rfl, by decide +kernel, rfl, by decide +kernel, by decide +kernel⟩
theorem ok_first {f : Addr} {fd : FuncData} (F : Fun K "_law_first" "_law_first" s_law_first f fd) (T : Txt K w mg ad) : FnOk P w K mg base CX0 1 f fd ["net"] (spFirst P w K) := by
  refine F.ok sc_law_first (fun vs H Q E h => ?_) (fun cdv A outer s H vs Q E hr h => ?_)
  · obtain ⟨l, ins, outs, parts, wires, rfl, _⟩ := h
    rfl
  · obtain ⟨l, ins, outs, parts, wires, rfl, ⟨a, b, c, d, us, ws, hl, hKa, hKb, hKc, hp, hKd, hw⟩, ht, h16, hnd, k⟩ := h
    refine ⟨_, (pss_one (ps_ret (pe_callTy (call_dictNf P w K rfl (hu10 hr)) (by rfl) T.n_dict (by decide +kernel) (pa_cons (pe_lc (own := [("path", 1), ("text", 2)]) rfl sc_law_first.nd (pi_tupK K (pe_ix (ix_listK K) (pv 0) pe_int (fun _ _ => rfl))) (blkOk_by (own := [("path", 1), ("text", 2)]) (N := ["net", "path", "text"]) (sc := defScope s_law_first) (by decide +kernel)) (fun _ _ _ _ _ => (by exact (pg_tupK K (n := 2) (by rfl) (pgs_cons (pg_name (i := 1) sc_law_first.nd rfl (Or.inl rfl)) (pgs_cons (pg_name (i := 2) sc_law_first.nd rfl (Or.inl rfl)) pgs_nil))))) (fun _ _ _ _ _ => (pts_one (pt_cmpR op_eq (pe_ix (ix_listK K) (pe_split (pv 2) pe_str) pe_int (fun _ _ => rfl)) pe_str (nomark _)))) (fun _ _ _ _ _ => (pe_tupF (pa_cons (pv 1) (pa_cons (pe_callTy call_int_str (by rfl) T.n_int (by decide +kernel) (pa_cons (pe_ix (ix_listK K) (pe_split (pv 2) pe_str) pe_int (fun _ _ => rfl)) pa_nil)) pa_nil))))) pa_nil)))), ?_⟩
    have hul := parts_len hp
    refine ⟨_, rfl, l, _, _, _, rfl, rfl, SqL.of hl, atI_nat (j := 2) rfl, c, rfl, ⟨_, hKc.sqt⟩, fun D hD => lc_tup (K := K) (a := c) (xs := us) (fun m H' => Same H H' ∧ ∃ ys, H' D = some (.lst ys) ∧ ys.length ≤ m ∧ Paired (PairV K H') (firstsTo parts m) ys) ⟨same_new hD, [], upd_same, Nat.le_refl _, .nil⟩ (fun m H' _ h => (hKc.same h.1).sqt) ?_ ?_⟩
    · rintro m y H1 hy ⟨s1, ys, hys, hyl, hyp⟩
      obtain ⟨x, hx, q, u, rfl, hq, hu⟩ := parts_get hp hy
      have hx2 := ht x (List.mem_of_getElem? hx)
      have hm := (List.getElem?_eq_some_iff.mp hx).1
      obtain ⟨r, hsp⟩ := split_head hx2
      refine ⟨q, _, rfl, same_sqt s1 hq, rfl, _, _, rfl, _, _, rfl, rfl, ?_⟩
      refine ⟨rfl, ?_⟩
      refine ⟨_, rfl, ⟨x.2, rfl⟩, x.2, " ", rfl, rfl, (by decide +kernel), Nat.le_trans (Nat.add_le_add_right (textOk_len hx2) 2) (by decide), fun p0 hp0 => ⟨p0, _, _, _, rfl, rfl, SqL.of upd_same, atI_nat (j := 0) (by rw [hsp]; rfl), rfl, _, rfl, ?_⟩⟩
      have t2 := same_new (o := .lst ((Txt.split x.2 " ").map V.str)) hp0
      have s2 := s1.trans t2
      have hys2 := t2 _ _ hys
      have hyp2 := paired_imp (fun _ _ z => PairV.same z t2) hyp
      revert s2 hys2 hyp2
      generalize upd H1 p0 (.lst ((Txt.split x.2 " ").map V.str)) = H2
      intro s2 hys2 hyp2
      have es := firstsTo_succ hx
      by_cases hd : wordT x.2 = "delay"
      · rw [decide_eq_true (congrArg V.str hd)]
        have hdx : isD x = true := by unfold isD; exact decide_eq_true hd
        rw [hdx, if_pos rfl] at es
        obtain ⟨v, hv, hz, hcv⟩ := delay_text hx2 hd
        have hsp2 : Txt.split x.2 " " = [("delay" : Str), Str.ofString (toString v)] := by
          rw [hz]
          exact split_text (n := "delay") (c := some v) ⟨⟨by decide +kernel, fun _ e => by cases e; exact hv⟩, (show withK "delay" = true by decide +kernel)⟩
        refine iteT ⟨_, rfl, _, rfl, ⟨x.2, rfl⟩, x.2, " ", rfl, rfl, (by decide +kernel), Nat.le_trans (Nat.add_le_add_right (textOk_len hx2) 2) (by decide), fun p1 hp1 => ⟨p1, _, _, _, rfl, rfl, SqL.of upd_same, atI_nat (j := 1) (by rw [hsp2]; rfl), _, v, rfl, int_text hv, ?_, szl (show 2 ≤ 100000 by decide), fun cc G3 u3 k3 => ?_⟩⟩
        · have h1 := textOk_len hx2
          have h2 := split_lens (x := x.2) sp_ne sp_k (Str.ofString (toString v)) (by rw [hsp2]; simp)
          omega
        have t3 := same_new (o := .lst ((Txt.split x.2 " ").map V.str)) hp1
        have s3 := (s2.trans t3).trans u3
        have hys3 := (t3.trans u3) _ _ hys2
        have sf : SameX D G3 (upd G3 D (.lst (ys ++ [.ref cc]))) := sx_put (sx_of (Same.refl G3))
        refine ⟨ys, hys3, szt (by omega), same_mut s3 hD, ys ++ [.ref cc], upd_same, by rw [List.length_append, List.length_singleton]; omega, ?_⟩
        rw [es]
        refine paired_snoc (paired_imp (fun _ _ z => (PairV.same z (t3.trans u3)).mono fun _ _ => sqt_sx' sf (notT_lst hys3)) hyp2) ?_
        have hpv : PairV K G3 (kPath x.1, V.int (constT x.2)) (.ref cc) := ⟨cc, u, rfl, by rw [hcv]; exact k3.sqt, key_path (hu.same s3)⟩
        exact hpv.mono fun _ _ => sqt_sx' sf (notT_lst hys3)
      · rw [decide_eq_false (fun e => hd (V.str.inj e))]
        have hdx : isD x = false := by unfold isD; exact decide_eq_false hd
        rw [hdx, if_neg Bool.false_ne_true, List.append_nil] at es
        refine iteF ⟨s2, ys, hys2, by omega, ?_⟩
        rw [es]
        exact hyp2
    · rintro H1 ⟨s1, ys, hys, hyl, hyp⟩
      have e : firstsTo parts us.length = firsts parts := by unfold firstsTo; rw [hul, List.take_length]
      rw [e] at hyp
      refine ⟨D, ys, firsts parts, rfl, .inl (SqL.of hys), hyp, firsts_nodup hnd, fun dd H2 hdd s2 hdn => k dd H2 (s1.trans s2) ?_ hdn⟩
      cases e : H dd with
      | none => rfl
      | some u => rw [s1 _ _ e] at hdd; cases hdd

end
end K82

set_option maxRecDepth 100000
set_option maxHeartbeats 4000000
namespace Nt
open PySem PySem.Spec PyProof.Rows L2 Ly LamX Nd
def inPorts (ins : List Str) : List Nt.Prt := ins.map fun n => ([], n)
def allSrcs (ins : List Str) (parts : List Part) : List Nt.Prt := inPorts ins ++ parts.flatMap outsP
structure NetOk (ins outs : List Str) (parts : List Part) (wires : List Wir) : Prop where
  io : (ins ++ outs).Nodup
  i8 : ins.length ≤ 8
  o8 : outs.length ≤ 8
  nm : ∀ x ∈ ins ++ outs, nameOk x = true
  pn : (parts.map (·.1)).Nodup
  pp : ∀ x ∈ parts, PathOk x.1
  tx : ∀ x ∈ parts, TextOk x.2
  p16 : parts.length ≤ 16
  wt : wires.map (·.1) = tgts outs parts
  ws : ∀ x ∈ wires, x.2 ∈ allSrcs ins parts
  ac : ∃ rank : Pth → Nat, ∀ x ∈ wires, ∀ a ∈ parts, ∀ b ∈ parts, x.1.1 = a.1 → x.2.1 = b.1 → isD a = false → isD b = false → rank b.1 < rank a.1
/-- a source that may feed a target -/
def GoodS (ins : List Str) (parts : List Part) (t s : Nt.Prt) : Prop :=
  s ∈ allSrcs ins parts ∧ ∀ (i k : Nat) (a b : Part), parts[i]? = some a → parts[k]? = some b → t.1 = a.1 → s.1 = b.1 → isD a = false → isD b = false → k < i
theorem srcs_mem {parts : List Part} {n : Nat} {s : Nt.Prt} (h : s ∈ srcs parts n) : ∃ (k : Nat) (x : Part), parts[k]? = some x ∧ (k < n ∨ isD x = true) ∧ s ∈ outsP x := by
  unfold srcs at h
  obtain ⟨⟨x, k⟩, h1, h2⟩ := List.mem_flatMap.mp h
  obtain ⟨h3, h4⟩ := List.mem_filter.mp h1
  have h5 := List.mem_zipIdx_iff_getElem?.mp h3
  refine ⟨k, x, h5, ?_, h2⟩
  have h4 : (decide (k < n) || isD x) = true := h4
  rw [Bool.or_eq_true, decide_eq_true_iff] at h4
  exact h4
theorem outsP_path {x : Part} {s : Nt.Prt} (h : s ∈ outsP x) : s.1 = x.1 := by
  unfold outsP at h
  obtain ⟨n, _, rfl⟩ := List.mem_map.mp h
  rfl
theorem insP_path {x : Part} {s : Nt.Prt} (h : s ∈ insP x) : s.1 = x.1 := by
  unfold insP at h
  obtain ⟨n, _, rfl⟩ := List.mem_map.mp h
  rfl
theorem nodup_ix {parts : List Part} (h : (parts.map (·.1)).Nodup) {i k : Nat} {a b : Part} (ha : parts[i]? = some a) (hb : parts[k]? = some b) (e : a.1 = b.1) : i = k := by
  obtain ⟨h1, e1⟩ := List.getElem?_eq_some_iff.mp ha
  obtain ⟨h2, e2⟩ := List.getElem?_eq_some_iff.mp hb
  have h1' : i < (parts.map (·.1)).length := by rw [List.length_map]; exact h1
  have h2' : k < (parts.map (·.1)).length := by rw [List.length_map]; exact h2
  refine (List.getElem_inj (h₀ := h1') (h₁ := h2') h).mp ?_
  rw [List.getElem_map, List.getElem_map, e1, e2, e]
/-- what is picked for a part's target -/
theorem good_part {ins : List Str} {parts : List Part} (hn : (parts.map (·.1)).Nodup) (hp : ∀ x ∈ parts, PathOk x.1) {j : Nat} {x : Part} (hx : parts[j]? = some x) {t s : Nt.Prt} (ht : t ∈ insP x) (hs : s ∈ inPorts ins ++ srcs parts (if isD x = true then parts.length else j)) : GoodS ins parts t s := by
  rcases List.mem_append.mp hs with hs | hs
  · refine ⟨List.mem_append_left _ hs, fun i k a b ha hb h1 h2 _ _ => ?_⟩
    unfold inPorts at hs
    obtain ⟨n, _, rfl⟩ := List.mem_map.mp hs
    have := (hp b (List.mem_of_getElem? hb)).1
    have h2 : ([] : Pth) = b.1 := h2
    rw [← h2] at this
    exact absurd this (by decide)
  · obtain ⟨k0, y, hy, hk, hso⟩ := srcs_mem hs
    refine ⟨List.mem_append_right _ (List.mem_flatMap.mpr ⟨y, List.mem_of_getElem? hy, hso⟩), fun i k a b ha hb h1 h2 hda hdb => ?_⟩
    rw [insP_path ht] at h1
    rw [outsP_path hso] at h2
    have e1 : i = j := nodup_ix hn ha hx h1.symm
    have e2 : k = k0 := nodup_ix hn hb hy h2.symm
    subst e1 e2
    rw [hy] at hb
    cases hb
    rw [hx] at ha
    cases ha
    rcases hk with hk | hk
    · rw [hda, if_neg Bool.false_ne_true] at hk
      exact hk
    · rw [hk] at hdb
      cases hdb
/-- what is picked for an output -/
theorem good_out {ins : List Str} {parts : List Part} (hp : ∀ x ∈ parts, PathOk x.1) {n : Str} {m : Nat} {s : Nt.Prt} (hs : s ∈ inPorts ins ++ (srcs parts m ++ srcs parts m)) : GoodS ins parts ([], n) s := by
  have hm : s ∈ allSrcs ins parts := by
    rcases List.mem_append.mp hs with hs | hs
    · exact List.mem_append_left _ hs
    · have hs : s ∈ srcs parts m := (List.mem_append.mp hs).elim id id
      obtain ⟨k0, y, hy, _, hso⟩ := srcs_mem hs
      exact List.mem_append_right _ (List.mem_flatMap.mpr ⟨y, List.mem_of_getElem? hy, hso⟩)
  refine ⟨hm, fun i k a b ha hb h1 h2 _ _ => ?_⟩
  have := (hp a (List.mem_of_getElem? ha)).1
  have h1 : ([] : Pth) = a.1 := h1
  rw [← h1] at this
  exact absurd this (by decide)
theorem tgts_perm {outs : List Str} {parts parts' : List Part} (h : parts'.Perm parts) : (tgts outs parts').Perm (tgts outs parts) := (h.flatMap_right insP).append_right _
/-- the net of the picks -/
theorem net_ok {ins outs : List Str} {parts parts' : List Part} {src : Nt.Prt → Nt.Prt} (io : (ins ++ outs).Nodup) (i8 : ins.length ≤ 8) (o8 : outs.length ≤ 8) (nm : ∀ x ∈ ins ++ outs, nameOk x = true) (pn : (parts.map (·.1)).Nodup) (pp : ∀ x ∈ parts, PathOk x.1) (tx : ∀ x ∈ parts, TextOk x.2) (p16 : parts.length ≤ 16)
    (hperm : parts'.Perm parts) (hs : ∀ t ∈ tgts outs parts, GoodS ins parts t (src t)) : NetOk ins outs parts' ((tgts outs parts').map fun t => (t, src t)) := by
  refine ⟨io, i8, o8, nm, (hperm.map (·.1)).nodup_iff.mpr pn, fun x hx => pp x (hperm.mem_iff.mp hx), fun x hx => tx x (hperm.mem_iff.mp hx), by rw [hperm.length_eq]; exact p16, ?_, fun x hx => ?_, fun p => (parts.map (·.1)).idxOf p, fun x hx a ha b hb h1 h2 h3 h4 => ?_⟩
  · rw [List.map_map]
    exact List.map_id _
  · obtain ⟨t, ht, rfl⟩ := List.mem_map.mp hx
    have h := (hs t ((tgts_perm hperm).mem_iff.mp ht)).1
    rcases List.mem_append.mp h with h | h
    · exact List.mem_append_left _ h
    · exact List.mem_append_right _ ((hperm.flatMap_right outsP).mem_iff.mpr h)
  · obtain ⟨t, ht, rfl⟩ := List.mem_map.mp hx
    have h := (hs t ((tgts_perm hperm).mem_iff.mp ht)).2
    obtain ⟨i, hi⟩ := List.getElem?_of_mem (hperm.mem_iff.mp ha)
    obtain ⟨k, hk⟩ := List.getElem?_of_mem (hperm.mem_iff.mp hb)
    have hlt := h i k a b hi hk h1 h2 h3 h4
    have ix : ∀ {j : Nat} {c : Part}, parts[j]? = some c → (parts.map (·.1)).idxOf c.1 = j := fun {j c} hc => by
      obtain ⟨hj, e⟩ := List.getElem?_eq_some_iff.mp hc
      have hj' : j < (parts.map (·.1)).length := by rw [List.length_map]; exact hj
      have e2 : (parts.map (·.1))[j] = c.1 := by rw [List.getElem_map, e]
      rw [← e2]
      exact pn.idxOf_getElem j hj'
    show (parts.map (·.1)).idxOf b.1 < (parts.map (·.1)).idxOf a.1
    rw [ix hi, ix hk]
    exact hlt
def FedOk (K : PySem.W.Frag) (H : Hp) (kvs : List (NK × V)) (S : List Nt.Prt) (G : Nt.Prt → Nt.Prt → Prop) : Prop := kvs.length ≤ S.length ∧ ∀ t ∈ S, ∃ v s, valV kvs (kPort t) = some v ∧ Tp K H v (dPort s) ∧ G t s
theorem fed_nil {K : PySem.W.Frag} {H : Hp} {G : Nt.Prt → Nt.Prt → Prop} : FedOk K H [] [] G := ⟨Nat.le_refl _, fun t ht => (by cases ht)⟩
theorem FedOk.mono {K : PySem.W.Frag} {H H' : Hp} {kvs : List (NK × V)} {S : List Nt.Prt} {G : Nt.Prt → Nt.Prt → Prop} (h : FedOk K H kvs S G) (m : ∀ a xs, SqT K H a xs → SqT K H' a xs) : FedOk K H' kvs S G := ⟨h.1, fun t ht => let ⟨v, s, h1, h2, h3⟩ := h.2 t ht; ⟨v, s, h1, h2.mono m, h3⟩⟩
theorem FedOk.put {K : PySem.W.Frag} {H : Hp} {kvs : List (NK × V)} {S : List Nt.Prt} {G : Nt.Prt → Nt.Prt → Prop} (h : FedOk K H kvs S G) {t s : Nt.Prt} {v : V} (hv : Tp K H v (dPort s)) (hg : G t s) : FedOk K H (putK kvs (kPort t) v) (S ++ [t]) G := by
  refine ⟨?_, fun t' ht' => ?_⟩
  · have := length_putK kvs (kPort t) v
    have := h.1
    rw [List.length_append, List.length_singleton]
    omega
  · by_cases e : t' = t
    · subst e
      exact ⟨v, s, by rw [valV_put, if_pos rfl], hv, hg⟩
    · have hm : t' ∈ S := by
        rcases List.mem_append.mp ht' with h | h
        · exact h
        · exact absurd (List.mem_singleton.mp h) e
      obtain ⟨v', s', h1, h2, h3⟩ := h.2 t' hm
      refine ⟨v', s', ?_, h2, h3⟩
      rw [valV_put, if_neg (fun z => e (kPort_inj z))]
      exact h1
/-- the sources as a function -/
theorem FedOk.src {K : PySem.W.Frag} {H : Hp} {kvs : List (NK × V)} {S : List Nt.Prt} {G : Nt.Prt → Nt.Prt → Prop} (h : FedOk K H kvs S G) : ∃ src : Nt.Prt → Nt.Prt, ∀ t ∈ S, (∃ v, valV kvs (kPort t) = some v ∧ Tp K H v (dPort (src t))) ∧ G t (src t) := by
  classical
  have h2 : ∀ t, ∃ s, t ∈ S → (∃ v, valV kvs (kPort t) = some v ∧ Tp K H v (dPort s)) ∧ G t s := fun t => by
    by_cases ht : t ∈ S
    · obtain ⟨v, s, h1, h2, h3⟩ := h.2 t ht
      exact ⟨s, fun _ => ⟨⟨v, h1, h2⟩, h3⟩⟩
    · exact ⟨t, fun z => absurd z ht⟩
  exact ⟨fun t => Classical.choose (h2 t), fun t ht => Classical.choose_spec (h2 t) ht⟩
def spNet (K : PySem.W.Frag) : Sp := fun vs H Q _ => ∃ (p l : Addr) (ws : List Str) (m : Nat) (a b : Int), vs = [.ref p, .ref l, .int m] ∧ FeedAt H p a b ∧ H l = some (.lst (ws.map V.str)) ∧ l ≠ p ∧ ws ≠ [] ∧ ws.length ≤ 100 ∧ (∀ x ∈ ws, x ∈ portNames) ∧ 1 ≤ m ∧ m ≤ 16 ∧
  ∀ (n : Addr) (H' : Hp) (ins outs : List Str) (parts : List Part) (wires : List Wir) (a' b' : Int), SameX p H H' → FeedAt H' p a' b' → n ≠ p → NetAt K H' n ins outs parts wires → NetOk ins outs parts wires → Q (.ref n) H'
end Nt

set_option maxRecDepth 100000
set_option maxHeartbeats 4000000
namespace Nd
open PySem PySem.Spec PyProof.Rows L2 Ly LamX PySem.W
/-- an iterator at its turn i: of a list (false), of a tuple (true) -/
def Src : Bool → Heap → Addr → Addr → Nat → Prop
  | false, h, it, l, i => h.IsListIter it l i
  | true, h, it, l, i => h.IsTupleIter it l i
def Has : Bool → Heap → Addr → Array Value → Prop
  | false, h, l, xs => h.IsList l xs
  | true, h, l, xs => h.IsTuple l xs
theorem Src.keep : ∀ {b : Bool} {h h' : Heap} {it l : Addr} {i : Nat}, Src b h it l i → (∀ o, h.get? it = some o → h'.get? it = some o) → Src b h' it l i
  | false, _, _, _, _, _, ⟨o, e, r⟩, k => ⟨o, k o e, r⟩
  | true, _, _, _, _, _, ⟨o, e, r⟩, k => ⟨o, k o e, r⟩
theorem Has.keep : ∀ {b : Bool} {h h' : Heap} {l : Addr} {xs : Array Value}, Has b h l xs → (∀ o, h.get? l = some o → h'.get? l = some o) → Has b h' l xs
  | false, _, _, _, _, ⟨o, e, r⟩, k => ⟨o, k o e, r⟩
  | true, _, _, _, _, ⟨o, e, r⟩, k => ⟨o, k o e, r⟩
theorem Src.obj : ∀ {b : Bool} {h : Heap} {it l : Addr} {i : Nat}, Src b h it l i → ∃ o, h.get? it = some o ∧ ∀ v, o.data ≠ .cell v
  | false, _, _, _, _, ⟨o, e, _, d⟩ => ⟨o, e, fun v q => by rw [d] at q; cases q⟩
  | true, _, _, _, _, ⟨o, e, _, d⟩ => ⟨o, e, fun v q => by rw [d] at q; cases q⟩
section
variable {prog : Program} {w : World} {A : Around} {E : Value → Shared → Prop} {s : Shared}
theorem src_item : ∀ {b : Bool} {it l : Addr} {i : Nat} {items : Array Value} {x : Value} {Q : Value → Shared → Prop}, Src b s.heap it l i → Has b s.heap l items → items[i]? = some x → (∀ h', Src b h' it l (i + 1) → Heap.SameBut it s.heap h' → Q x { s with heap := h' }) → wpAny (model prog w) A (Builtin.SmallTypes.nextOf (.ref it)) Q E s
  | false, _, _, _, _, _, _, c, d, e, k => wpAny_nextOf_list_item c d e k
  | true, _, _, _, _, _, _, c, d, e, k => RZ.nextOf_tuple_item c d e k
theorem src_end (hh : A.handled = none) : ∀ {b : Bool} {it l : Addr} {i : Nat} {items : Array Value} {Q : Value → Shared → Prop}, Src b s.heap it l i → Has b s.heap l items → items[i]? = none → (∀ h' e, Heap.ExtBut it s.heap h' → (∃ o, h'.get? e = some o ∧ o.cls = .type "StopIteration") → E (.ref e) { s with heap := h' }) → wpAny (model prog w) A (Builtin.SmallTypes.nextOf (.ref it)) Q E s
  | false, _, _, _, _, _, c, d, e, k => wpAny_nextOf_list_end hh c d e k
  | true, _, _, _, _, _, c, d, e, k => RZ.nextOf_tuple_end hh c d e k
/-- one step of a zip of two sequences of either kind: a pair, or the end -/
theorem zs_next {b1 b2 : Bool} {z TI TO i1 i2 l1 l2 : Addr} {k1 k2 : Nat} {xs ys : Array Value} {a b : Value} {Q : Value → Shared → Prop} (hh : A.handled = none) (D : ZipApart z TI TO i1 i2 l1 l2)
    (hz : IsZip s.heap z TI TO .none) (hTI : IsPair s.heap TI (.ref i1) (.ref i2)) (hTO : IsPair s.heap TO a b) (h1 : Src b1 s.heap i1 l1 k1) (h2 : Src b2 s.heap i2 l2 k2) (hl1 : Has b1 s.heap l1 xs) (hl2 : Has b2 s.heap l2 ys)
    (hQ : ∀ x y h', xs[k1]? = some x → ys[k2]? = some y → IsZip h' z TI TO (rawInt s.heap.objs.size) → IsPair h' TO x y → Src b1 h' i1 l1 (k1 + 1) → Src b2 h' i2 l2 (k2 + 1) → IsPair h' s.heap.objs.size x y →
      (∀ c o, c ≠ z → c ≠ TO → c ≠ i1 → c ≠ i2 → s.heap.get? c = some o → h'.get? c = some o) → Q (.ref s.heap.objs.size) { s with heap := h' })
    (hE : ∀ h' e, xs[k1]? = none ∨ ys[k2]? = none → (∀ c o, c ≠ z → c ≠ TO → c ≠ i1 → c ≠ i2 → s.heap.get? c = some o → h'.get? c = some o) → (∃ o, h'.get? e = some o ∧ o.cls = .type "StopIteration") → E (.ref e) { s with heap := h' }) :
    wpAny (model prog w) A (Builtin.«zip.__next__» ⟨[.ref z], []⟩) (fun fin s' => ∃ v, fin = .done (.ret v) ∧ Q v s') E s := by
  show wpAny _ _ (field (.ref z) 2 >>= _) _ _ _
  refine wpAny_bind (wpAny_field hz rfl (x := .bool false) rfl ?_)
  show wpAny _ _ (field (.ref z) 3 >>= _) _ _ _
  refine wpAny_bind (wpAny_field hz rfl (x := .ref TI) rfl (wpAny_bind (wpAny_seqItems hTI rfl ?_)))
  show wpAny _ _ (Builtin.SmallTypes.ownedTupleIsFree (.ref z) >>= _) _ _ _
  refine wpAny_bind ?_
  unfold Builtin.SmallTypes.ownedTupleIsFree
  refine wpAny_bind (wpAny_field hz rfl (x := .none) rfl (wpAny_pure ?_))
  simp only [if_true]
  refine wpAny_bind (wpAny_rule (wpAny_bind (wpAny_field hz rfl (x := .ref TO) rfl (wpAny_bind (wpAny_setField_rec hz (by simp) fun g₁ z₁ e₁ => ?_)))))
  replace z₁ : IsZip g₁ z TI TO .ellipsis := z₁
  have u₁ : ∀ c o, c ≠ z → s.heap.get? c = some o → g₁.get? c = some o := fun c o n e => e₁.extBut _ _ n e
  refine wpAny_bind ?_
  simp only [List.zipIdx_cons, List.zipIdx_nil, List.forIn_cons, List.forIn_nil]
  refine wpAny_bind (wpAny_bind (wpAny_onRaise ?_))
  show wpAny _ _ (Builtin.SmallTypes.nextOf (.ref i1) >>= _) _ _ _
  have h1₁ : Src b1 g₁ i1 l1 k1 := h1.keep fun o => u₁ i1 o D.i1z
  have l1₁ : Has b1 g₁ l1 xs := hl1.keep fun o => u₁ l1 o D.l1z
  cases hx : xs[k1]? with
  | none =>
    refine wpAny_bind (src_end hh h1₁ l1₁ hx fun g₂ e e₂ he => ?_)
    obtain ⟨oe, hoe, hce⟩ := he
    have z₂ : IsZip g₂ z TI TO .ellipsis := e₂ _ _ D.i1z.symm z₁
    have hez : e ≠ z := fun q => by subst q; rw [z₂] at hoe; cases hoe; simp at hce
    exact wpAny_setField_rec z₂ (by simp) fun g₃ _ e₃ => hE g₃ e (.inl hx) (fun c o c1 _ c3 _ q => e₃.extBut _ _ c1 (e₂ _ _ c3 (u₁ c o c1 q))) ⟨oe, e₃.extBut _ _ hez hoe, hce⟩
  | some x =>
    refine wpAny_bind (src_item h1₁ l1₁ hx fun g₂ h1₂ e₂ => wpAny_pure ?_)
    have u₂ : ∀ c o, c ≠ z → c ≠ i1 → s.heap.get? c = some o → g₂.get? c = some o := fun c o n m e => e₂.extBut _ _ m (u₁ c o n e)
    refine wpAny_bind (wpAny_seqItems (u₂ _ _ D.TOz D.TOi1 hTO) rfl ?_)
    refine wpAny_bind (wpAny_updateSeq_pair (u₂ _ _ D.TOz D.TOi1 hTO) fun g₃ t₃ e₃ => ?_)
    replace t₃ : IsPair g₃ TO x b := t₃
    have u₃ : ∀ c o, c ≠ z → c ≠ i1 → c ≠ TO → s.heap.get? c = some o → g₃.get? c = some o := fun c o n m q e => e₃.extBut _ _ q (u₂ c o n m e)
    have z₃ : IsZip g₃ z TI TO .ellipsis := e₃.extBut _ _ D.TOz.symm (e₂.extBut _ _ D.i1z.symm z₁)
    have h2₃ : Src b2 g₃ i2 l2 k2 := h2.keep fun o => u₃ i2 o D.i2z D.i12.symm D.TOi2.symm
    have l2₃ : Has b2 g₃ l2 ys := hl2.keep fun o => u₃ l2 o D.l2z D.l2i1 D.l2TO
    refine wpAny_bind (wpAny_letGo (wpAny_pure ?_))
    refine wpAny_bind (wpAny_bind (wpAny_onRaise ?_))
    show wpAny _ _ (Builtin.SmallTypes.nextOf (.ref i2) >>= _) _ _ _
    cases hy : ys[k2]? with
    | none =>
      refine wpAny_bind (src_end hh h2₃ l2₃ hy fun g₄ e e₄ he => ?_)
      obtain ⟨oe, hoe, hce⟩ := he
      have z₄ : IsZip g₄ z TI TO .ellipsis := e₄ _ _ D.i2z.symm z₃
      have hez : e ≠ z := fun q => by subst q; rw [z₄] at hoe; cases hoe; simp at hce
      exact wpAny_setField_rec z₄ (by simp) fun g₅ _ e₅ => hE g₅ e (.inr hy) (fun c o c1 c2 c3 c4 q => e₅.extBut _ _ c1 (e₄ _ _ c4 (u₃ c o c1 c3 c2 q))) ⟨oe, e₅.extBut _ _ hez hoe, hce⟩
    | some y =>
      refine wpAny_bind (src_item h2₃ l2₃ hy fun g₄ h2₄ e₄ => wpAny_pure ?_)
      have t₄ : IsPair g₄ TO x b := e₄.extBut _ _ D.TOi2 t₃
      refine wpAny_bind (wpAny_seqItems t₄ rfl ?_)
      refine wpAny_bind (wpAny_updateSeq_pair t₄ fun g₅ t₅ e₅ => ?_)
      replace t₅ : IsPair g₅ TO x y := t₅
      refine wpAny_bind (wpAny_letGo (wpAny_pure (wpAny_pure ?_)))
      refine wpAny_bind (wpAny_seqItems t₅ rfl (wpAny_bind (wpAny_newTuple ?_)))
      have hsz : g₅.objs.size = s.heap.objs.size := by rw [e₅.1, e₄.1, e₃.1, e₂.1, e₁.1]
      have z₅ : IsZip g₅ z TI TO .ellipsis := e₅.extBut _ _ D.TOz.symm (e₄.extBut _ _ D.i2z.symm z₃)
      have u₅ : ∀ c o, c ≠ z → c ≠ TO → c ≠ i1 → c ≠ i2 → s.heap.get? c = some o → g₅.get? c = some o := fun c o c1 c2 c3 c4 e => e₅.extBut _ _ c2 (e₄.extBut _ _ c4 (u₃ c o c1 c3 c2 e))
      have h1₅ : Src b1 g₅ i1 l1 (k1 + 1) := h1₂.keep fun o e => e₅.extBut _ _ D.TOi1.symm (e₄.extBut _ _ D.i12 (e₃.extBut _ _ D.TOi1.symm e))
      have h2₅ : Src b2 g₅ i2 l2 (k2 + 1) := h2₄.keep fun o e => e₅.extBut _ _ D.TOi2.symm e
      show wpAny _ _ (Builtin.SmallTypes.ownedTupleHandOut (.ref z) (.ref g₅.objs.size) >>= _) _ _ _
      refine wpAny_bind ?_
      unfold Builtin.SmallTypes.ownedTupleHandOut
      have z₆ : IsZip (g₅.push { cls := .type "tuple", data := .seq #[x, y] }) z TI TO .ellipsis := Heap.get?_push_of_some _ z₅
      refine wpAny_bind (wpAny_setField_rec z₆ (by simp) fun g₇ z₇ e₇ => ?_)
      replace z₇ : IsZip g₇ z TI TO (rawInt g₅.objs.size) := z₇
      refine wpAny_setField_rec z₇ (by simp) fun g₈ z₈ e₈ => wpAny_pure ⟨_, rfl, ?_⟩
      replace z₈ : IsZip g₈ z TI TO (rawInt g₅.objs.size) := z₈
      have up : ∀ c o, c ≠ z → g₅.get? c = some o → g₈.get? c = some o := fun c o c1 e => e₈.extBut _ _ c1 (e₇.extBut _ _ c1 (Heap.get?_push_of_some _ e))
      have nz : g₅.objs.size ≠ z := Nat.ne_of_gt (Heap.lt_size z₅)
      have T₈ : IsPair g₈ g₅.objs.size x y := e₈.extBut _ _ nz (e₇.extBut _ _ nz (Heap.get?_push_size _ rfl))
      rw [hsz] at z₈ T₈
      show Q (.ref g₅.objs.size) _
      rw [hsz]
      exact hQ x y g₈ hx hy z₈ (up _ _ D.TOz t₅) (h1₅.keep fun o e => up _ o D.i1z e) (h2₅.keep fun o e => up _ o D.i2z e) T₈ fun c o c1 c2 c3 c4 e => up c o c1 (u₅ c o c1 c2 c3 c4 e)
theorem zs_pyNext {b1 b2 : Bool} {z TI TO i1 i2 l1 l2 : Addr} {k1 k2 : Nat} {xs ys : Array Value} {a b : Value} {Q : Option Value → Shared → Prop} (hh : A.handled = none) (D : ZipApart z TI TO i1 i2 l1 l2)
    (hz : IsZip s.heap z TI TO .none) (hTI : IsPair s.heap TI (.ref i1) (.ref i2)) (hTO : IsPair s.heap TO a b) (h1 : Src b1 s.heap i1 l1 k1) (h2 : Src b2 s.heap i2 l2 k2) (hl1 : Has b1 s.heap l1 xs) (hl2 : Has b2 s.heap l2 ys)
    (hQ : ∀ x y h', xs[k1]? = some x → ys[k2]? = some y → IsZip h' z TI TO (rawInt s.heap.objs.size) → IsPair h' TO x y → Src b1 h' i1 l1 (k1 + 1) → Src b2 h' i2 l2 (k2 + 1) → IsPair h' s.heap.objs.size x y →
      (∀ c o, c ≠ z → c ≠ TO → c ≠ i1 → c ≠ i2 → s.heap.get? c = some o → h'.get? c = some o) → Q (some (.ref s.heap.objs.size)) { s with heap := h' })
    (hN : ∀ h', xs[k1]? = none ∨ ys[k2]? = none → (∀ c o, c ≠ z → c ≠ TO → c ≠ i1 → c ≠ i2 → s.heap.get? c = some o → h'.get? c = some o) → Q none { s with heap := h' }) : wpAny (model prog w) A (pyNext (.ref z)) Q E s := by
  have hT : s.TypeIs (.ref z) "zip" := ⟨_, hz, rfl⟩
  unfold pyNext
  refine wpAny_bind (wpAny_attempt (wpAny_callSpecial?_slot (name := Str.ofString "__next__") hT F.slot_zip_next
    (wpAny_call_entry F.slot_zip_next hT F.entry_zip_next (zs_next (Q := fun v s' => wpAny _ _ (pure (some v)) Q E s') hh D hz hTI hTO h1 h2 hl1 hl2 (fun x y h' a1 a2 a3 a4 a5 a6 a7 a8 => wpAny_pure (hQ x y h' a1 a2 a3 a4 a5 a6 a7 a8)) fun h' e hen hk he => ?_) (F.args_zip_next_1 _))))
  obtain ⟨o, ho, hc⟩ := he
  exact wpAny_bind (wpAny_isInstance (T := "StopIteration") (b := true) ⟨o, ho, hc⟩ isSubtype_stop (wpAny_pure (hN _ hen hk)))
end
end Nd

set_option maxRecDepth 100000
set_option maxHeartbeats 4000000
namespace Nd
open PySem PySem.Spec PyProof.Rows L2 Ly LamX PySem.W
def zo1 (l1 : Addr) : Obj := { cls := .type "list_iterator", data := .fields #[.ref l1, .int 0 0] }
def zo2 (l2 : Addr) : Obj := { cls := .type "tuple_iterator", data := .fields #[.ref l2, .int 0 0] }
def zo3 (a b : Addr) : Obj := { cls := .type "tuple", data := .seq #[.ref a, .ref b] }
def zo4 : Obj := { cls := .type "tuple", data := .seq #[.none, .none] }
def zo5 (a b : Addr) : Obj := { cls := .type "zip", data := .fields #[.none, .bool false, .bool false, .ref a, .ref b] }
/-- the heap behind zip(l1, l2) -/
def zh (h : Heap) (l1 l2 n1 n2 n3 : Addr) : Heap := ((((h.push (zo1 l1)).push (zo2 l2)).push (zo3 h.objs.size n1)).push zo4).push (zo5 n2 n3)
theorem meets_zipLT_new (l1 l2 : Addr) (xs ys : Array Value) :
    Meets (Builtin.«zip.__new__» ⟨[.type "zip", .ref l1, .ref l2], []⟩) (fun _ R s => s.heap.IsList l1 xs ∧ s.heap.IsTuple l2 ys ∧
      ∀ n1 n2 n3 n4, n1 = s.heap.objs.size + 1 → n2 = s.heap.objs.size + 2 → n3 = s.heap.objs.size + 3 → n4 = s.heap.objs.size + 4 → R (.ok (.ret (.ref n4))) { s with heap := zh s.heap l1 l2 n1 n2 n3 }) :=
  .of_wp fun prog w A R s h => by
    obtain ⟨hp, g, d, tk, os⟩ := s; obtain ⟨hl1, hl2, h⟩ := h
    have hsub := sub_zip
    have hL1 : Heap.IsList (Shared.heap ⟨hp, g, d, tk, os⟩) l1 xs := hl1
    have hL2 : Heap.IsTuple (Shared.heap ⟨hp.push { cls := .type "list_iterator", data := .fields #[.ref l1, .int 0 0] }, g, d, tk, os⟩) l2 ys := Heap.IsTuple.push hl2 _
    wp_walk using wpAny_pyIter_list hL1, wpAny_pyIter_tuple hL2
    refine ⟨_, rfl, ?_⟩
    have e := h (hp.push (zo1 l1)).objs.size ((hp.push (zo1 l1)).push (zo2 l2)).objs.size (((hp.push (zo1 l1)).push (zo2 l2)).push (zo3 hp.objs.size (hp.push (zo1 l1)).objs.size)).objs.size
      ((((hp.push (zo1 l1)).push (zo2 l2)).push (zo3 hp.objs.size (hp.push (zo1 l1)).objs.size)).push zo4).objs.size (Heap.size_push ..) (by rw [Heap.size_push, Heap.size_push]) (by rw [Heap.size_push, Heap.size_push, Heap.size_push]) (by rw [Heap.size_push, Heap.size_push, Heap.size_push, Heap.size_push])
    exact e
section
variable {prog : Program} {w : World} {A : Around} {E : Value → Shared → Prop} {s : Shared}
theorem call_zipLT {l1 l2 : Addr} {xs ys : Array Value} {Q : Value → Shared → Prop} (hl1 : s.heap.IsList l1 xs) (hl2 : s.heap.IsTuple l2 ys)
    (h : ∀ h', IsZip h' (s.heap.objs.size + 4) (s.heap.objs.size + 2) (s.heap.objs.size + 3) .none → IsPair h' (s.heap.objs.size + 2) (.ref s.heap.objs.size) (.ref (s.heap.objs.size + 1)) → IsPair h' (s.heap.objs.size + 3) .none .none →
      h'.IsListIter s.heap.objs.size l1 0 → h'.IsTupleIter (s.heap.objs.size + 1) l2 0 → (∀ c o, s.heap.get? c = some o → h'.get? c = some o) → Q (.ref (s.heap.objs.size + 4)) { s with heap := h' }) :
    wpAny (model prog w) A (call (.type "zip") [.ref l1, .ref l2]) Q E s := by
  refine callType_new F.called_zip (by decide) (F.typeCall_zip_2 _ _) (F.newCall_zip_2 _ _) (fun obj => F.args_object_init_3 obj _ _) F.entry_zip_new (meets_zipLT_new l1 l2 xs ys) ⟨hl1, hl2, fun n1 n2 n3 n4 e1 e2 e3 e4 => ?_⟩
  subst e1 e2 e3 e4
  have p : ∀ {g : Heap} {o' : Obj} {c : Addr} {o : Obj}, g.get? c = some o → (g.push o').get? c = some o := fun e => Heap.get?_push_of_some _ e
  have top : ∀ {g : Heap} {o' : Obj} (n : Nat), g.objs.size = n → o'.isFreed = false → (g.push o').get? n = some o' := fun n e f => by subst e; exact Heap.get?_push_size _ f
  have s1 : (s.heap.push (zo1 l1)).objs.size = s.heap.objs.size + 1 := Heap.size_push ..
  have s2 : ((s.heap.push (zo1 l1)).push (zo2 l2)).objs.size = s.heap.objs.size + 2 := by rw [Heap.size_push, s1]
  have s3 : (((s.heap.push (zo1 l1)).push (zo2 l2)).push (zo3 s.heap.objs.size (s.heap.objs.size + 1))).objs.size = s.heap.objs.size + 3 := by rw [Heap.size_push, s2]
  have s4 : ((((s.heap.push (zo1 l1)).push (zo2 l2)).push (zo3 s.heap.objs.size (s.heap.objs.size + 1))).push zo4).objs.size = s.heap.objs.size + 4 := by rw [Heap.size_push, s3]
  have g5 : (zh s.heap l1 l2 (s.heap.objs.size + 1) (s.heap.objs.size + 2) (s.heap.objs.size + 3)).get? (s.heap.objs.size + 4) = some (zo5 _ _) := top _ s4 rfl
  show _ ∧ _
  exact ⟨⟨_, g5, rfl⟩, h _ g5 (p (p (top _ s2 rfl))) (p (top _ s3 rfl)) ⟨_, p (p (p (p (top _ rfl rfl)))), rfl, rfl⟩ ⟨_, p (p (p (top _ s1 rfl))), rfl, rfl⟩ fun c o x => p (p (p (p (p x))))⟩
end
/-- the list at a and the tuple at b as they stand at each turn, the items in new pairs -/
def ItzM (K : PySem.W.Frag) (a b : Addr) : It where
  go i H := ∃ (xs ys : List V) (x y : V), SqL K H a xs ∧ SqT K H b ys ∧ xs[i]? = some x ∧ ys[i]? = some y
  yld i H v H' := ∃ T x y, v = .ref T ∧ H T = none ∧ H' = upd H T (.tup [x, y]) ∧ (∀ xs, SqL K H a xs → xs[i]? = some x) ∧ ∀ ys, SqT K H b ys → ys[i]? = some y
  stop i H := ∃ xs ys : List V, SqL K H a xs ∧ SqT K H b ys ∧ (xs.length ≤ i ∨ ys.length ≤ i)
theorem rel_at {vs : List V} {us : List Value} (r : Vals vs us) {i : Nat} {u : Value} (h : us.toArray[i]? = some u) : ∃ x, vs[i]? = some x ∧ RelV x u := by
  have hl := r.length
  have h' : us[i]? = some u := by simpa using h
  obtain ⟨hi, _⟩ := List.getElem?_eq_some_iff.mp h'
  have hi2 : i < vs.length := by omega
  obtain ⟨u', hu', ru⟩ := r.get (List.getElem?_eq_getElem hi2)
  rw [h'] at hu'
  cases hu'
  exact ⟨_, List.getElem?_eq_getElem hi2, ru⟩
/-- the chain of a zip's own objects -/
abbrev zch (z TI TO i1 i2 : Addr) : List Addr := [z, TI, TO, i1, i2]
theorem zch_cases {z TI TO i1 i2 c : Addr} (h : c ∈ zch z TI TO i1 i2) : c = z ∨ c = TI ∨ c = TO ∨ c = i1 ∨ c = i2 := by simpa [zch] using h
theorem not_zch {z TI TO i1 i2 c : Addr} (h : c ∉ zch z TI TO i1 i2) : c ≠ z ∧ c ≠ TI ∧ c ≠ TO ∧ c ≠ i1 ∧ c ≠ i2 := by simpa [zch, not_or] using h
theorem turn_zipM {P : Program} {w : World} {K : PySem.W.Frag} {elts : List Expr} {kk : Nat} {tpos : Pos} {a b z TI TO i1 i2 : Addr} (D : ZipApart z TI TO i1 i2 a b) :
    Turn P w K (.Tuple elts kk tpos) (ItzM K a b) (zch z TI TO i1 i2) z (fun i h => IsZip h z TI TO .none ∧ IsPair h TI (.ref i1) (.ref i2) ∧ (∃ x y, IsPair h TO x y) ∧ Src false h i1 a i ∧ Src true h i2 b i) where
  mem := List.mem_cons_self ..
  obj := fun i h st c hc => by
    obtain ⟨hz, hTI, ⟨x, y, hTO⟩, h1, h2⟩ := st
    rcases zch_cases hc with q | q | q | q | q
    · rw [q]; exact ⟨_, hz, fun v q => nomatch q⟩
    · rw [q]; exact ⟨_, hTI, fun v q => nomatch q⟩
    · rw [q]; exact ⟨_, hTO, fun v q => nomatch q⟩
    · rw [q]; exact h1.obj
    · rw [q]; exact h2.obj
  keep := fun i h h' st k => by
    obtain ⟨hz, hTI, ⟨x, y, hTO⟩, h1, h2⟩ := st
    exact ⟨k z (by simp) _ hz, k TI (by simp) _ hTI, ⟨x, y, k TO (by simp) _ hTO⟩, h1.keep fun o q => k i1 (by simp) o q, h2.keep fun o q => k i2 (by simp) o q⟩
  item := by
    intro X hP hw hK hc i pins s σ H E I hf st hg
    subst hP hw hK
    obtain ⟨hz, hTI, ⟨x0, y0, hTO⟩, h1, h2⟩ := st
    obtain ⟨xs, ys, x, y, hqx, hqy, hx, hy⟩ := hg
    obtain ⟨its, rv, p, _⟩ := I.list hqx
    obtain ⟨its2, rv2, p2, _⟩ := I.tuple hqy
    have hlt : ∀ c, c ∈ zch z TI TO i1 i2 → c < s.heap.objs.size := fun c hc => by
      rcases zch_cases hc with q | q | q | q | q
      · rw [q]; exact Heap.lt_size hz
      · rw [q]; exact Heap.lt_size hTI
      · rw [q]; exact Heap.lt_size hTO
      · rw [q]; obtain ⟨_, e, _⟩ := h1.obj; exact Heap.lt_size e
      · rw [q]; obtain ⟨_, e, _⟩ := h2.obj; exact Heap.lt_size e
    refine zs_pyNext (b1 := false) (b2 := true) (I.ok.hd hc) D hz hTI hTO h1 h2 (show s.heap.IsList a its.toArray from p.isList) (show s.heap.IsTuple b its2.toArray from p2) (fun u u2 h' hu hu2 z' TO' h1' h2' hT hk => ?_) fun h' hen hk => ?_
    · obtain ⟨x', hx', ru⟩ := rel_at rv hu
      obtain ⟨y', hy', ru2⟩ := rel_at rv2 hu2
      rw [hx] at hx'
      rw [hy] at hy'
      cases hx'
      cases hy'
      refine ⟨_, rfl, wpAny_letOwnedTupleGo_zip (s := { s with heap := h' }) z' fun h'' z'' sb => ?_⟩
      have hT2 : IsPair h'' s.heap.objs.size u u2 := (sb.2 _ (Nat.ne_of_gt (Heap.lt_size hz))).trans hT
      have new : ObjOk X.prog X.w (upd H s.heap.objs.size (.tup [x, y])) h'' s.heap.objs.size (.tup [x, y]) := ⟨by show 2 ≤ sizeLine; decide, [u, u2], .cons ru (.cons ru2 .nil), ⟨_, hT2, rfl, _, rfl⟩⟩
      have I1 : Inv X pins σ (upd H s.heap.objs.size (.tup [x, y])) { s with heap := h'' } :=
        I.turnedNew (t' := s.toks) (ch := zch z TI TO i1 i2) (fun c o hb q => (sb.2 c (not_zch hb).1).trans (hk c o (not_zch hb).1 (not_zch hb).2.2.1 (not_zch hb).2.2.2.1 (not_zch hb).2.2.2.2 q)) hf (Nat.le_refl _) new
      refine ⟨.ref s.heap.objs.size, _, I1, rfl, ⟨_, x, y, rfl, I.hok.fresh (Nat.le_refl _), rfl, fun l hl => by rw [I.list_inj hl hqx]; exact hx, fun l hl => by rw [I.tuple_inj hl hqy]; exact hy⟩, ⟨z'', (sb.2 _ D.TIz).trans (hk _ _ D.TIz D.TITO D.TIi1 D.TIi2 hTI), ⟨u, u2, (sb.2 _ D.TOz).trans TO'⟩, h1'.keep fun o q => (sb.2 _ D.i1z).trans q, h2'.keep fun o q => (sb.2 _ D.i2z).trans q⟩, fun c hcm => ?_⟩
      rw [upd_ne (Nat.ne_of_lt (hlt c hcm))]
      exact (hf c hcm).1
    · exfalso
      obtain ⟨u, hu, _⟩ := rv.get hx
      obtain ⟨u2, hu2, _⟩ := rv2.get hy
      rcases hen with q | q
      · simp [hu] at q
      · simp [hu2] at q
  done := by
    intro X hP hw hK hc i pins s σ H E I hf st hg
    subst hP hw hK
    obtain ⟨hz, hTI, ⟨x0, y0, hTO⟩, h1, h2⟩ := st
    obtain ⟨xs, ys, hqx, hqy, hend⟩ := hg
    obtain ⟨its, rv, p, _⟩ := I.list hqx
    obtain ⟨its2, rv2, p2, _⟩ := I.tuple hqy
    refine zs_pyNext (b1 := false) (b2 := true) (I.ok.hd hc) D hz hTI hTO h1 h2 (show s.heap.IsList a its.toArray from p.isList) (show s.heap.IsTuple b its2.toArray from p2) (fun u u2 h' hu hu2 z' TO' h1' h2' hT hk => ?_) fun h' hen hk => ?_
    · exfalso
      obtain ⟨x', hx', _⟩ := rel_at rv hu
      obtain ⟨y', hy', _⟩ := rel_at rv2 hu2
      obtain ⟨e1, _⟩ := List.getElem?_eq_some_iff.mp hx'
      obtain ⟨e2, _⟩ := List.getElem?_eq_some_iff.mp hy'
      omega
    · exact ⟨rfl, I.turnedL (t' := s.toks) (ch := zch z TI TO i1 i2) (fun c o hb q => hk c o (not_zch hb).1 (not_zch hb).2.2.1 (not_zch hb).2.2.2.1 (not_zch hb).2.2.2.2 q) hf⟩
  self := fun A i s Q E st h => wpAny_pyIter_zip st.1 h
/-- a loop over zip of a list and a tuple of one length -/
theorem for_zipM {K : PySem.W.Frag} {a b : Addr} {xs ys : List V} {g : TG} {tb : TS} {D : Ends} {σ : L2.St} {H : Hp} (hl : xs.length = ys.length) (Pv : Nat → L2.St → Hp → Prop) (h0 : Pv 0 σ H) (hq : ∀ i σ H, Pv i σ H → SqL K H a xs ∧ SqT K H b ys)
    (hs : ∀ (i : Nat) (x y : V) (T : Addr) (σ : L2.St) (H : Hp), xs[i]? = some x → ys[i]? = some y → Pv i σ H → H T = none → g (.ref T) σ (upd H T (.tup [x, y])) fun σ2 H2 => tb { D with nx := Pv (i + 1), ct := Pv (i + 1), bk := D.nx } σ2 H2) (hd : ∀ σ H, Pv xs.length σ H → D.nx σ H) :
    ∃ W : Nat → Nat → L2.St → Hp → Prop, (∃ m, W 0 m σ H) ∧ ∀ i m σ H, W i m σ H →
      ((ItzM K a b).stop i H ∧ D.nx σ H) ∨ ((ItzM K a b).go i H ∧ ∃ N : L2.St → Hp → Prop, (∀ σ' H', N σ' H' → ∃ m', m' < m ∧ W (i + 1) m' σ' H') ∧ ∀ v H', (ItzM K a b).yld i H v H' → g v σ H' fun σ2 H2 => tb { D with nx := N, ct := N, bk := D.nx } σ2 H2) := by
  refine ⟨fun i m σ H => m + i = xs.length ∧ Pv i σ H, ⟨xs.length, rfl, h0⟩, ?_⟩
  rintro i m σ H ⟨hm, p⟩
  obtain ⟨qx, qy⟩ := hq i σ H p
  cases m with
  | zero =>
    obtain rfl : i = xs.length := by omega
    exact .inl ⟨⟨xs, ys, qx, qy, Or.inl (Nat.le_refl _)⟩, hd σ H p⟩
  | succ m =>
    have hx : xs[i]? = some xs[i] := List.getElem?_eq_getElem (by omega)
    have hy : ys[i]? = some ys[i] := List.getElem?_eq_getElem (by omega)
    refine .inr ⟨⟨xs, ys, _, _, qx, qy, hx, hy⟩, Pv (i + 1), fun σ' H' p' => ⟨m, by omega, by omega, p'⟩, fun v H' y => ?_⟩
    obtain ⟨T, x', y', rfl, hT, rfl, f1, f2⟩ := y
    exact hs i x' y' T σ H (f1 xs qx) (f2 ys qy) p hT
end Nd

set_option maxRecDepth 100000
set_option maxHeartbeats 4000000
namespace Nd
open PySem PySem.Spec PyProof.Rows L2 Ly LamX PySem.W
def iZipM (K : PySem.W.Frag) (ta : TA) : TI := fun σ H R => ta σ H fun vs H1 => ∃ a b xs ys, vs = [.ref a, .ref b] ∧ SqL K H1 a xs ∧ SqT K H1 b ys ∧ R (ItzM K a b) H1
theorem pi_zipM {X : Cx} {e e2 : Expr} {ta : TA} {p pos tpos : Pos} {elts : List Expr} {kk : Nat} (hg : Gl X "zip") (hm : X.mg "zip" = none) (ha : PA X [e, e2] ta)
    (hs : starEach [e, e2] X.env = (false, eval e X.env) :: starEach [e2] X.env := by rfl) (hpl : (backTo pos (starEach [e2] X.env)).any (·.1) = false := by rfl) :
    PI X (.Tuple elts kk tpos) (.Call (.Name "zip" p) [e, e2] [] pos) (iZipM X.K ta) := by
  refine ⟨fun pins s σ H R I h => Call_ (ld_blt I hg hm PyProof.Rows.boot_zip (PyProof.Rows.callWith_type1 (thn (ha.run pos pins s σ H _ I h) fun us s1 ⟨vs, H1, I1, r1, q1⟩ => ?_) hs hpl))⟩
  obtain ⟨a, b, xs, ys, rfl, hqx, hqy, q⟩ := q1
  obtain ⟨its, rv, p1, _⟩ := I1.list hqx
  obtain ⟨its2, rv2, p2, _⟩ := I1.tuple hqy
  cases r1 with
  | cons r rr =>
  cases rr with
  | cons r' rr =>
    cases rr
    cases r
    cases r'
    obtain ⟨o2, ho2, _⟩ := id p2
    refine call_zipLT p1.isList (show s1.heap.IsTuple b its2.toArray from p2) fun h' hz hTI hTO h1 h2 hk => wpAny_pyIter_zip hz ?_
    have I2 : Inv X pins σ H1 { s1 with heap := h' } := I1.kept (t' := s1.toks) hk
    refine ⟨s1.heap.objs.size + 4, zch (s1.heap.objs.size + 4) (s1.heap.objs.size + 2) (s1.heap.objs.size + 3) s1.heap.objs.size (s1.heap.objs.size + 1), _, _, H1, rfl, I2, turn_zipM (PySem.W.ktu_apart s1.heap.objs.size a b p1.lt (Heap.lt_size ho2)), ⟨hz, hTI, ⟨_, _, hTO⟩, h1, h2⟩, fun c hcm => ?_, q⟩
    have hle : s1.heap.objs.size ≤ c := by
      rcases zch_cases hcm with q | q | q | q | q
      · rw [q]; exact Nat.le_add_right _ _
      · rw [q]; exact Nat.le_add_right _ _
      · rw [q]; exact Nat.le_add_right _ _
      · rw [q]; exact Nat.le_refl _
      · rw [q]; exact Nat.le_add_right _ _
    exact I1.fpOk hle (I1.hok.fresh hle)
end Nd

set_option maxRecDepth 100000
set_option maxHeartbeats 4000000
namespace K82
open PySem L2 Ly
local macro_rules | `(tactic| walk_at "nx") => `(tactic| dsimp only [tNext])
section
variable {P : Program} {w : World} {K : PySem.W.Frag} {mg : Str → Option Value} {base : Heap} {ad : Adr}
theorem sc_number_of : FnScope ["word", "digit"] ["word"] (defScope s_number_of) := ⟨rfl, rfl, rfl, by decide +kernel, rfl, by decide +kernel, by decide +kernel⟩
theorem ok_num {f : Addr} {fd : FuncData} (F : Fun K "number_of" "number_of" s_number_of f fd) (T : Txt K w mg ad) : FnOk P w K mg base CX0 2 f fd ["word"] spNum := by
  refine F.ok sc_number_of (fun vs H Q E h => ?_) (fun cdv A outer s H vs Q E hr h => ?_)
  · obtain ⟨z, rfl, _⟩ := h
    rfl
  · obtain ⟨z, rfl, hz, k⟩ := h
    refine ⟨_, (pss_cons (ps_if (PW.pt (pw_or (pt_not (pt_chain op_le op_le pe_int (pe_callB call_len_str (by rfl) T.n_len (by decide +kernel) (pa_cons (pv 0) pa_nil)) pe_int)) (pw_or1 (pt_not (pt_val (pe_callB (cr_all rfl) (by rfl) T.n_all (by decide +kernel) (pa_cons (pe_lc (own := [("digit", 1)]) rfl sc_number_of.nd (pi_str (pv 0)) (blkOk_by (own := [("digit", 1)]) (N := ["word", "digit"]) (sc := defScope s_number_of) (by decide +kernel)) (fun _ _ _ _ _ => (pg_name (i := 1) sc_number_of.nd rfl (Or.inl rfl))) (fun _ _ _ _ _ => pts_nil) (fun _ _ _ _ _ => (pe_cmpR op_in_sign (pv 1) (pe_glob (v := .str "0123456789") rfl T.g_DIGITS ⟨_, rfl⟩) (by rfl)))) pa_nil))))))) (pss_one (ps_ret pe_non)) pss_nil)
    (pss_cons (ps_if (PW.pt (pw_and (pt_cmpR op_eq (pe_ix ix_str (pv 0) pe_int (fun _ _ => rfl)) pe_str (nomark _)) (pw_and1 (pt_cmpR op_gt (pe_callB call_len_str (by rfl) T.n_len (by decide +kernel) (pa_cons (pv 0) pa_nil)) pe_int (nomark _))))) (pss_one (ps_ret pe_non)) pss_nil)
    (pss_one (ps_ret (pe_ifExp (pt_cmpR op_lt (pe_callTy call_int_str (by rfl) T.n_int (by decide +kernel) (pa_cons (pv 0) pa_nil)) (pe_glob (v := .int 4294967296) rfl T.g_MODULUS ⟨_, rfl⟩) (nomark _)) (pe_callTy call_int_str (by rfl) T.n_int (by decide +kernel) (pa_cons (pv 0) pa_nil)) pe_non))))), ?_⟩
    have hzl : z.length ≤ sizeLine := Nat.le_trans hz (by decide)
    -- 1 <= len(word) <= 10
    have fail : numOk z = false → ∀ H', Same H H' → Q .non H' := fun h H' s => by
      have q := k H' s
      rw [numOf_none h] at q
      exact q
    refine ⟨_, rfl, z, rfl, hzl, _, _, rfl, rfl, _, rfl, ?_⟩
    by_cases c1 : (1 : Int) ≤ (z.length : Int)
    case neg =>
      rw [decide_eq_false c1]
      refine iteF ⟨_, rfl, iteT (iteT (fail ?_ _ (Same.refl H)))⟩
      unfold numOk
      rw [decide_eq_false (show ¬ 1 ≤ z.length by omega)]
      rfl
    rw [decide_eq_true c1]
    refine iteT ⟨_, _, rfl, rfl, _, rfl, ?_⟩
    by_cases c2 : (z.length : Int) ≤ 10
    case neg =>
      rw [decide_eq_false c2]
      refine iteT (iteT (fail ?_ _ (Same.refl H)))
      unfold numOk
      rw [decide_eq_false (show ¬ z.length ≤ 10 by omega)]
      simp
    rw [decide_eq_true c2]
    refine iteF ?_
    -- all([digit in DIGITS for digit in word])
    refine ⟨_, rfl, z, rfl, fun D hD => lc_it walk_str (fun i H' => Same H H' ∧ H' D = some (.lst ((z.cps.toList.take i).map fun c => V.bl (isDig c)))) ⟨same_new hD, upd_same⟩ (fun _ _ _ _ => True.intro) ?_ ?_⟩
    · rintro i x H1 H2 hi ⟨s1, h1⟩ ⟨rfl, c, hc, rfl⟩
      refine ⟨rfl, ?_⟩
      dsimp only [tYes]
      refine iteT ?_
      refine ⟨_, rfl, c, "0123456789", rfl, rfl, _, h1, szt ?_, same_mut s1 hD, ?_⟩
      · rw [List.length_map, List.length_take]
        have e : z.cps.size = z.length := rfl
        omega
      · rw [upd_same, dig_in]
        have e : z.cps.toList[i]? = some c := by simpa using hc
        rw [List.take_add_one, e]
        simp
    rintro H1 ⟨s1, h1⟩
    have hfull : (z.cps.toList.take z.cps.size) = z.cps.toList := by rw [show z.cps.size = z.cps.toList.length by simp, List.take_length]
    rw [hfull] at h1
    refine ⟨D, z.cps.toList.map isDig, rfl, SqL.of (by rw [h1, List.map_map]; rfl), _, rfl, ?_⟩
    have hid : (z.cps.toList.map isDig).all id = z.cps.toList.all isDig := by rw [List.all_map]; rfl
    rw [hid]
    cases c3 : z.cps.toList.all isDig with
    | false =>
      refine iteT (fail ?_ _ s1)
      unfold numOk
      rw [c3]
      simp
    | true =>
      refine iteF ?_
      walk_at "nx"
      have hn : 0 < z.cps.toList.length := by rw [← str_len_list]; omega
      have h0 : z.cps.toList.head? = some (z.cps.toList[0]) := by rw [List.head?_eq_getElem?, List.getElem?_eq_getElem hn]
      have hl10 : z.length ≤ 10 := by omega
      have hl1 : 1 ≤ z.length := by omega
      have hint := int_dig c3 hl1 hl10
      -- word[0] == "0" and len(word) > 1
      have rest : ∀ H2, Same H H2 → ¬ (z.cps.toList.head? = some 48 ∧ 1 < z.length) → tRet (tIf (tTest (tOp (rI0 fun i j => V.bl (decide (i < j))) (tCB (fun xs H Q => ∃ a n, xs = [V.str a] ∧ PySem.intText? a = some n ∧ a.length ≤ 640 ∧ Q (V.int n) H) (tCons (tVar 0) tNil)) (tC (V.int 4294967296))))
          (tCB (fun xs H Q => ∃ a n, xs = [V.str a] ∧ PySem.intText? a = some n ∧ a.length ≤ 640 ∧ Q (V.int n) H) (tCons (tVar 0) tNil)) (tC V.non)) { nx := fun _ H' => Q V.non H', rt := Q } [some (V.str z), none] H2 := by
        intro H2 s2 hz2
        have hzb : (!(decide (z.cps.toList.head? = some 48) && decide (1 < z.length))) = true := by
          rw [Bool.not_eq_true', Bool.and_eq_false_iff]
          by_cases q : z.cps.toList.head? = some 48
          · exact .inr (decide_eq_false fun q2 => hz2 ⟨q, q2⟩)
          · exact .inl (decide_eq_false q)
        refine ⟨_, rfl, z, numVal z, rfl, hint, Nat.le_trans hl10 (by decide), numVal z, 4294967296, rfl, rfl, ?_⟩
        refine ⟨decide (numVal z < 4294967296), rfl, ?_⟩
        generalize hb : decide (numVal z < 4294967296) = bb
        cases bb with
        | true =>
          refine iteT ⟨_, rfl, z, _, rfl, hint, Nat.le_trans hl10 (by decide), ?_⟩
          have e : numOk z = true := by
            unfold numOk
            rw [decide_eq_true hl1, decide_eq_true hl10, c3, hzb, hb]
            rfl
          have w := k H2 s2
          rw [numOf_some e] at w
          exact w
        | false =>
          refine iteF (fail ?_ _ s2)
          unfold numOk
          rw [hb]
          simp
      refine ⟨_, rfl, z, _, _, rfl, rfl, hzl, atI_nat (j := 0) (List.getElem?_eq_getElem hn), rfl, _, rfl, ite2 (fun q => ?_) (fun q => ?_)⟩
      · have e0 : z.cps.toList[0] = 48 := by
          have q1 : V.str ⟨#[z.cps.toList[0]]⟩ = V.str "0" := of_decide_eq_true q
          have q2 := congrArg (fun s : Str => s.cps.toList) (V.str.inj q1)
          have q3 : (("0" : Str)).cps.toList = [48] := by decide +kernel
          have q4 : [z.cps.toList[0]] = [48] := q2.trans q3
          exact List.head_eq_of_cons_eq q4
        refine ⟨_, rfl, z, rfl, hzl, _, _, rfl, rfl, _, rfl, ite2 (fun q2 => ?_) (fun q2 => ?_)⟩
        · refine fail ?_ _ s1
          unfold numOk
          have q2' : 1 < z.length := by
            have := of_decide_eq_true q2
            omega
          have e1 : z.cps.toList.head? = some 48 := by rw [h0]; exact congrArg some e0
          rw [decide_eq_true e1, decide_eq_true q2']
          simp
        · exact rest _ s1 fun ⟨_, z2⟩ => q2 (decide_eq_true (by omega))
      · refine rest _ s1 fun ⟨z1, _⟩ => q ?_
        rw [h0] at z1
        have e0 : z.cps.toList[0] = 48 := Option.some.inj z1
        have q3 : (("0" : Str)) = ⟨#[48]⟩ := by decide +kernel
        refine decide_eq_true ?_
        have q5 : (⟨#[z.cps.toList[0]]⟩ : Str) = "0" := by rw [q3]; exact congrArg (fun c => (⟨#[c]⟩ : Str)) e0
        exact congrArg V.str q5

theorem sc_is_name : FnScope ["word", "letter"] ["word"] (defScope s_is_name) := ⟨rfl, rfl, rfl, by decide +kernel, rfl, by decide +kernel, by decide +kernel⟩
theorem ok_name {f : Addr} {fd : FuncData} (F : Fun K "is_name" "is_name" s_is_name f fd) (T : Txt K w mg ad) : FnOk P w K mg base CX0 1 f fd ["word"] spName := by
  refine F.ok sc_is_name (fun vs H Q E h => ?_) (fun cdv A outer s H vs Q E hr h => ?_)
  · obtain ⟨z, rfl, _⟩ := h
    rfl
  · obtain ⟨z, rfl, hz, k⟩ := h
    refine ⟨_, (pss_cons (ps_if (PW.pt (pw_or (pt_not (pt_val (pe_callB (call_isiK K) (by rfl) T.n_isinstance (by decide +kernel) (pa_cons (pv 0) (pa_cons (pe_bltn (v := .ty "str") rfl T.n_str (by decide +kernel) rfl) pa_nil))))) (pw_or (pt_not (pt_chain op_le op_le pe_int (pe_callB call_len_str (by rfl) T.n_len (by decide +kernel) (pa_cons (pv 0) pa_nil)) (pe_glob (v := .int 8) rfl T.g_MAX_NAME ⟨_, rfl⟩))) (pw_or1 (pt_cmpR (op_in_seqK K) (pv 0) (pe_glob (v := .ref ad.u_RESERVED) rfl T.g_RESERVED rfl) (by rfl)))))) (pss_one (ps_ret pe_bl)) pss_nil)
    (pss_one (ps_ret (pe_callB (cr_all rfl) (by rfl) T.n_all (by decide +kernel) (pa_cons (pe_lc (own := [("letter", 1)]) rfl sc_is_name.nd (pi_str (pv 0)) (blkOk_by (own := [("letter", 1)]) (N := ["word", "letter"]) (sc := defScope s_is_name) (by decide +kernel)) (fun _ _ _ _ _ => (pg_name (i := 1) sc_is_name.nd rfl (Or.inl rfl))) (fun _ _ _ _ _ => pts_nil) (fun _ _ _ _ _ => (pe_cmpR op_in_sign (pv 1) (pe_glob (v := .str "abcdefghijklmnopqrstuvwxyz") rfl T.g_LETTERS ⟨_, rfl⟩) (by rfl)))) pa_nil))))), ?_⟩
    have hzl : z.length ≤ sizeLine := Nat.le_trans hz (by decide)
    have fail : nameOk z = false → ∀ H', Same H H' → Q (.bl false) H' := fun h H' s => by
      have q := k H' s
      rw [h] at q
      exact q
    refine ⟨_, rfl, V.str z, .ty "str", .type "str", .type "str", true, rfl, .ty _, .base (.str z), kit_str, _, rfl, iteF ?_⟩
    refine ⟨_, rfl, z, rfl, hzl, _, _, rfl, rfl, _, rfl, ?_⟩
    by_cases c1 : (1 : Int) ≤ (z.length : Int)
    case neg =>
      rw [decide_eq_false c1]
      refine iteF ⟨_, rfl, iteT (iteT (fail ?_ _ (Same.refl H)))⟩
      unfold nameOk
      rw [decide_eq_false (show ¬ 1 ≤ z.length by omega)]
      rfl
    rw [decide_eq_true c1]
    refine iteT ⟨_, _, rfl, rfl, _, rfl, ?_⟩
    by_cases c2 : (z.length : Int) ≤ 8
    case neg =>
      rw [decide_eq_false c2]
      refine iteT (iteT (fail ?_ _ (Same.refl H)))
      unfold nameOk
      rw [decide_eq_false (show ¬ z.length ≤ 8 by omega)]
      simp
    rw [decide_eq_true c2]
    refine iteF ?_
    refine ⟨_, rfl, ad.u_RESERVED, reserved.map V.str, rfl, .inr (T.u_RESERVED H), rfl, rfl, _, rfl, ?_⟩
    show if (if false = true then !inV (V.str z) (reserved.map V.str) else inV (V.str z) (reserved.map V.str)) = true then _ else _
    rw [inV_mem]
    have hl1 : 1 ≤ z.length := by omega
    have hl8 : z.length ≤ 8 := by omega
    by_cases c3 : z ∈ reserved
    · rw [decide_eq_true c3]
      refine iteT (fail ?_ _ (Same.refl H))
      unfold nameOk
      rw [decide_eq_true c3]
      simp
    rw [decide_eq_false c3]
    refine iteF ?_
    walk_at "nx"
    refine ⟨_, rfl, z, rfl, fun D hD => lc_it walk_str (fun i H' => Same H H' ∧ H' D = some (.lst ((z.cps.toList.take i).map fun c => V.bl (isLet c)))) ⟨same_new hD, upd_same⟩ (fun _ _ _ _ => True.intro) ?_ ?_⟩
    · rintro i x H1 H2 hi ⟨s1, h1⟩ ⟨rfl, c, hc, rfl⟩
      refine ⟨rfl, ?_⟩
      dsimp only [tYes]
      refine iteT ?_
      refine ⟨_, rfl, c, "abcdefghijklmnopqrstuvwxyz", rfl, rfl, _, h1, szt ?_, same_mut s1 hD, ?_⟩
      · rw [List.length_map, List.length_take]
        have e : z.cps.size = z.length := rfl
        omega
      · rw [upd_same, let_in]
        have e : z.cps.toList[i]? = some c := by simpa using hc
        rw [List.take_add_one, e]
        simp
    rintro H1 ⟨s1, h1⟩
    have hfull : (z.cps.toList.take z.cps.size) = z.cps.toList := by rw [show z.cps.size = z.cps.toList.length by simp, List.take_length]
    rw [hfull] at h1
    refine ⟨D, z.cps.toList.map isLet, rfl, SqL.of (by rw [h1, List.map_map]; rfl), ?_⟩
    have hid : (z.cps.toList.map isLet).all id = z.cps.toList.all isLet := by rw [List.all_map]; rfl
    rw [hid]
    have kk := k _ s1
    unfold nameOk at kk
    rw [decide_eq_true hl1, decide_eq_true hl8, decide_eq_false c3] at kk
    exact kk

theorem sc_Block_init : FnScope ["self", "name", "inputs", "outputs"] ["self", "name", "inputs", "outputs"] (defScope s_Block_init) := ⟨rfl, rfl, rfl, by decide +kernel, rfl, by decide +kernel, by decide +kernel⟩
theorem ok_BI {f : Addr} {fd : FuncData} (F : Fun K "__init__" "Block.__init__" s_Block_init f fd) (T : Txt K w mg ad) : FnOk P w K mg base CX0 1 f fd ["self", "name", "inputs", "outputs"] (spBI K ad.C_Primitive) := by
  refine F.ok sc_Block_init (fun vs H Q E h => ?_) (fun cdv A outer s H vs Q E hr h => ?_)
  · obtain ⟨x, dx, i, o, n, xs, ys, rfl, _⟩ := h
    rfl
  · obtain ⟨x, dx, i, o, n, xs, ys, rfl, hx, hi, ho, k⟩ := h
    refine ⟨_, (pss_cons (ps_fldK K (pv 0) (pv 1) rfl)
    (pss_cons (ps_fldK K (pv 0) (pe_callTy (call_tupleK K) (by rfl) T.n_tuple (by decide +kernel) (pa_cons (pv 2) pa_nil)) rfl)
    (pss_one (ps_fldK K (pv 0) (pe_callTy (call_tupleK K) (by rfl) T.n_tuple (by decide +kernel) (pa_cons (pv 3) pa_nil)) rfl)))), ?_⟩
    have nt : ∀ (fs : List (Str × V)) (xs : List V), HO.ins ad.C_Primitive dx fs ≠ .tup xs := fun _ _ z => by cases z
    have nf : ∀ (fs : List (Str × V)) ob xs, HO.ins ad.C_Primitive dx fs ≠ .frz ob xs := fun _ _ _ z => by cases z
    refine ⟨_, rfl, _, rfl, x, _, dx, _, rfl, hx, T.cl_Primitive, T.na_Primitive_name, (by decide), ?_⟩
    rw [fsB_put1]
    have hx1 : upd H x (.ins ad.C_Primitive dx (fs1 n)) x = some (.ins ad.C_Primitive dx (fs1 n)) := upd_same
    have hi1 := sqt_upd (u := .ins ad.C_Primitive dx (fs1 n)) hi hx (nt _) (nf _)
    have ho1 := sqt_upd (u := .ins ad.C_Primitive dx (fs1 n)) ho hx (nt _) (nf _)
    refine ⟨_, rfl, _, _, rfl, .inr ⟨hi1, _, rfl, x, _, dx, _, rfl, hx1, T.cl_Primitive, T.na_Primitive_inputs, (by show 1 < 1000; decide), ?_⟩⟩
    rw [fsB_put2, upd_upd]
    have ho2 := sqt_upd (u := .ins ad.C_Primitive dx (fs2 n i)) ho hx (nt _) (nf _)
    refine ⟨_, rfl, _, _, rfl, .inr ⟨ho2, _, rfl, x, _, dx, _, rfl, upd_same, T.cl_Primitive, T.na_Primitive_outputs, (by show 2 < 1000; decide), ?_⟩⟩
    rw [fsB_put3, upd_upd]
    exact k
theorem sc_Primitive_init : SupX.SScope ["self", "name", "constant"] ["self", "name", "constant"] (defScope s_Primitive_init) := ⟨rfl, rfl, rfl, by decide +kernel, rfl, by decide +kernel, by decide +kernel, by decide +kernel, by decide +kernel, by decide +kernel⟩
theorem ok_PI {f cc cda : Addr} {fd fdB : FuncData} (F : SupX.FunS P K mg "__init__" "Primitive.__init__" s_Primitive_init ad.C_Primitive f cc cda ad.f_Block_init "self" fd) (T : Txt K w mg ad) (G_B : FnOk P w K mg base CX0 1 ad.f_Block_init fdB ["self", "name", "inputs", "outputs"] (spBI K ad.C_Primitive)) (b_B : Binds K fdB ["self", "name", "inputs", "outputs"] []) :
    FnOk P w K mg base CX0 2 f fd ["self", "name", "constant"] (spPI K ad.C_Primitive) := by
  refine F.ok (k := 1) (rest := (defBody s_Primitive_init).drop 1) sc_Primitive_init rfl rfl G_B (by decide) b_B (fun vs H Q E h => ?_) (fun A outer s H vs Q E hr h => ?_) (fun _ _ => rfl) (fun _ _ => rfl) (fun _ h => by unfold interactive; rw [h]; rfl) (fun _ _ => rfl) (fun _ _ => rfl)
  · obtain ⟨x, dx, n, c, rfl, _⟩ := h
    rfl
  · obtain ⟨x, dx, n, c, rfl, hx, ⟨hn, hc⟩, k⟩ := h
    refine ⟨x, dx, [], _, _, rfl, hx, (pa_cons (pv 1) (pa_cons (pe_ix (ix_tupK K) (pe_ix (ix_kdictK K w) (pe_glob (v := .ref ad.d_PORTS) rfl T.g_PORTS rfl) (pv 1) (fun _ _ => rfl)) pe_int (fun _ _ => rfl)) (pa_cons (pe_ix (ix_tupK K) (pe_ix (ix_kdictK K w) (pe_glob (v := .ref ad.d_PORTS) rfl T.g_PORTS rfl) (pv 1) (fun _ _ => rfl)) pe_int (fun _ _ => rfl)) pa_nil))), (pss_cons (ps_fldK K (pv 0) (pv 2) rfl)
    (pss_one (ps_fldK K (pv 0) (pe_ifExp (pt_cmpR op_isN (pv 2) pe_non (nomark _)) (pv 1) (pe_op op_add_str (pe_op op_add_str (pv 1) pe_str) (pe_callTy call_str_int (by rfl) T.n_str (by decide +kernel) (pa_cons (pv 2) pa_nil)))) rfl))), ?_⟩
    obtain ⟨ins, outs, hp⟩ := names_ports hn
    obtain ⟨t, ti, tO, hd, ht, hi, ho⟩ := T.ports _ _ _ hp
    refine ⟨_, rfl, _, rfl, ad.d_PORTS, n, .ref t, rfl, rfl, hd, _, _, _, _, rfl, rfl, ht _, atI_nat (j := 0) rfl, ?_⟩
    refine ⟨_, rfl, ad.d_PORTS, n, .ref t, rfl, rfl, hd, _, _, _, _, rfl, rfl, ht _, atI_nat (j := 1) rfl, ?_⟩
    refine ⟨x, dx, ti, tO, n, _, _, rfl, hx, hi _, ho _, ?_⟩
    cases c with
    | none =>
      refine ⟨_, rfl, _, rfl, x, _, dx, _, rfl, upd_same, T.cl_Primitive, T.na_Primitive_constant, (by show 3 < 1000; decide), ?_⟩
      rw [fsP_put1, upd_upd]
      refine ⟨_, rfl, rfl, _, rfl, iteT ⟨_, rfl, _, rfl, x, _, dx, _, rfl, upd_same, T.cl_Primitive, T.na_Primitive_text, (by show 4 < 1000; decide), ?_⟩⟩
      rw [fsP_put2, upd_upd]
      exact k _ _ ⟨_, _, hp, hi, ho⟩
    | some v =>
      have hv := hc v rfl
      refine ⟨_, rfl, _, rfl, x, _, dx, _, rfl, upd_same, T.cl_Primitive, T.na_Primitive_constant, (by show 3 < 1000; decide), ?_⟩
      rw [fsP_put1, upd_upd]
      have hnl : n.length ≤ 100 := (show ∀ n ∈ portNames, n.length ≤ 100 by decide +kernel) n hn
      refine ⟨_, rfl, rfl, _, rfl, iteF ?_⟩
      have hls : (Str.ofString (toString v)).length ≤ 10 := PySem.W.KT.len_num hv.1 (by have := hv.2; omega : v < 10 ^ 10)
      have hsl : (n ++ " " : Str).length = n.length + 1 := by rw [PySem.Str.length_append]; rfl
      refine ⟨_, rfl, _, _, rfl, rfl, szl (by show n.length + 1 ≤ _; omega), _, rfl, v, rfl, r32_log hv, _, _, rfl, rfl, szl (by rw [hsl]; omega), ?_⟩
      refine ⟨_, rfl, x, _, dx, _, rfl, upd_same, T.cl_Primitive, T.na_Primitive_text, (by show 4 < 1000; decide), ?_⟩
      rw [fsP_put2, upd_upd]
      exact k _ _ ⟨_, _, hp, hi, ho⟩
theorem sc_is_primitive_text : FnScope ["text", "words"] ["text"] (defScope s_is_primitive_text) := ⟨rfl, rfl, rfl, by decide +kernel, rfl, by decide +kernel, by decide +kernel⟩
theorem ok_ipt {f : Addr} {fd fdN : FuncData} (F : Fun K "is_primitive_text" "is_primitive_text" s_is_primitive_text f fd) (T : Txt K w mg ad) (G_number_of : FnOk P w K mg base CX0 2 ad.f_number_of fdN ["word"] spNum) (b_number_of : Binds K fdN ["word"] []) : FnOk P w K mg base CX0 3 f fd ["text"] spIpt := by
  refine F.ok sc_is_primitive_text (fun vs H Q E h => ?_) (fun cdv A outer s H vs Q E hr h => ?_)
  · obtain ⟨z, rfl, _⟩ := h
    rfl
  · obtain ⟨z, rfl, hz, k⟩ := h
    refine ⟨_, (pss_cons (ps_set (i := 1) sc_is_primitive_text.nd rfl (Or.inl rfl) (pe_split (pv 0) pe_str))
    (pss_cons (ps_if (pt_cmpR (op_in_seqK K) (pe_ix (ix_listK K) (pv 1) pe_int (fun _ _ => rfl)) (pe_tup (pa_cons pe_str (pa_cons pe_str pa_nil))) (by rfl)) (pss_one (ps_ret (pe_and (pe_cmpR op_eq (pe_callB (call_lenK K) (by rfl) T.n_len (by decide +kernel) (pa_cons (pv 1) pa_nil)) pe_int (nomark _)) (pe_one (pe_cmpR op_notN (pe_call G_number_of (hr.mono (by decide)) rfl T.g_number_of T.k_number_of b_number_of .nil pass0 (pa_cons (pe_ix (ix_listK K) (pv 1) pe_int (fun _ _ => rfl)) pa_nil)) pe_non (nomark _)))))) pss_nil)
    (pss_one (ps_ret (pe_and (pe_cmpR op_eq (pe_callB (call_lenK K) (by rfl) T.n_len (by decide +kernel) (pa_cons (pv 1) pa_nil)) pe_int (nomark _)) (pe_one (pe_cmpR (op_in_kd T.d_PORTS) (pe_ix (ix_listK K) (pv 1) pe_int (fun _ _ => rfl)) (pe_glob (v := .ref ad.d_PORTS) rfl T.g_PORTS rfl) (by rfl)))))))), ?_⟩
    refine ⟨_, rfl, ⟨z, rfl⟩, z, " ", rfl, rfl, (by decide +kernel), Nat.le_trans (Nat.add_le_add_right hz 2) (by decide), fun p hp0 => ?_⟩
    have hlens := split_lens (x := z) sp_ne sp_k
    have hne := split_ne (x := z) sp_ne sp_k
    unfold primOf at k
    generalize Txt.split z " " = ws at k hlens hne
    match ws, k, hlens, hne with
    | [], _, _, hne => exact absurd rfl hne
    | n :: r, k, hlens, _ =>
    refine ⟨_, rfl, p, _, _, _, rfl, rfl, SqL.of upd_same, atI_nat (j := 0) rfl, szl (show 2 ≤ 100000 by decide), fun q hq => ?_⟩
    have nqp : p ≠ q := ne_of_none upd_same hq
    refine ⟨q, _, rfl, .inr (SqT.of upd_same), rfl, rfl, _, rfl, ?_⟩
    have hp2 : upd (upd H p (.lst ((n :: r).map V.str))) q (.tup [V.str "const", V.str "delay"]) p = some (.lst ((n :: r).map V.str)) := by rw [upd_ne nqp]; exact upd_same
    have s2 : Same H (upd (upd H p (.lst ((n :: r).map V.str))) q (.tup [V.str "const", V.str "delay"])) := (same_new hp0).trans (same_new hq)
    have hll : ∀ (m : Int), decide (V.int (((n :: r).map V.str).length : Nat) = V.int m) = true → (r.length : Int) + 1 = m := fun m z => by
      have := V.int.inj (of_decide_eq_true z)
      simpa using this
    have hll2 : ∀ (m : Int), ¬ decide (V.int (((n :: r).map V.str).length : Nat) = V.int m) = true → ¬ (r.length : Int) + 1 = m := fun m z q => z (decide_eq_true (by
      rw [List.length_map, List.length_cons, ← q]
      rfl))
    show if (if false = true then !inV (V.str n) [V.str "const", V.str "delay"] else inV (V.str n) [V.str "const", V.str "delay"]) = true then _ else _
    rw [inV_cd]
    cases hk : withK n with
    | true =>
      refine iteT ?_
      refine ⟨_, rfl, p, _, rfl, .inl (SqL.of hp2), rfl, _, rfl, ite2 (fun z1 => ?_) (fun z1 => ?_)⟩
      · have e1 := hll _ z1
        match r, k, hlens, hp2, s2, hq, e1 with
        | [w2], k, hlens, hp2, s2, hq, _ =>
          refine ⟨_, rfl, p, _, _, _, rfl, rfl, SqL.of hp2, atI_nat (j := 1) rfl, w2, rfl, Nat.le_trans (hlens w2 (by simp)) hz, fun H3 s3 => ?_⟩
          have kk := k H3 (s2.trans s3)
          change Q (.bl (if withK n = true then (numOf w2).map (fun v => (n, some v)) else none).isSome) H3 at kk
          rw [if_pos hk, Option.isSome_map] at kk
          refine ⟨rfl, ?_⟩
          cases e : numOf w2 with
          | none => rw [e] at kk; exact kk
          | some v => rw [e] at kk; exact kk
        | [], _, _, _, _, _, e1 => exact absurd e1 (by decide)
        | _ :: _ :: _, _, _, _, _, _, e1 => simp at e1; omega
      · have e1 := hll2 _ z1
        have kk := k _ s2
        have e2 : primWords (n :: r) = none := by
          match r, e1 with
          | [], _ =>
            show (if n ∈ plain7 then some (n, (none : Option Int)) else none) = none
            rw [if_neg (fun q => by rw [plain_noK q] at hk; cases hk)]
          | [_], e1 => exact absurd rfl e1
          | _ :: _ :: _, _ => rfl
        rw [e2] at kk
        exact kk
    | false =>
      refine iteF ?_
      refine ⟨_, rfl, p, _, rfl, .inl (SqL.of hp2), rfl, _, rfl, ite2 (fun z1 => ?_) (fun z1 => ?_)⟩
      · have e1 := hll _ z1
        have e0 : r = [] := by
          match r, e1 with
          | [], _ => rfl
          | _ :: _, e1 => simp at e1; omega
        subst e0
        have kk := k _ s2
        change Q (.bl (if n ∈ plain7 then some (n, (none : Option Int)) else none).isSome) _ at kk
        by_cases hn : n ∈ portNames
        · obtain ⟨ins, outs, hp⟩ := names_ports hn
          obtain ⟨t, ti, tO, ⟨_, _, u, hl, hkl, hns, _⟩, _⟩ := T.ports _ _ _ hp
          refine ⟨_, rfl, p, _, _, _, rfl, rfl, SqL.of hp2, atI_nat (j := 0) rfl, n, _, rfl, rfl, hns, ?_⟩
          rw [if_pos (port_plain hn hk)] at kk
          exact kk
        · obtain ⟨ts, hts, hks⟩ := T.keys
          have hns := nsIn_none T.d_PORTS (l := (portsTab.zip ts).map fun p => (p.1.1, p.2)) (z := n) (by rw [hks, List.map_map]; rfl) (fun p hp e => by
            obtain ⟨q, hq, rfl⟩ := List.mem_map.mp hp
            have h1 : q.1 ∈ portsTab := (List.of_mem_zip (a := q.1) (b := q.2) hq).1
            have h2 : q.1.1 ∈ portNames := (show ∀ p ∈ portsTab, p.1 ∈ portNames by decide +kernel) _ h1
            exact hn (e ▸ h2))
          refine ⟨_, rfl, p, _, _, _, rfl, rfl, SqL.of hp2, atI_nat (j := 0) rfl, n, _, rfl, rfl, hns, ?_⟩
          rw [if_neg (fun q => hn (plain_port q))] at kk
          exact kk
      · have e1 := hll2 _ z1
        have kk := k _ s2
        have e2 : primWords (n :: r) = none := by
          match r, e1 with
          | [], e1 => exact absurd rfl e1
          | [k2], _ =>
            show (if withK n = true then (numOf k2).map (fun v => (n, some v)) else none) = none
            rw [if_neg (by rw [hk]; decide)]
          | _ :: _ :: _, _ => rfl
        rw [e2] at kk
        exact kk
theorem sc_Primitive_parse : FnScope ["cls", "text", "words"] ["cls", "text"] (defScope s_Primitive_parse) := ⟨rfl, rfl, rfl, by decide +kernel, rfl, by decide +kernel, by decide +kernel⟩
theorem ok_parse {f : Addr} {fd fdI fdPI fdN : FuncData} (F : Fun K "parse" "Primitive.parse" s_Primitive_parse f fd) (T : Txt K w mg ad) (G_number_of : FnOk P w K mg base CX0 2 ad.f_number_of fdN ["word"] spNum) (b_number_of : Binds K fdN ["word"] []) (G_is_primitive_text : FnOk P w K mg base CX0 3 ad.f_is_primitive_text fdI ["text"] spIpt) (b_is_primitive_text : Binds K fdI ["text"] [])
    (G_Primitive_init : FnOk P w K mg base CX0 2 ad.f_Primitive_init fdPI ["self", "name", "constant"] (spPI K ad.C_Primitive)) (b_Primitive_init : Binds K fdPI ["self", "name", "constant"] []) : FnOk P w K mg base CX0 4 f fd ["cls", "text"] (spParse K ad.C_Primitive) := by
  refine F.ok sc_Primitive_parse (fun vs H Q E h => ?_) (fun cdv A outer s H vs Q E hr h => ?_)
  · obtain ⟨z, n, c, rfl, _⟩ := h
    rfl
  · obtain ⟨z, n, c, rfl, hz, hp, k⟩ := h
    refine ⟨_, (pss_cons (ps_if (pt_not (pt_val (pe_call G_is_primitive_text (hr.mono (by decide)) rfl T.g_is_primitive_text T.k_is_primitive_text b_is_primitive_text .nil pass0 (pa_cons (pv 1) pa_nil)))) (pss_one ps_never) pss_nil)
    (pss_cons (ps_set (i := 2) sc_Primitive_parse.nd rfl (Or.inl rfl) (pe_split (pv 1) pe_str))
    (pss_one (ps_ret (pe_makeV T.mk_Primitive G_Primitive_init (hr.mono (by decide)) (pv 0) b_Primitive_init .nil pass0 (pa_cons (pe_ix (ix_listK K) (pv 2) pe_int (fun _ _ => rfl)) (pa_cons (pe_ifExp (pt_cmpR op_eq (pe_callB (call_lenK K) (by rfl) T.n_len (by decide +kernel) (pa_cons (pv 2) pa_nil)) pe_int (nomark _)) (pe_call G_number_of (hr.mono (by decide)) rfl T.g_number_of T.k_number_of b_number_of .nil pass0 (pa_cons (pe_ix (ix_listK K) (pv 2) pe_int (fun _ _ => rfl)) pa_nil)) pe_non) pa_nil))))))), ?_⟩
    refine ⟨_, rfl, z, rfl, hz, fun H1 s1 => ⟨_, rfl, ?_⟩⟩
    have hp' : (primOf z).isSome = true := by rw [hp]; rfl
    rw [hp']
    refine iteF ?_
    refine ⟨_, rfl, ⟨z, rfl⟩, z, " ", rfl, rfl, (by decide +kernel), Nat.le_trans (Nat.add_le_add_right hz 2) (by decide), fun p hp0 => ?_⟩
    have hok := primOf_ok hp
    have hlens := split_lens (x := z) sp_ne sp_k
    unfold primOf at hp
    generalize Txt.split z " " = ws at hp hlens
    have fin : ∀ H2, Same H1 H2 → ∀ x dx : Addr, H2 x = none → upd H2 dx (.own x) x = none → H2 dx = none → ∀ i o, (∃ ins outs, (n, ins, outs) ∈ portsTab ∧ (∀ H, SqT K H i (ins.map V.str)) ∧ ∀ H, SqT K H o (outs.map V.str)) → Q (.ref x) (upd (upd H2 dx (.own x)) x (.ins ad.C_Primitive dx (fsP n i o (optV c) (textOf n c)))) := by
      intro H2 s2 x dx hx hx' hdx i o ⟨ins, outs, hpt, hi, ho⟩
      have s12 := s1.trans s2
      exact k x _ (s12.trans ((same_new hdx).trans (same_new hx'))) (s12.free hx) ⟨dx, i, o, upd_same, ins, outs, hpt, hi _, ho _⟩
    match ws, hp, hlens with
    | [n'], hp, hlens =>
      change (if n' ∈ plain7 then some (n', (none : Option Int)) else none) = _ at hp
      split at hp
      case isFalse => cases hp
      cases hp
      refine ⟨_, rfl, rfl, _, rfl, p, _, _, _, rfl, rfl, SqL.of upd_same, atI_nat (j := 0) rfl, _, rfl, p, _, rfl, .inl (SqL.of upd_same), rfl, _, rfl, iteF ?_⟩
      intro x dx hx hdx ne
      refine ⟨x, dx, n, none, rfl, upd_same, hok, fun i o hh => ⟨rfl, ?_⟩⟩
      rw [upd_upd]
      exact fin _ (same_new hp0) x dx hx (by rw [upd_ne ne.symm]; exact hx) hdx i o hh
    | [n', w2], hp, hlens =>
      change (if withK n' = true then (numOf w2).map (fun v => (n', some v)) else none) = _ at hp
      split at hp
      case isFalse => cases hp
      cases e : numOf w2 with
      | none => rw [e] at hp; cases hp
      | some v =>
      rw [e] at hp
      cases hp
      refine ⟨_, rfl, rfl, _, rfl, p, _, _, _, rfl, rfl, SqL.of upd_same, atI_nat (j := 0) rfl, _, rfl, p, _, rfl, .inl (SqL.of upd_same), rfl, _, rfl, iteT ?_⟩
      refine ⟨_, rfl, p, _, _, _, rfl, rfl, SqL.of upd_same, atI_nat (j := 1) rfl, w2, rfl, Nat.le_trans (hlens w2 (by simp)) hz, fun H3 s3 => ?_⟩
      rw [e]
      intro x dx hx hdx ne
      refine ⟨x, dx, n, some v, rfl, upd_same, hok, fun i o hh => ⟨rfl, ?_⟩⟩
      rw [upd_upd]
      exact fin _ ((same_new hp0).trans s3) x dx hx (by rw [upd_ne ne.symm]; exact hx) hdx i o hh
    | [], hp, _ => cases hp
    | _ :: _ :: _ :: _, hp, _ => cases hp

end
end K82

set_option maxRecDepth 100000
set_option maxHeartbeats 4000000
namespace K82
open PySem L2 Ly Nd Nt Od
local macro_rules | `(tactic| walk_at "nx") => `(tactic| dsimp only [tNext])
section
variable {P : Program} {w : World} {K : PySem.W.Frag} {mg : Str → Option Value} {base : Heap} {ad : Adr}
def spPorts2 (K : PySem.W.Frag) : Sp := fun vs H Q _ => ∃ z : Str, vs = [.str z] ∧ TextOk z ∧
  ∀ t a b H', Same H H' → SqT K H' t [.ref a, .ref b] → SqT K H' a ((insT z).map V.str) → SqT K H' b ((outsT z).map V.str) → Q (.ref t) H'
theorem sc_ports_of : FnScope ["text"] ["text"] (defScope s_ports_of) := ⟨rfl, rfl, rfl, by decide +kernel, rfl, by decide +kernel, by decide +kernel⟩
theorem ok_portsof {f : Addr} {fd : FuncData} (F : Fun K "ports_of" "ports_of" s_ports_of f fd) (T : Txt K w mg ad) : FnOk P w K mg base CX0 1 f fd ["text"] (spPorts2 K) := by
  refine F.ok sc_ports_of (fun vs H Q E h => ?_) (fun cdv A outer s H vs Q E hr h => ?_)
  · obtain ⟨z, rfl, _⟩ := h
    rfl
  · obtain ⟨z, rfl, hz, k⟩ := h
    refine ⟨_, (pss_one (ps_ret (pe_ix (ix_kdictK K w) (pe_glob (v := .ref ad.d_PORTS) rfl T.g_PORTS rfl) (pe_ix (ix_listK K) (pe_split (pv 0) pe_str) pe_int (fun _ _ => rfl)) (fun _ _ => rfl)))), ?_⟩
    obtain ⟨r, hsp⟩ := split_head hz
    obtain ⟨t, ti, tO, hd, ht, hi, ho⟩ := T.ports _ _ _ (rowT_of hz)
    refine ⟨_, rfl, ⟨z, rfl⟩, z, " ", rfl, rfl, (by decide +kernel), Nat.le_trans (Nat.add_le_add_right (textOk_len hz) 2) (by decide), fun p hp0 => ?_⟩
    refine ⟨p, _, _, _, rfl, rfl, SqL.of upd_same, atI_nat (j := 0) (by rw [hsp]; rfl), ?_⟩
    exact ⟨ad.d_PORTS, wordT z, .ref t, rfl, rfl, hd, k t ti tO _ (same_new hp0) (ht _) (hi _) (ho _)⟩
/-- a tuple of names, a path -/
def spIsPath (K : PySem.W.Frag) : Sp := fun vs H Q _ => ∃ (a : Addr) (p : Pth), vs = [.ref a] ∧ SqT K H a (p.map V.str) ∧ PathOk p ∧ ∀ H', Same H H' → Q (.bl true) H'
theorem sc_is_path : FnScope ["value", "name"] ["value"] (defScope s_is_path) := ⟨rfl, rfl, rfl, by decide +kernel, rfl, by decide +kernel, by decide +kernel⟩
theorem ok_isPath {f : Addr} {fd fdN : FuncData} (F : Fun K "is_path" "is_path" s_is_path f fd) (T : Txt K w mg ad) (G_is_name : FnOk P w K mg base CX0 1 ad.f_is_name fdN ["word"] spName) (b_is_name : Binds K fdN ["word"] []) : FnOk P w K mg base CX0 2 f fd ["value"] (spIsPath K) := by
  refine F.ok sc_is_path (fun vs H Q E h => ?_) (fun cdv A outer s H vs Q E hr h => ?_)
  · obtain ⟨a, p, rfl, _⟩ := h
    rfl
  · obtain ⟨a, p, rfl, hp, ⟨h1, h2, h3⟩, k⟩ := h
    refine ⟨_, (pss_cons (ps_if (PW.pt (pw_or (pt_not (pt_val (pe_callB (call_isiK K) (by rfl) T.n_isinstance (by decide +kernel) (pa_cons (pv 0) (pa_cons (pe_bltn (v := .ty "tuple") rfl T.n_tuple (by decide +kernel) rfl) pa_nil))))) (pw_or1 (pt_not (pt_chain op_le op_le pe_int (pe_callB (call_lenK K) (by rfl) T.n_len (by decide +kernel) (pa_cons (pv 0) pa_nil)) (pe_glob (v := .int 24) rfl T.g_MAX_PATH ⟨_, rfl⟩)))))) (pss_one (ps_ret pe_bl)) pss_nil)
    (pss_one (ps_ret (pe_callB (cr_all rfl) (by rfl) T.n_all (by decide +kernel) (pa_cons (pe_lc (own := [("name", 1)]) rfl sc_is_path.nd (pi_tupK K (pv 0)) (blkOk_by (own := [("name", 1)]) (N := ["value", "name"]) (sc := defScope s_is_path) (by decide +kernel)) (fun _ _ _ _ _ => (pg_name (i := 1) sc_is_path.nd rfl (Or.inl rfl))) (fun _ _ _ _ _ => pts_nil) (fun _ _ _ _ _ => (pe_call G_is_name (hr.mono (by decide)) rfl T.g_is_name T.k_is_name b_is_name .nil pass0 (pa_cons (pv 1) pa_nil)))) pa_nil))))), ?_⟩
    have hl : (p.map V.str).length = p.length := List.length_map _
    have ea : ∀ x : Int, x = 1 → decide (x ≤ (p.length : Int)) = true := fun x e => decide_eq_true (by omega)
    have eb : ∀ x : Int, x = 24 → decide ((p.length : Int) ≤ x) = true := fun x e => decide_eq_true (by omega)
    refine ⟨_, rfl, .ref a, .ty "tuple", .type "tuple", .type "tuple", true, rfl, .ty _, ty_tup hp, kit_tup, _, rfl, iteF ?_⟩
    refine ⟨_, rfl, a, _, rfl, .inr hp, ?_⟩
    refine ⟨_, _, rfl, rfl, _, rfl, ?_⟩
    rw [hl, ea _ rfl]
    refine iteT ⟨_, _, rfl, rfl, _, rfl, ?_⟩
    rw [eb _ rfl]
    refine iteF ?_
    walk_at "nx"
    refine ⟨_, rfl, a, rfl, ⟨_, hp⟩, fun D hD => lc_tup (K := K) (a := a) (xs := p.map V.str) (fun i H' => Same H H' ∧ H' D = some (.lst ((List.replicate i true).map V.bl))) ⟨same_new hD, upd_same⟩ (fun i H' _ h => same_sqt h.1 hp) ?_ ?_⟩
    · rintro i x H1 hx ⟨s1, e1⟩
      obtain ⟨hi, e⟩ := List.getElem?_eq_some_iff.mp hx
      rw [List.length_map] at hi
      rw [List.getElem_map] at e
      subst e
      refine ⟨rfl, ?_⟩
      dsimp only [tYes]
      have hno := h3 p[i] (List.getElem_mem hi)
      refine iteT ⟨_, rfl, p[i], rfl, Nat.le_trans (nameOk_len hno).2 (by decide), fun H2 s2 => ⟨_, s2 _ _ e1, szt (by rw [List.length_map, List.length_replicate]; omega), same_mut (s1.trans s2) hD, ?_⟩⟩
      rw [upd_same, hno, List.replicate_succ', List.map_append]
      rfl
    · rintro H1 ⟨s1, e1⟩
      refine ⟨D, List.replicate (p.map V.str).length true, rfl, SqL.of e1, ?_⟩
      have hall : (List.replicate (p.map V.str).length true).all id = true := by
        rw [List.all_eq_true]
        intro b hb
        rw [List.eq_of_mem_replicate hb]
        rfl
      rw [hall]
      exact k _ s1

end
end K82

set_option maxRecDepth 100000
set_option maxHeartbeats 4000000
namespace K82
open PySem L2 Ly Nd Nt Od
local macro_rules | `(tactic| walk_at "nx") => `(tactic| dsimp only [tNext])
section
variable {P : Program} {w : World} {K : PySem.W.Frag} {mg : Str → Option Value} {base : Heap} {ad : Adr}
/-- a loop of a comprehension, the outer or an inner one -/
theorem run_it {J : It} {n : Nat} {G : Hp → Prop} {Y : Nat → Hp → V → Hp → Prop} (w : Walk J n G Y) {S : Hp} {Qd : Hp → Prop} {B : (Hp → Prop) → V → Hp → Prop} (Pv : Nat → Hp → Prop) (h0 : Pv 0 S) (hG : ∀ i H, i ≤ n → Pv i H → G H)
    (hs : ∀ i x H H', i < n → Pv i H → Y i H x H' → B (Pv (i + 1)) x H') (hd : ∀ H, Pv n H → Qd H) :
    ∃ W : Nat → Nat → Hp → Prop, (∃ m, W 0 m S) ∧ ∀ i m H, W i m H → (J.stop i H ∧ Qd H) ∨ (J.go i H ∧ ∃ Nx : Hp → Prop, (∀ H', Nx H' → ∃ m', m' < m ∧ W (i + 1) m' H') ∧ ∀ x H', J.yld i H x H' → B Nx x H') := by
  refine ⟨fun i m H => m + i = n ∧ Pv i H, ⟨n, rfl, h0⟩, ?_⟩
  rintro i m H ⟨hm, p⟩
  have q := hG i H (by omega) p
  cases m with
  | zero =>
    obtain rfl : i = n := by omega
    exact .inl ⟨w.stops H q, hd H p⟩
  | succ m => exact .inr ⟨w.goes i H (by omega) q, Pv (i + 1), fun H' p' => ⟨m, by omega, by omega, p'⟩, fun x H' y => hs i x H H' (by omega) p (w.yields i H x H' (by omega) q y)⟩
def spTgtsOf (K : PySem.W.Frag) : Sp := fun vs H Q _ => ∃ (o l : Addr) (outs : List Str) (us : List V) (parts : List Part), vs = [.ref o, .ref l] ∧ SqT K H o (outs.map V.str) ∧ SqT K H l us ∧ PartsAt K H us parts ∧ (∀ x ∈ parts, TextOk x.2) ∧ parts.length ≤ 16 ∧ outs.length ≤ 8 ∧
  ∀ f ws H', Same H H' → H f = none → H' f = some (.lst ws) → TpAll K H' ws ((tgts outs parts).map dPort) → Q (.ref f) H'
theorem sc_targets_of : FnScope ["outputs", "parts", "found", "path", "text", "port", "output"] ["outputs", "parts"] (defScope s_targets_of) := ⟨rfl, rfl, rfl, by decide +kernel, rfl, by decide +kernel, by decide +kernel⟩
theorem ok_targetsof {f : Addr} {fd fdp : FuncData} (F : Fun K "targets_of" "targets_of" s_targets_of f fd) (T : Txt K w mg ad) (G_ports_of : FnOk P w K mg base CX0 1 ad.f_ports_of fdp ["text"] (spPorts2 K)) (b_ports_of : Binds K fdp ["text"] []) : FnOk P w K mg base CX0 2 f fd ["outputs", "parts"] (spTgtsOf K) := by
  refine F.ok sc_targets_of (fun vs H Q E h => ?_) (fun cdv A outer s H vs Q E hr h => ?_)
  · obtain ⟨o, l, outs, us, parts, rfl, _⟩ := h
    rfl
  · obtain ⟨o, l, outs, us, parts, rfl, ho, hl, hp, ht, h16, h8, k⟩ := h
    have hul := parts_len hp
    refine ⟨_, (pss_cons (ps_setLc2 (i := 2) (own := [("path", 3), ("text", 4), ("port", 5)]) (vs1 := [5]) rfl sc_targets_of.nd rfl rfl (sw_true rfl rfl rfl (by decide +kernel)) (pi_tupK K (pv 1)) (blkOk_by (own := [("path", 3), ("text", 4), ("port", 5)]) (N := ["outputs", "parts", "found", "path", "text", "port", "output"]) (sc := defScope s_targets_of) (by decide +kernel)) (by decide) (fun _ _ _ _ _ => (by exact (pg_tupK K (n := 2) (by rfl) (pgs_cons (pg_name (i := 3) sc_targets_of.nd rfl (Or.inl rfl)) (pgs_cons (pg_name (i := 4) sc_targets_of.nd rfl (Or.inl rfl)) pgs_nil))))) (fun _ _ _ _ _ => pts_nil) (fun _ _ _ _ _ => (pi_tupK K (pe_ix (ix_tupK K) (pe_call G_ports_of (hr.mono (by decide)) rfl T.g_ports_of T.k_ports_of b_ports_of .nil pass0 (pa_cons (pv 4) pa_nil)) pe_int (fun _ _ => rfl)))) (fun _ _ _ _ _ => (pg_name (i := 5) sc_targets_of.nd rfl (Or.inl rfl))) (fun _ _ _ _ _ => pts_nil) (fun _ _ _ _ _ => (pe_tupF (pa_cons (pv 3) (pa_cons (pv 5) pa_nil)))))
    (pss_one (ps_ret (pe_op op_cat (pv 2) (pe_lc (own := [("output", 6)]) rfl sc_targets_of.nd (pi_tupK K (pv 0)) (blkOk_by (own := [("output", 6)]) (N := ["outputs", "parts", "found", "path", "text", "port", "output"]) (sc := defScope s_targets_of) (by decide +kernel)) (fun _ _ _ _ _ => (pg_name (i := 6) sc_targets_of.nd rfl (Or.inl rfl))) (fun _ _ _ _ _ => pts_nil) (fun _ _ _ _ _ => (pe_tupF (pa_cons (pe_tupF pa_nil) (pa_cons (pv 6) pa_nil))))))))), ?_⟩
    refine ⟨_, rfl, l, rfl, ⟨_, hl⟩, fun D hD => run_it (walk_tup (K := K) (a := l) (xs := us)) (fun j H' => Same H H' ∧ ∃ ws, H' D = some (.lst ws) ∧ TpAll K H' ws ((tgtsTo parts j).map dPort)) ⟨same_new hD, [], upd_same, .nil⟩ (fun j H' _ h => same_sqt h.1 hl) ?_ ?_⟩
    · rintro j b H1 H' hj ⟨s1, ws, hws, hwt⟩ ⟨rfl, e2⟩
      obtain ⟨x, hx, q, u, rfl, hq, hu⟩ := parts_get hp e2
      have hx2 := ht x (List.mem_of_getElem? hx)
      have hwl : ws.length ≤ 48 := by
        have h1 := TpAll.len hwt
        rw [List.length_map] at h1
        have h2 := tgtsTo_len (j := j) ht
        omega
      have h31 : (insT x.2).length ≤ 3 := (ports_small _ (rowT_of hx2)).1
      refine ⟨q, _, rfl, same_sqt s1 hq, rfl, _, _, rfl, _, _, rfl, rfl, ?_⟩
      dsimp only [gName]
      refine ⟨rfl, ?_⟩
      dsimp only [tYes]
      refine iteT ⟨_, rfl, x.2, rfl, hx2, fun t a2 b2 H5 s5 e3 e4 e5 => ?_⟩
      have hD5 := s5 _ _ hws
      have nt5 := notT_lst hD5
      refine ⟨t, _, _, _, rfl, rfl, e3, atI_nat (j := 0) rfl, a2, rfl, ⟨_, e4⟩, run_it (walk_tup (K := K) (a := a2) (xs := (insT x.2).map V.str)) (fun m H'' => Same H H'' ∧ SameX D H5 H'' ∧ ∃ ys, H'' D = some (.lst ys) ∧ TpAll K H'' ys ((tgtsTo parts j).map dPort ++ ((insT x.2).take m).map fun n => dPort (x.1, n))) ⟨s1.trans s5, sx_of (Same.refl H5), ws, hD5, by simpa using TpAll.same hwt s5⟩ (fun m H'' _ h => sqt_sx' h.2.1 nt5 e4) ?_ ?_⟩
      · rintro m y H6 H' hm ⟨s6, x6, ys, hys, hyt⟩ ⟨rfl, hy⟩
        obtain ⟨hm, e⟩ := List.getElem?_eq_some_iff.mp hy
        rw [List.length_map] at hm
        rw [List.getElem_map] at e
        subst e
        have hyl := TpAll.len hyt
        rw [List.length_append, List.length_map, List.length_map, List.length_take] at hyl
        have h2 := tgtsTo_len (j := j) ht
        refine ⟨rfl, ?_⟩
        dsimp only [tYes]
        refine iteT ⟨_, rfl, _, rfl, szl (show 2 ≤ 100000 by decide), fun c G7 u7 k7 => ?_⟩
        have hys7 := u7 _ _ hys
        have hpath := ((hu.same (s1.trans s5)).sx x6 nt5).same u7
        refine ⟨ys, hys7, szt (by omega), same_mut (s6.trans u7) hD, ?_, ys ++ [.ref c], upd_same, ?_⟩
        · exact fun b o nb e => by rw [upd_ne nb]; exact u7 _ _ (x6 _ _ nb e)
        · rw [List.take_add_one, List.getElem?_eq_getElem hm, List.map_append, ← List.append_assoc]
          exact TpAll.sx (TpAll.snoc (TpAll.same hyt u7) (tp_port k7.sqt hpath)) (sx_put (sx_of (Same.refl G7))) (notT_lst hys7)
      · rintro H6 ⟨s6, x6, ys, hys, hyt⟩
        rw [List.length_map, List.take_length] at hyt
        refine ⟨s6, ys, hys, ?_⟩
        rw [tgtsTo_succ hx, List.map_append]
        unfold insP
        rw [List.map_map]
        exact hyt
    · rintro H1 ⟨s1, ws, hws, hwt⟩
      rw [hul, tgtsTo_all] at hwt
      dsimp only [gName]
      refine ⟨_, rfl, _, rfl, o, rfl, ⟨_, same_sqt s1 ho⟩, fun D2 hD2 => run_it (walk_tup (K := K) (a := o) (xs := outs.map V.str)) (fun m H'' => Same H1 H'' ∧ ∃ ys, H'' D2 = some (.lst ys) ∧ TpAll K H'' ys ((outs.take m).map fun n => dPort ([], n))) ⟨same_new hD2, [], upd_same, .nil⟩ (fun m H'' _ h => same_sqt (s1.trans h.1) ho) ?_ ?_⟩
      · rintro m y H6 H' hm ⟨s6, ys, hys, hyt⟩ ⟨rfl, hy⟩
        obtain ⟨hm, e⟩ := List.getElem?_eq_some_iff.mp hy
        rw [List.length_map] at hm
        rw [List.getElem_map] at e
        subst e
        have hyl := TpAll.len hyt
        rw [List.length_map, List.length_take] at hyl
        refine ⟨rfl, ?_⟩
        dsimp only [tYes]
        refine iteT ⟨szl (Nat.zero_le _), fun c1 G6 u6 k6 => ⟨_, rfl, szl (show 2 ≤ 100000 by decide), fun c G7 u7 k7 => ?_⟩⟩
        have hys7 := u7 _ _ (u6 _ _ hys)
        refine ⟨ys, hys7, szt (by omega), same_mut ((s6.trans u6).trans u7) hD2, ys ++ [.ref c], upd_same, ?_⟩
        rw [List.take_add_one, List.getElem?_eq_getElem hm, List.map_append]
        exact TpAll.sx (TpAll.snoc (TpAll.same hyt (u6.trans u7)) (tp_port (p := []) k7.sqt (tp_path (p := []) (k6.same u7).sqt))) (sx_put (sx_of (Same.refl G7))) (notT_lst hys7)
      rintro H6 ⟨s6, ys, hys, hyt⟩
      rw [List.length_map, List.take_length] at hyt
      have hyl := TpAll.len hyt
      rw [List.length_map] at hyl
      have hwl : ws.length ≤ 64 := by
        have h1 := TpAll.len hwt
        rw [List.length_map] at h1
        have h2 := tgtsTo_len (j := parts.length) ht
        rw [tgtsTo_all] at h2
        omega
      refine ⟨D, D2, _, _, rfl, rfl, s6 _ _ hws, hys, szl (by omega), fun g' hg' => ?_⟩
      have t9 := same_new (o := .lst (ws ++ ys)) hg'
      have sAll := s1.trans s6
      refine k g' _ _ (sAll.trans t9) ?_ upd_same ?_
      · cases e : H g' with
        | none => rfl
        | some u => rw [sAll _ _ e] at hg'; cases hg'
      · unfold tgts
        rw [List.map_append, List.map_map]
        exact (TpAll.same hwt (s6.trans t9)).app (TpAll.same hyt t9)
def spSrcsOf (K : PySem.W.Frag) : Sp := fun vs H Q _ => ∃ (o l : Addr) (ins : List Str) (us : List V) (parts : List Part), vs = [.ref o, .ref l] ∧ SqT K H o (ins.map V.str) ∧ SqT K H l us ∧ PartsAt K H us parts ∧ (∀ x ∈ parts, TextOk x.2) ∧ parts.length ≤ 16 ∧ ins.length ≤ 8 ∧
  ∀ f ws H', Same H H' → H f = none → H' f = some (.lst ws) → TpAll K H' ws ((allSrcs ins parts).map dPort) → Q (.ref f) H'
def outsTo (parts : List Part) (j : Nat) : List Nt.Prt := (parts.take j).flatMap outsP
theorem outsTo_all (parts : List Part) : outsTo parts parts.length = parts.flatMap outsP := by unfold outsTo; rw [List.take_length]
theorem outsTo_succ {parts : List Part} {j : Nat} {x : Part} (h : parts[j]? = some x) : outsTo parts (j + 1) = outsTo parts j ++ outsP x := by
  unfold outsTo
  rw [List.take_add_one, h, List.flatMap_append]
  simp
theorem outsTo_len {parts : List Part} (ht : ∀ x ∈ parts, TextOk x.2) (j : Nat) : (outsTo parts j).length ≤ 2 * parts.length := by
  have key : ∀ l : List Part, (∀ x ∈ l, TextOk x.2) → (l.flatMap outsP).length ≤ 2 * l.length := by
    intro l
    induction l with
    | nil => simp
    | cons q l ih =>
      intro h
      have h1 := ih fun z hz => h z (List.mem_cons_of_mem _ hz)
      have h2 := (ports_small _ (rowT_of (h q List.mem_cons_self))).2.1
      have h3 : (outsP q).length ≤ 2 := by unfold outsP; rw [List.length_map]; exact h2
      rw [List.flatMap_cons, List.length_append, List.length_cons]
      omega
  have h1 := key (parts.take j) fun x hx => ht x (List.mem_of_mem_take hx)
  have h2 : (parts.take j).length ≤ parts.length := List.length_take_le' _ _
  unfold outsTo
  omega
theorem sc_sources_of : FnScope ["inputs", "parts", "found", "name", "path", "text", "port"] ["inputs", "parts"] (defScope s_sources_of) := ⟨rfl, rfl, rfl, by decide +kernel, rfl, by decide +kernel, by decide +kernel⟩
theorem ok_sourcesof {f : Addr} {fd fdp : FuncData} (F : Fun K "sources_of" "sources_of" s_sources_of f fd) (T : Txt K w mg ad) (G_ports_of : FnOk P w K mg base CX0 1 ad.f_ports_of fdp ["text"] (spPorts2 K)) (b_ports_of : Binds K fdp ["text"] []) : FnOk P w K mg base CX0 2 f fd ["inputs", "parts"] (spSrcsOf K) := by
  refine F.ok sc_sources_of (fun vs H Q E h => ?_) (fun cdv A outer s H vs Q E hr h => ?_)
  · obtain ⟨o, l, ins, us, parts, rfl, _⟩ := h
    rfl
  · obtain ⟨o, l, ins, us, parts, rfl, ho, hl, hp, ht, h16, h8, k⟩ := h
    have hul := parts_len hp
    refine ⟨_, (pss_cons (ps_setLc (i := 2) (own := [("name", 3)]) rfl sc_sources_of.nd rfl rfl (sw_true rfl rfl rfl (by decide +kernel)) (pi_tupK K (pv 0)) (blkOk_by (own := [("name", 3)]) (N := ["inputs", "parts", "found", "name", "path", "text", "port"]) (sc := defScope s_sources_of) (by decide +kernel)) (fun _ _ _ _ _ => (pg_name (i := 3) sc_sources_of.nd rfl (Or.inl rfl))) (fun _ _ _ _ _ => pts_nil) (fun _ _ _ _ _ => (pe_tupF (pa_cons (pe_tupF pa_nil) (pa_cons (pv 3) pa_nil)))))
    (pss_one (ps_ret (pe_op op_cat (pv 2) (pe_lc2 (own := [("path", 4), ("text", 5), ("port", 6)]) (vs1 := [6]) rfl sc_sources_of.nd (pi_tupK K (pv 1)) (blkOk_by (own := [("path", 4), ("text", 5), ("port", 6)]) (N := ["inputs", "parts", "found", "name", "path", "text", "port"]) (sc := defScope s_sources_of) (by decide +kernel)) (by decide) (fun _ _ _ _ _ => (by exact (pg_tupK K (n := 2) (by rfl) (pgs_cons (pg_name (i := 4) sc_sources_of.nd rfl (Or.inl rfl)) (pgs_cons (pg_name (i := 5) sc_sources_of.nd rfl (Or.inl rfl)) pgs_nil))))) (fun _ _ _ _ _ => pts_nil) (fun _ _ _ _ _ => (pi_tupK K (pe_ix (ix_tupK K) (pe_call G_ports_of (hr.mono (by decide)) rfl T.g_ports_of T.k_ports_of b_ports_of .nil pass0 (pa_cons (pv 5) pa_nil)) pe_int (fun _ _ => rfl)))) (fun _ _ _ _ _ => (pg_name (i := 6) sc_sources_of.nd rfl (Or.inl rfl))) (fun _ _ _ _ _ => pts_nil) (fun _ _ _ _ _ => (pe_tupF (pa_cons (pv 4) (pa_cons (pv 6) pa_nil))))))))), ?_⟩
    refine ⟨_, rfl, o, rfl, ⟨_, ho⟩, fun D2 hD2 => run_it (walk_tup (K := K) (a := o) (xs := ins.map V.str)) (fun m H'' => Same H H'' ∧ ∃ ys, H'' D2 = some (.lst ys) ∧ TpAll K H'' ys ((ins.take m).map fun n => dPort ([], n))) ⟨same_new hD2, [], upd_same, .nil⟩ (fun m H'' _ h => same_sqt h.1 ho) ?_ ?_⟩
    · rintro m y H6 H' hm ⟨s6, ys, hys, hyt⟩ ⟨rfl, hy⟩
      obtain ⟨hm, e⟩ := List.getElem?_eq_some_iff.mp hy
      rw [List.length_map] at hm
      rw [List.getElem_map] at e
      subst e
      have hyl := TpAll.len hyt
      rw [List.length_map, List.length_take] at hyl
      refine ⟨rfl, ?_⟩
      dsimp only [tYes]
      refine iteT ⟨szl (Nat.zero_le _), fun c1 G6 u6 k6 => ⟨_, rfl, szl (show 2 ≤ 100000 by decide), fun c G7 u7 k7 => ?_⟩⟩
      have hys7 := u7 _ _ (u6 _ _ hys)
      refine ⟨ys, hys7, szt (by omega), same_mut ((s6.trans u6).trans u7) hD2, ys ++ [.ref c], upd_same, ?_⟩
      rw [List.take_add_one, List.getElem?_eq_getElem hm, List.map_append]
      exact TpAll.sx (TpAll.snoc (TpAll.same hyt (u6.trans u7)) (tp_port (p := []) k7.sqt (tp_path (p := []) (k6.same u7).sqt))) (sx_put (sx_of (Same.refl G7))) (notT_lst hys7)
    rintro H1 ⟨s1, zs, hzs, hzt⟩
    rw [List.length_map, List.take_length] at hzt
    have hzl := TpAll.len hzt
    rw [List.length_map] at hzl
    dsimp only [gName]
    refine ⟨_, rfl, _, rfl, l, rfl, ⟨_, same_sqt s1 hl⟩, fun D hD => run_it (walk_tup (K := K) (a := l) (xs := us)) (fun j H' => Same H1 H' ∧ ∃ ws, H' D = some (.lst ws) ∧ TpAll K H' ws ((outsTo parts j).map dPort)) ⟨same_new hD, [], upd_same, .nil⟩ (fun j H' _ h => same_sqt (s1.trans h.1) hl) ?_ ?_⟩
    · rintro j b H2 H' hj ⟨s2, ws, hws, hwt⟩ ⟨rfl, e2⟩
      obtain ⟨x, hx, q, u, rfl, hq, hu⟩ := parts_get hp e2
      have hx2 := ht x (List.mem_of_getElem? hx)
      have hwl : ws.length ≤ 48 := by
        have h1 := TpAll.len hwt
        rw [List.length_map] at h1
        have h2 := outsTo_len ht j
        omega
      have h32 : (outsT x.2).length ≤ 2 := (ports_small _ (rowT_of hx2)).2.1
      refine ⟨q, _, rfl, same_sqt (s1.trans s2) hq, rfl, _, _, rfl, _, _, rfl, rfl, ?_⟩
      dsimp only [gName]
      refine ⟨rfl, ?_⟩
      dsimp only [tYes]
      refine iteT ⟨_, rfl, x.2, rfl, hx2, fun t a2 b2 H5 s5 e3 e4 e5 => ?_⟩
      have hD5 := s5 _ _ hws
      have nt5 := notT_lst hD5
      refine ⟨t, _, _, _, rfl, rfl, e3, atI_nat (j := 1) rfl, b2, rfl, ⟨_, e5⟩, run_it (walk_tup (K := K) (a := b2) (xs := (outsT x.2).map V.str)) (fun m H'' => Same H1 H'' ∧ SameX D H5 H'' ∧ ∃ ys, H'' D = some (.lst ys) ∧ TpAll K H'' ys ((outsTo parts j).map dPort ++ ((outsT x.2).take m).map fun n => dPort (x.1, n))) ⟨s2.trans s5, sx_of (Same.refl H5), ws, hD5, by simpa using TpAll.same hwt s5⟩ (fun m H'' _ h => sqt_sx' h.2.1 nt5 e5) ?_ ?_⟩
      · rintro m y H6 H' hm ⟨s6, x6, ys, hys, hyt⟩ ⟨rfl, hy⟩
        obtain ⟨hm, e⟩ := List.getElem?_eq_some_iff.mp hy
        rw [List.length_map] at hm
        rw [List.getElem_map] at e
        subst e
        have hyl := TpAll.len hyt
        rw [List.length_append, List.length_map, List.length_map, List.length_take] at hyl
        have h2 := outsTo_len ht j
        refine ⟨rfl, ?_⟩
        dsimp only [tYes]
        refine iteT ⟨_, rfl, _, rfl, szl (show 2 ≤ 100000 by decide), fun c G7 u7 k7 => ?_⟩
        have hys7 := u7 _ _ hys
        have hpath := ((hu.same ((s1.trans s2).trans s5)).sx x6 nt5).same u7
        refine ⟨ys, hys7, szt (by omega), same_mut (s6.trans u7) hD, ?_, ys ++ [.ref c], upd_same, ?_⟩
        · exact fun b o nb e => by rw [upd_ne nb]; exact u7 _ _ (x6 _ _ nb e)
        · rw [List.take_add_one, List.getElem?_eq_getElem hm, List.map_append, ← List.append_assoc]
          exact TpAll.sx (TpAll.snoc (TpAll.same hyt u7) (tp_port k7.sqt hpath)) (sx_put (sx_of (Same.refl G7))) (notT_lst hys7)
      · rintro H6 ⟨s6, x6, ys, hys, hyt⟩
        rw [List.length_map, List.take_length] at hyt
        refine ⟨s6, ys, hys, ?_⟩
        rw [outsTo_succ hx, List.map_append]
        unfold outsP
        rw [List.map_map]
        exact hyt
    · rintro H2 ⟨s2, ws, hws, hwt⟩
      rw [hul] at hwt
      have hwl : ws.length ≤ 64 := by
        have h1 := TpAll.len hwt
        rw [List.length_map] at h1
        have h2 := outsTo_len ht parts.length
        omega
      rw [outsTo_all] at hwt
      refine ⟨D2, D, _, _, rfl, rfl, s2 _ _ hzs, hws, szl (by omega), fun g' hg' => ?_⟩
      have t9 := same_new (o := .lst (zs ++ ws)) hg'
      have sAll := s1.trans s2
      refine k g' _ _ (sAll.trans t9) ?_ upd_same ?_
      · cases e : H g' with
        | none => rfl
        | some u => rw [sAll _ _ e] at hg'; cases hg'
      · unfold allSrcs inPorts
        rw [List.map_append, List.map_map]
        exact (TpAll.same hzt (s2.trans t9)).app (TpAll.same hwt t9)

end
end K82

set_option maxRecDepth 100000
set_option maxHeartbeats 4000000
namespace K82
open PySem L2 Ly Nd Nt Od
local macro_rules | `(tactic| walk_at "nx") => `(tactic| dsimp only [tNext])
section
variable {P : Program} {w : World} {K : PySem.W.Frag} {mg : Str → Option Value} {base : Heap} {ad : Adr}
def spArePorts (K : PySem.W.Frag) : Sp := fun vs H Q _ => ∃ (i o : Addr) (ins outs : List Str), vs = [.ref i, .ref o] ∧ SqT K H i (ins.map V.str) ∧ SqT K H o (outs.map V.str) ∧ ins.length ≤ 8 ∧ outs.length ≤ 8 ∧ (∀ x ∈ ins ++ outs, nameOk x = true) ∧ (ins ++ outs).Nodup ∧ ∀ H', Same H H' → Q (.bl true) H'
theorem sc_are_ports : FnScope ["inputs", "outputs", "some", "name"] ["inputs", "outputs"] (defScope s_are_ports) := ⟨rfl, rfl, rfl, by decide +kernel, rfl, by decide +kernel, by decide +kernel⟩
theorem ok_arePorts {f : Addr} {fd fdN : FuncData} (F : Fun K "are_ports" "are_ports" s_are_ports f fd) (T : Txt K w mg ad) (G_is_name : FnOk P w K mg base CX0 1 ad.f_is_name fdN ["word"] spName) (b_is_name : Binds K fdN ["word"] []) : FnOk P w K mg base CX0 2 f fd ["inputs", "outputs"] (spArePorts K) := by
  refine F.ok sc_are_ports (fun vs H Q E h => ?_) (fun cdv A outer s H vs Q E hr h => ?_)
  · obtain ⟨i, o, ins, outs, rfl, _⟩ := h
    rfl
  · obtain ⟨i, o, ins, outs, rfl, hi, ho, h8, h9, hn, hd, k⟩ := h
    refine ⟨_, (pss_cons (ps_for PassesOwn.never rfl (pi_tupK K (pe_tupF (pa_cons (pv 0) (pa_cons (pv 1) pa_nil)))) (pg_name (i := 2) sc_are_ports.nd rfl (Or.inl rfl))
    (pss_one (ps_if (PW.pt (pw_or (pt_not (pt_val (pe_callB (call_isiK K) (by rfl) T.n_isinstance (by decide +kernel) (pa_cons (pv 2) (pa_cons (pe_bltn (v := .ty "tuple") rfl T.n_tuple (by decide +kernel) rfl) pa_nil))))) (pw_or (pt_cmpR op_gt (pe_callB (call_lenK K) (by rfl) T.n_len (by decide +kernel) (pa_cons (pv 2) pa_nil)) (ClX.pe_cval (pe_glob (v := .ref ad.C_Diagram) rfl T.g_Diagram rfl)) (nomark _)) (pw_or1 (pt_not (pt_val (pe_callB (cr_all rfl) (by rfl) T.n_all (by decide +kernel) (pa_cons (pe_lc (own := [("name", 3)]) rfl sc_are_ports.nd (pi_tupK K (pv 2)) (blkOk_by (own := [("name", 3)]) (N := ["inputs", "outputs", "some", "name"]) (sc := defScope s_are_ports) (by decide +kernel)) (fun _ _ _ _ _ => (pg_name (i := 3) sc_are_ports.nd rfl (Or.inl rfl))) (fun _ _ _ _ _ => pts_nil) (fun _ _ _ _ _ => (pe_call G_is_name (hr.mono (by decide)) rfl T.g_is_name T.k_is_name b_is_name .nil pass0 (pa_cons (pv 3) pa_nil)))) pa_nil)))))))) (pss_one (ps_ret pe_bl)) pss_nil)))
    (pss_one (ps_ret (pe_cmpR op_eq (pe_callB (cr_lenSetS w) (by rfl) T.n_len (by decide +kernel) (pa_cons (pe_callTy (cr_setT K w rfl) (by rfl) T.n_set (by decide +kernel) (pa_cons (pe_op op_catA (pv 0) (pv 1)) pa_nil)) pa_nil)) (pe_callB (call_lenK K) (by rfl) T.n_len (by decide +kernel) (pa_cons (pe_op op_catA (pv 0) (pv 1)) pa_nil)) (nomark _))))), ?_⟩
    refine ⟨_, rfl, _, rfl, szl (show 2 ≤ 100000 by decide), fun tt G1 u1 k1 => ⟨tt, rfl, ⟨_, k1.sqt⟩, for_tup (K := K) (a := tt) (xs := [V.ref i, V.ref o]) (fun j σ H' => Same G1 H' ∧ ∃ x2 x3 : Option V, σ = [some (.ref i), some (.ref o), x2, x3]) ⟨Same.refl _, _, _, rfl⟩ (fun j σ H' _ h => (k1.same h.1).sqt) ?_ ?_⟩⟩
    · rintro j y σ H1 hj ⟨s1, x2, x3, rfl⟩
      have key : ∃ (a : Addr) (xs : List Str), y = .ref a ∧ SqT K H1 a (xs.map V.str) ∧ xs.length ≤ 8 ∧ ∀ x ∈ xs, nameOk x = true := by
        have s01 := u1.trans s1
        match j, hj with
        | 0, hj => cases hj; exact ⟨i, ins, rfl, same_sqt s01 hi, h8, fun x hx => hn x (List.mem_append_left _ hx)⟩
        | 1, hj => cases hj; exact ⟨o, outs, rfl, same_sqt s01 ho, h9, fun x hx => hn x (List.mem_append_right _ hx)⟩
      obtain ⟨a, xs, rfl, hS, h10, hnx⟩ := key
      have hl : (xs.map V.str).length = xs.length := List.length_map _
      dsimp only [gName]
      refine ⟨_, rfl, .ref a, .ty "tuple", .type "tuple", .type "tuple", true, rfl, .ty _, ty_tup hS, kit_tup, _, rfl, iteF ?_⟩
      refine ⟨_, rfl, a, _, rfl, .inr hS, _, _, _, _, rfl, T.cr_Diagram, T.cv_Diagram_MAX_PORTS, _, _, rfl, rfl, _, rfl, ?_⟩
      rw [hl, decide_eq_false (show ¬ (8 : Int) < (xs.length : Int) by omega)]
      refine iteF ?_
      refine ⟨_, rfl, a, rfl, ⟨_, hS⟩, fun D hD => run_it (walk_tup (K := K) (a := a) (xs := xs.map V.str)) (fun i H' => Same H1 H' ∧ H' D = some (.lst ((List.replicate i true).map V.bl))) ⟨same_new hD, upd_same⟩ (fun i H' _ h => same_sqt h.1 hS) ?_ ?_⟩
      · rintro m x H2 H' hm ⟨s2, e1⟩ ⟨rfl, hx⟩
        obtain ⟨hi2, e⟩ := List.getElem?_eq_some_iff.mp hx
        rw [List.length_map] at hi2
        rw [List.getElem_map] at e
        subst e
        refine ⟨rfl, ?_⟩
        dsimp only [tYes]
        have hno := hnx xs[m] (List.getElem_mem hi2)
        refine iteT ⟨_, rfl, xs[m], rfl, Nat.le_trans (nameOk_len hno).2 (by decide), fun H3 s3 => ⟨_, s3 _ _ e1, szt (by rw [List.length_map, List.length_replicate]; omega), same_mut (s2.trans s3) hD, ?_⟩⟩
        rw [upd_same, hno, List.replicate_succ', List.map_append]
        rfl
      · rintro H2 ⟨s2, e1⟩
        refine ⟨D, List.replicate (xs.map V.str).length true, rfl, SqL.of e1, _, rfl, ?_⟩
        have hall : (List.replicate (xs.map V.str).length true).all id = true := by
          rw [List.all_eq_true]
          intro b hb
          rw [List.eq_of_mem_replicate hb]
          rfl
        rw [hall]
        refine iteF ?_
        walk_at "nx"
        exact ⟨s1.trans s2, _, _, rfl⟩
    · rintro σ H1 ⟨s1, x2, x3, rfl⟩
      have cat : ∀ (H1 : Hp) (Q : VK), Same H H1 → (∀ p H', Same H1 H' → SqT K H' p ((ins ++ outs).map V.str) → Q (.ref p) H') → rCatA K (.ref i) (.ref o) H1 Q := fun H1 Q s q => by
        have hi1 := same_sqt s hi
        have ho1 := same_sqt s ho
        refine ⟨i, o, _, _, rfl, rfl, hi1, ho1, szl (by rw [List.length_map, List.length_map]; omega), fun e => ?_, fun e1 e2 => ?_, fun e1 e2 p hp => ?_⟩
        · have e3 : ins = [] := List.map_eq_nil_iff.mp e
          exact q o H1 (Same.refl _) (by rw [e3, List.nil_append]; exact ho1)
        · have e3 : outs = [] := List.map_eq_nil_iff.mp e2
          exact q i H1 (Same.refl _) (by rw [e3, List.append_nil]; exact hi1)
        · exact q p _ (same_new hp) (by rw [List.map_append]; exact SqT.of upd_same)
      have hlen : (ins ++ outs).length ≤ 16 := by rw [List.length_append]; omega
      refine ⟨_, rfl, _, rfl, cat H1 _ (u1.trans s1) fun p H2 s2 e2 => ?_⟩
      refine ⟨p, ins ++ outs, rfl, e2, by omega, fun q hq => ⟨q, dedS (ins ++ outs), rfl, upd_same, _, rfl, _, rfl, cat _ _ (((u1.trans s1).trans s2).trans (same_new hq)) fun p3 H3 s3 e3 => ?_⟩⟩
      refine ⟨p3, _, rfl, .inr e3, ?_⟩
      rw [ded_same hd, List.length_map]
      refine ⟨rfl, ?_⟩
      rw [decide_eq_true rfl]
      exact k _ ((((u1.trans s1).trans s2).trans (same_new hq)).trans s3)

end
end K82

set_option maxRecDepth 100000
set_option maxHeartbeats 4000000
namespace Nt
open PySem PySem.Spec PyProof.Rows L2 Ly LamX Nd
theorem eqv_port (a b : Nt.Prt) : PyData.eqv (dPort a) (dPort b) = decide (a = b) := by
  obtain ⟨a1, a2⟩ := a
  obtain ⟨b1, b2⟩ := b
  show (PyData.eqvAll (a1.map .str) (b1.map .str) && ((a2 == b2) && true)) = decide ((a1, a2) = (b1, b2))
  rw [eqvAll_strs, Bool.and_true]
  by_cases h1 : a1 = b1
  · by_cases h2 : a2 = b2
    · subst h1 h2; simp
    · simp [h1, h2]
  · simp [h1]
theorem any_ports (q : Nt.Prt) : ∀ l : List Nt.Prt, ((l.map dPort).any fun z => PyData.eqv z (dPort q)) = decide (q ∈ l)
  | [] => by simp
  | x :: l => by
    rw [List.map_cons, List.any_cons, any_ports q l, eqv_port]
    by_cases h : x = q
    · subst h; simp
    · simp [h, Ne.symm h]
def OkP (q : Nt.Prt) : Prop := (∀ x ∈ q.1, OkS x) ∧ OkS q.2
theorem shp_port0 {q : Nt.Prt} (h : OkP q) : (dPort q).canLay0 = true ∧ (dPort q).depth ≤ 2 := by
  obtain ⟨a1, a2⟩ := shp_list (f := PyData.str) (k := 0) (by decide) (l := q.1) fun x hx => ⟨h.1 x hx, Nat.le_refl _⟩
  obtain ⟨b1, b2⟩ := shp_list (f := PyData.str) (k := 0) (by decide) (l := [q.2]) fun x hx => ⟨by rw [List.mem_singleton.mp hx]; exact h.2, Nat.le_refl _⟩
  have b3 : (PyData.str q.2).canLay0 = true := by
    have : ((PyData.str q.2).canLay0 && true) = true := b1
    simpa using this
  refine ⟨?_, ?_⟩
  · show (PyData.canLayAll0 (q.1.map .str) && ((PyData.str q.2).canLay0 && true)) = true
    rw [a1, b3]
    rfl
  · have e : (dPort q).depth = PyData.depthAll (q.1.map .str) + 1 + 1 := by
      simp [dPort, dTx, PyData.depth, PyData.depthAll]
    rw [e]
    omega
theorem shp_port {q : Nt.Prt} (h : OkP q) : SeqAt.shaped (dPort q) = true := by
  obtain ⟨h1, h2⟩ := shp_port0 h
  show ((dPort q).canLay0 && decide ((dPort q).depth ≤ 64)) = true
  rw [h1, decide_eq_true (by omega)]
  rfl
theorem shp_ports {l : List Nt.Prt} (h : ∀ q ∈ l, OkP q) : SeqAt.shaped (.list (l.map dPort)) = true := by
  obtain ⟨a1, a2⟩ := shp_list (f := dPort) (k := 2) (by decide) (l := l) fun q hq => shp_port0 (h q hq)
  have e1 : (PyData.list (l.map dPort)).canLay0 = true := a1
  have e2 : (PyData.list (l.map dPort)).depth ≤ 64 := by
    have e : (PyData.list (l.map dPort)).depth = PyData.depthAll (l.map dPort) + 1 := by simp [PyData.depth]
    rw [e]
    omega
  show ((PyData.list (l.map dPort)).canLay0 && decide ((PyData.list (l.map dPort)).depth ≤ 64)) = true
  rw [e1, decide_eq_true e2]
  rfl
theorem NetOk.okT {ins outs : List Str} {parts : List Part} {wires : List Nt.Wir} (ok : NetOk ins outs parts wires) : ∀ q ∈ tgts outs parts, OkP q := fun q hq => by
  rcases List.mem_append.mp hq with h | h
  · obtain ⟨x, hx, hm⟩ := List.mem_flatMap.mp h
    obtain ⟨n, hn, rfl⟩ := List.mem_map.mp hm
    exact ⟨fun y hy => okS_name ((ok.pp x hx).2.2 y hy), okS_name ((ports_small _ (rowT_of (ok.tx x hx))).2.2.1 n (List.mem_append_left _ (List.mem_cons_of_mem _ hn)))⟩
  · obtain ⟨n, hn, rfl⟩ := List.mem_map.mp h
    exact ⟨fun y hy => (by cases hy), okS_name (ok.nm n (List.mem_append_right _ hn))⟩
theorem NetOk.okS {ins outs : List Str} {parts : List Part} {wires : List Nt.Wir} (ok : NetOk ins outs parts wires) : ∀ q ∈ allSrcs ins parts, OkP q := fun q hq => by
  rcases List.mem_append.mp hq with h | h
  · obtain ⟨n, hn, rfl⟩ := List.mem_map.mp h
    exact ⟨fun y hy => (by cases hy), okS_name (ok.nm n (List.mem_append_left _ hn))⟩
  · obtain ⟨x, hx, hm⟩ := List.mem_flatMap.mp h
    obtain ⟨n, hn, rfl⟩ := List.mem_map.mp hm
    exact ⟨fun y hy => okS_name ((ok.pp x hx).2.2 y hy), okS_name ((ports_small _ (rowT_of (ok.tx x hx))).2.2.1 n (List.mem_append_right _ hn))⟩
end Nt

set_option maxRecDepth 100000
set_option maxHeartbeats 4000000
namespace K82
open PySem L2 Ly Nd Nt Od
local macro_rules | `(tactic| walk_at "nx") => `(tactic| dsimp only [tNext])
section
variable {P : Program} {w : World} {K : PySem.W.Frag} {mg : Str → Option Value} {base : Heap} {ad : Adr}
def spAreWires (K : PySem.W.Frag) : Sp := fun vs H Q _ => ∃ (i o l d : Addr) (ins outs : List Str) (us ws : List V) (parts : List Part) (wires : List Nt.Wir), vs = [.ref i, .ref o, .ref l, .ref d] ∧ SqT K H i (ins.map V.str) ∧ SqT K H o (outs.map V.str) ∧ SqT K H l us ∧ PartsAt K H us parts ∧ SqT K H d ws ∧ Nt.WiresAt K H ws wires ∧ NetOk ins outs parts wires ∧ ∀ H', Same H H' → Q (.bl true) H'
theorem sc_are_wires : FnScope ["inputs", "outputs", "parts", "value", "targets", "sources", "target", "wire"] ["inputs", "outputs", "parts", "value"] (defScope s_are_wires) := ⟨rfl, rfl, rfl, by decide +kernel, rfl, by decide +kernel, by decide +kernel⟩
theorem ok_areWires {f : Addr} {fd fdT fdS : FuncData} (F : Fun K "are_wires" "are_wires" s_are_wires f fd) (T : Txt K w mg ad) (G_targets_of : FnOk P w K mg base CX0 2 ad.f_targets_of fdT ["outputs", "parts"] (spTgtsOf K)) (b_targets_of : Binds K fdT ["outputs", "parts"] []) (G_sources_of : FnOk P w K mg base CX0 2 ad.f_sources_of fdS ["inputs", "parts"] (spSrcsOf K)) (b_sources_of : Binds K fdS ["inputs", "parts"] []) : FnOk P w K mg base CX0 3 f fd ["inputs", "outputs", "parts", "value"] (spAreWires K) := by
  refine F.ok sc_are_wires (fun vs H Q E h => ?_) (fun cdv A outer s H vs Q E hr h => ?_)
  · obtain ⟨i, o, l, d, ins, outs, us, ws, parts, wires, rfl, _⟩ := h
    rfl
  · obtain ⟨i, o, l, d, ins, outs, us, ws, parts, wires, rfl, hi, ho, hl, hp, hd, hw, ok, k⟩ := h
    refine ⟨_, (pss_cons (ps_par (i := 4) (j := 5) (by rfl) sc_are_wires.nd rfl rfl (by decide) rfl rfl (pa_cons (pe_call G_targets_of (hr.mono (by decide)) rfl T.g_targets_of T.k_targets_of b_targets_of .nil pass0 (pa_cons (pv 1) (pa_cons (pv 2) pa_nil))) (pa_cons (pe_call G_sources_of (hr.mono (by decide)) rfl T.g_sources_of T.k_sources_of b_sources_of .nil pass0 (pa_cons (pv 0) (pa_cons (pv 2) pa_nil))) pa_nil)) (by rfl))
    (pss_cons (ps_if (PW.pt (pw_or (pt_not (pt_val (pe_callB (call_isiK K) (by rfl) T.n_isinstance (by decide +kernel) (pa_cons (pv 3) (pa_cons (pe_bltn (v := .ty "tuple") rfl T.n_tuple (by decide +kernel) rfl) pa_nil))))) (pw_or1 (pt_cmpR op_ne (pe_callB (call_lenK K) (by rfl) T.n_len (by decide +kernel) (pa_cons (pv 3) pa_nil)) (pe_callB (call_lenK K) (by rfl) T.n_len (by decide +kernel) (pa_cons (pv 4) pa_nil)) (nomark _))))) (pss_one (ps_ret pe_bl)) pss_nil)
    (pss_cons (ps_for PassesOwn.never rfl (pi_zipM (by rfl) T.n_zip (pa_cons (pv 4) (pa_cons (pv 3) pa_nil))) (pg_tup (by rfl) (pgs_cons (pg_name (i := 6) sc_are_wires.nd rfl (Or.inl rfl)) (pgs_cons (pg_name (i := 7) sc_are_wires.nd rfl (Or.inl rfl)) pgs_nil)))
    (pss_one (ps_if (PW.pt (pw_or (pt_not (pt_val (pe_callB (call_isiK K) (by rfl) T.n_isinstance (by decide +kernel) (pa_cons (pv 7) (pa_cons (pe_bltn (v := .ty "tuple") rfl T.n_tuple (by decide +kernel) rfl) pa_nil))))) (pw_or (pt_cmpR op_ne (pe_callB (call_lenK K) (by rfl) T.n_len (by decide +kernel) (pa_cons (pv 7) pa_nil)) pe_int (nomark _)) (pw_or (pt_cmpR (op_neDK K hr.units) (pe_ix (ix_tupK K) (pv 7) pe_int (fun _ _ => rfl)) (pv 6) (nomark _)) (pw_or1 (pt_cmpR (op_notInDK K (hu65 hr)) (pe_ix (ix_tupK K) (pv 7) pe_int (fun _ _ => rfl)) (pv 5) (by rfl))))))) (pss_one (ps_ret pe_bl)) pss_nil)))
    (pss_one (ps_ret pe_bl))))), ?_⟩
    have h16 := ok.p16
    have hwlen : wires.length = (tgts outs parts).length := by
      have := congrArg List.length ok.wt
      rwa [List.length_map] at this
    have hwsl : ws.length = wires.length := by
      have := TpAll.len hw
      rwa [List.length_map] at this
    refine ⟨_, rfl, _, rfl, o, l, outs, us, parts, rfl, ho, hl, hp, ok.tx, h16, ok.o8, fun f1 ts H1 s1 n1 e1 ht1 => ?_⟩
    refine ⟨_, rfl, _, rfl, i, l, ins, us, parts, rfl, same_sqt s1 hi, same_sqt s1 hl, TpAll.same hp s1, ok.tx, h16, ok.i8, fun f2 ss H2 s2 n2 e2 ht2 => ⟨_, _, rfl, ?_⟩⟩
    have s12 := s1.trans s2
    have hd2 := same_sqt s12 hd
    have e12 := s2 _ _ e1
    have htl : ts.length = (tgts outs parts).length := by
      have := TpAll.len ht1
      rwa [List.length_map] at this
    refine ⟨_, rfl, .ref d, .ty "tuple", .type "tuple", .type "tuple", true, rfl, .ty _, ty_tup hd2, kit_tup, _, rfl, iteF ?_⟩
    refine ⟨_, rfl, d, _, rfl, .inr hd2, _, rfl, f1, _, rfl, .inl (SqL.of e12), rfl, _, rfl, ?_⟩
    have elen : (V.int (ws.length : Nat)) = V.int (ts.length : Nat) := by rw [hwsl, hwlen, htl]
    rw [decide_eq_true elen]
    refine iteF ?_
    walk_at "nx"
    refine ⟨_, rfl, _, rfl, f1, d, ts, ws, rfl, SqL.of e12, hd2, for_zipM (by rw [htl, hwsl, hwlen]) (fun j σ H' => Same H2 H' ∧ ∃ x6 x7 : Option V, σ = [some (.ref i), some (.ref o), some (.ref l), some (.ref d), some (.ref f1), some (.ref f2), x6, x7]) ⟨Same.refl _, _, _, rfl⟩ (fun j σ H' h => ⟨SqL.of (h.1 _ _ e12), same_sqt h.1 hd2⟩) ?_ ?_⟩
    · rintro j x y T2 σ H3 hx hy ⟨s3, x6, x7, rfl⟩ hT
      have s4 := s3.trans (same_new (o := .tup [x, y]) hT)
      obtain ⟨dx, hdx, tx⟩ := TpAll.get ht1 hx
      obtain ⟨dy, hdy, ty⟩ := TpAll.get hw hy
      rw [List.getElem?_map] at hdx hdy
      obtain ⟨tg, htg, rfl⟩ := Option.map_eq_some_iff.mp hdx
      obtain ⟨wi, hwi, rfl⟩ := Option.map_eq_some_iff.mp hdy
      obtain ⟨a, u, z, rfl, hA, hu, hz⟩ := wire_inv ty
      have etg : tg = wi.1 := by
        have h1 : (wires.map (·.1))[j]? = some wi.1 := by rw [List.getElem?_map, hwi]; rfl
        rw [ok.wt, htg] at h1
        exact Option.some.inj h1
      subst etg
      have s14 := s2.trans s4
      have s04 := s12.trans s4
      have hA4 := same_sqt s04 hA
      have hwm := List.mem_of_getElem? hwi
      have okt := ok.okT _ (List.mem_of_getElem? htg)
      have oks := ok.okS _ (ok.ws wi hwm)
      refine ⟨T2, _, rfl, SqT.of upd_same, rfl, _, _, rfl, _, _, rfl, rfl, ?_⟩
      dsimp only [gName]
      refine ⟨_, rfl, .ref a, .ty "tuple", .type "tuple", .type "tuple", true, rfl, .ty _, ty_tup hA4, kit_tup, _, rfl, iteF ?_⟩
      refine ⟨_, rfl, a, _, rfl, .inr hA4, rfl, _, rfl, iteF ?_⟩
      refine ⟨_, rfl, a, _, _, _, rfl, rfl, hA4, atI_nat (j := 0) rfl, _, rfl, dPort wi.1, dPort wi.1, (hu.same s04).dp, (tx.same s14).dp, shp_port okt, shp_port okt, _, rfl, ?_⟩
      rw [eqv_port, decide_eq_true rfl]
      refine iteF ?_
      refine ⟨_, rfl, a, _, _, _, rfl, rfl, hA4, atI_nat (j := 1) rfl, _, rfl, dPort wi.2, (allSrcs ins parts).map dPort, (hz.same s04).dp, .lst (SqL.of (s4 _ _ e2)) (TpAll.same ht2 s4).dp, shp_port oks, shp_ports ok.okS, _, rfl, ?_⟩
      rw [any_ports, decide_eq_true (ok.ws wi hwm)]
      refine iteF ?_
      walk_at "nx"
      exact ⟨s4, _, _, rfl⟩
    · rintro σ H3 ⟨s3, x6, x7, rfl⟩
      exact k _ (s12.trans s3)

end
end K82

set_option maxRecDepth 100000
set_option maxHeartbeats 4000000
namespace Nt
open PySem PySem.Spec PyProof.Rows L2 Ly LamX Nd
section
variable {K : PySem.W.Frag} {H H' : Hp}
theorem nkall_strs : ∀ {p : List Str} {vs : List V}, NkAll K H (p.map NestedKey.text) vs → vs = p.map V.str
  | [], _, .nil => rfl
  | x :: p, _, .cons h t => by
    cases h
    rw [nkall_strs t]
    rfl
theorem tp_key {v : V} {p : Pth} (h : KeyAt K H v (kPath p)) : Tp K H v (dTx p) := by
  obtain ⟨b, rfl⟩ := h.ref
  have hk : NkV K H (.tup (p.map .text)) (.ref b) := h.isk
  cases hk with
  | tup h1 h2 =>
    have := nkall_strs h2
    subst this
    exact tp_path h1
theorem al_val {α : Type} {f : α → NK} {R : V → α → Prop} : ∀ {kvs : List (NK × V)} {l : List α}, Paired (fun kv x => kv.1 = f x ∧ R kv.2 x) kvs l → (l.map f).Nodup → ∀ {x : α}, x ∈ l → ∃ v, valV kvs (f x) = some v ∧ R v x
  | _, _, .nil, _, x, hx => (by cases hx)
  | _, _, .cons (a := kv) (b := y) h t, hn, x, hx => by
    rw [List.map_cons] at hn
    obtain ⟨h1, h2⟩ := List.nodup_cons.mp hn
    by_cases e : f y = f x
    · have exy : x = y := by
        rcases List.mem_cons.mp hx with h | h
        · exact h
        · exact absurd (e ▸ List.mem_map_of_mem h) h1
      subst exy
      exact ⟨kv.2, valV_pos h.1, h.2⟩
    · have hx' : x ∈ _ := (List.mem_cons.mp hx).resolve_left fun z => e (by rw [z])
      obtain ⟨v, e1, e2⟩ := al_val t h2 hx'
      exact ⟨v, by rw [valV_neg (fun z => e (h.1.symm.trans z))]; exact e1, e2⟩
theorem al_none {α : Type} {f : α → NK} {R : V → α → Prop} : ∀ {kvs : List (NK × V)} {l : List α}, Paired (fun kv x => kv.1 = f x ∧ R kv.2 x) kvs l → ∀ {k : NK}, k ∉ l.map f → valV kvs k = none
  | _, _, .nil, k, _ => rfl
  | _, _, .cons (a := kv) (b := y) h t, k, hk => by
    rw [List.map_cons] at hk
    rw [valV_neg (fun z => hk (by rw [← z, h.1]; exact List.mem_cons_self))]
    exact al_none t fun z => hk (List.mem_cons_of_mem _ z)
theorem al_keys {α : Type} {f : α → NK} {R : V → α → Prop} : ∀ {kvs : List (NK × V)} {l : List α}, Paired (fun kv x => kv.1 = f x ∧ R kv.2 x) kvs l → kvs.map (·.1) = l.map f
  | _, _, .nil => rfl
  | _, _, .cons h t => by rw [List.map_cons, List.map_cons, h.1, al_keys t]
theorem map_nodup {α β : Type} {f : α → β} (inj : ∀ x y, f x = f y → x = y) : ∀ {l : List α}, l.Nodup → (l.map f).Nodup
  | [], _ => List.nodup_nil
  | x :: l, h => by
    obtain ⟨h1, h2⟩ := List.nodup_cons.mp h
    rw [List.map_cons]
    refine List.nodup_cons.mpr ⟨fun hm => ?_, map_nodup inj h2⟩
    obtain ⟨y, hy, e⟩ := List.mem_map.mp hm
    exact h1 (inj _ _ e ▸ hy)
end
theorem prim_of_text {n : Str} {c : Option Int} (h : PText n c) : primOf (textOf n c) = some (n, c) := by
  obtain ⟨⟨h1, h2⟩, h3⟩ := h
  cases c with
  | none =>
    refine primOf_plain ?_
    have : withK n = false := by rw [h3]; rfl
    exact (show ∀ n ∈ portNames, withK n = false → n ∈ plain7 by decide +kernel) n h1 this
  | some v =>
    have hw : withK n = true := by rw [h3]; rfl
    have hn := (show ∀ n ∈ portNames, withK n = true → n = "const" ∨ n = "delay" by decide +kernel) n h1 hw
    have hr := h2 v rfl
    exact primOf_K hn hr.1 (by have := hr.2; omega)
theorem prim_of {z : Str} (h : TextOk z) : ∃ n c, PText n c ∧ primOf z = some (n, c) ∧ z = textOf n c ∧ wordT z = n := by
  obtain ⟨n, c, hp, rfl⟩ := h
  exact ⟨n, c, hp, prim_of_text hp, rfl, word_of hp⟩
/-- v is the primitive of the text z -/
def BlkAt (K : PySem.W.Frag) (CP : Addr) (H : Hp) (v : V) (z : Str) : Prop := ∃ x n c, v = .ref x ∧ PText n c ∧ z = textOf n c ∧ PrimAt K CP H x n (optV c) (textOf n c)
theorem BlkAt.same {K : PySem.W.Frag} {CP : Addr} {H H' : Hp} {v : V} {z : Str} (h : BlkAt K CP H v z) (s : Same H H') : BlkAt K CP H' v z := by
  obtain ⟨x, n, c, e, hp, ez, hx⟩ := h
  exact ⟨x, n, c, e, hp, ez, same_prim s hx⟩
theorem BlkAt.sx {K : PySem.W.Frag} {CP p : Addr} {H H' : Hp} {v : V} {z : Str} (h : BlkAt K CP H v z) (s : SameX p H H') (hp : NotT H p) (ne : ∀ dx n i o c t, H p ≠ some (.ins CP dx (fsP n i o c t))) : BlkAt K CP H' v z := by
  obtain ⟨x, n, c, e, hp', ez, dx, i, o, hx, ins, outs, hpt, hi, ho⟩ := h
  exact ⟨x, n, c, e, hp', ez, dx, i, o, s _ _ (fun z => ne dx _ _ _ _ _ (z ▸ hx)) hx, ins, outs, hpt, sqt_sx' s hp hi, sqt_sx' s hp ho⟩
def BlksAt (K : PySem.W.Frag) (CP : Addr) (H : Hp) (kvs : List (NK × V)) (parts : List Part) : Prop := Paired (fun kv (x : Part) => kv.1 = kPath x.1 ∧ BlkAt K CP H kv.2 x.2) kvs parts
def SrcAt (K : PySem.W.Frag) (H : Hp) (kvs : List (NK × V)) (wires : List Nt.Wir) : Prop := Paired (fun kv (x : Nt.Wir) => kv.1 = kPort x.1 ∧ Tp K H kv.2 (dPort x.2)) kvs wires
def srcF (wires : List Nt.Wir) (t : Nt.Prt) : Nt.Prt := ((wires.find? fun y => decide (y.1 = t)).map (·.2)).getD ([], Str.empty)
theorem src_eq {wires : List Nt.Wir} (hn : (wires.map (·.1)).Nodup) {y : Nt.Wir} (hy : y ∈ wires) : srcF wires y.1 = y.2 := by
  induction wires with
  | nil => cases hy
  | cons x l ih =>
    rw [List.map_cons] at hn
    obtain ⟨h1, h2⟩ := List.nodup_cons.mp hn
    unfold srcF
    rw [List.find?_cons]
    by_cases e : x.1 = y.1
    · rw [decide_eq_true e]
      have : y = x := by
        rcases List.mem_cons.mp hy with h | h
        · exact h
        · exact absurd (e ▸ List.mem_map_of_mem h) h1
      rw [this]
      rfl
    · rw [decide_eq_false e]
      exact ih h2 ((List.mem_cons.mp hy).resolve_left fun z => e (by rw [z]))
theorem src_mem {wires : List Nt.Wir} {t : Nt.Prt} (ht : t ∈ wires.map (·.1)) : (t, srcF wires t) ∈ wires := by
  induction wires with
  | nil => cases ht
  | cons x l ih =>
    unfold srcF
    rw [List.find?_cons]
    by_cases e : x.1 = t
    · rw [decide_eq_true e]
      subst e
      exact List.mem_cons_self
    · rw [decide_eq_false e]
      rw [List.map_cons] at ht
      exact List.mem_cons_of_mem _ (ih ((List.mem_cons.mp ht).resolve_left fun z => e z.symm))
theorem tgts_nodup {outs : List Str} {parts : List Part} (pn : (parts.map (·.1)).Nodup) (pp : ∀ x ∈ parts, PathOk x.1) (tx : ∀ x ∈ parts, TextOk x.2) (on : outs.Nodup) : (tgts outs parts).Nodup := by
  unfold tgts
  rw [List.nodup_append]
  refine ⟨?_, map_nodup (fun x y e => (Prod.mk.inj e).2) on, fun a ha b hb e => ?_⟩
  · induction parts with
    | nil => exact List.nodup_nil
    | cons x l ih =>
      rw [List.map_cons] at pn
      obtain ⟨h1, h2⟩ := List.nodup_cons.mp pn
      rw [List.flatMap_cons, List.nodup_append]
      refine ⟨map_nodup (fun x y e => (Prod.mk.inj e).2) (ports_small _ (rowT_of (tx x List.mem_cons_self))).2.2.2.1, ih h2 (fun z hz => pp z (List.mem_cons_of_mem _ hz)) fun z hz => tx z (List.mem_cons_of_mem _ hz), fun a ha b hb e => ?_⟩
      obtain ⟨y, hy, hby⟩ := List.mem_flatMap.mp hb
      refine h1 ?_
      rw [← insP_path ha, e, insP_path hby]
      exact List.mem_map_of_mem hy
  · obtain ⟨x, hx, hax⟩ := List.mem_flatMap.mp ha
    obtain ⟨n, _, rfl⟩ := List.mem_map.mp hb
    have h1 := (pp x hx).1
    have h2 := insP_path hax
    rw [e] at h2
    have h2 : ([] : Pth) = x.1 := h2
    rw [← h2] at h1
    exact absurd h1 (by decide)
theorem NetOk.tn {ins outs : List Str} {parts : List Part} {wires : List Nt.Wir} (ok : NetOk ins outs parts wires) : (wires.map (·.1)).Nodup := by
  rw [ok.wt]
  exact tgts_nodup ok.pn ok.pp ok.tx (List.nodup_append.mp ok.io).2.1
theorem src_at {K : PySem.W.Frag} {H : Hp} {kvs : List (NK × V)} {wires : List Nt.Wir} (h : SrcAt K H kvs wires) (hn : (wires.map (·.1)).Nodup) {t : Nt.Prt} (ht : t ∈ wires.map (·.1)) : ∃ v, valV kvs (kPort t) = some v ∧ Tp K H v (dPort (srcF wires t)) := by
  have hn' : (wires.map fun x : Nt.Wir => kPort x.1).Nodup := by
    have := map_nodup (f := kPort) (fun x y e => kPort_inj e) hn
    rwa [List.map_map] at this
  obtain ⟨v, e1, e2⟩ := al_val (f := fun x : Nt.Wir => kPort x.1) (R := fun v x => Tp K H v (dPort x.2)) h hn' (src_mem ht)
  exact ⟨v, e1, e2⟩
theorem blk_at {K : PySem.W.Frag} {CP : Addr} {H : Hp} {kvs : List (NK × V)} {parts : List Part} (h : BlksAt K CP H kvs parts) (hn : (parts.map (·.1)).Nodup) {x : Part} (hx : x ∈ parts) : ∃ v, valV kvs (kPath x.1) = some v ∧ BlkAt K CP H v x.2 := by
  have hn' : (parts.map fun x : Part => kPath x.1).Nodup := by
    have := map_nodup (f := kPath) (fun x y e => kPath_inj e) hn
    rwa [List.map_map] at this
  exact al_val (f := fun x : Part => kPath x.1) (R := fun v x => BlkAt K CP H v x.2) h hn' hx
theorem blk_none {K : PySem.W.Frag} {CP : Addr} {H : Hp} {kvs : List (NK × V)} {parts : List Part} (h : BlksAt K CP H kvs parts) {p : Pth} (hp : p ∉ parts.map (·.1)) : valV kvs (kPath p) = none := by
  refine al_none (f := fun x : Part => kPath x.1) (R := fun v x => BlkAt K CP H v x.2) h fun hm => hp ?_
  obtain ⟨x, hx, e⟩ := List.mem_map.mp hm
  rw [← kPath_inj e]
  exact List.mem_map_of_mem hx
structure NetV where
  dx : Addr
  i : Addr
  o : Addr
  l : Addr
  d : Addr
  b : Addr
  s : Addr
  fs : List (Str × V)
  us : List V
  ws : List V
  bk : List (NK × V)
  sk : List (NK × V)
def fieldN : List Str := ["inputs", "outputs", "parts", "wires", "blocks", "source_of", "sequence"]
def fsN1 (i : Addr) : List (Str × V) := [("inputs", .ref i)]
def fsN2 (i o : Addr) : List (Str × V) := [("inputs", .ref i), ("outputs", .ref o)]
def fsN3 (i o l : Addr) : List (Str × V) := [("inputs", .ref i), ("outputs", .ref o), ("parts", .ref l)]
def fsN4 (i o l d : Addr) : List (Str × V) := [("inputs", .ref i), ("outputs", .ref o), ("parts", .ref l), ("wires", .ref d)]
def fsN5 (i o l d b : Addr) : List (Str × V) := [("inputs", .ref i), ("outputs", .ref o), ("parts", .ref l), ("wires", .ref d), ("blocks", .ref b)]
def fsN6 (i o l d b s : Addr) : List (Str × V) := [("inputs", .ref i), ("outputs", .ref o), ("parts", .ref l), ("wires", .ref d), ("blocks", .ref b), ("source_of", .ref s)]
def fsN7 (i o l d b s q : Addr) : List (Str × V) := [("inputs", .ref i), ("outputs", .ref o), ("parts", .ref l), ("wires", .ref d), ("blocks", .ref b), ("source_of", .ref s), ("sequence", .ref q)]
section
variable {i o l d b s q : Addr}
theorem fsN_put1 : putF "inputs" (.ref i) [] = fsN1 i := by kernel_rfl
theorem fsN_put2 : putF "outputs" (.ref o) (fsN1 i) = fsN2 i o := by kernel_rfl
theorem fsN_put3 : putF "parts" (.ref l) (fsN2 i o) = fsN3 i o l := by kernel_rfl
theorem fsN_put4 : putF "wires" (.ref d) (fsN3 i o l) = fsN4 i o l d := by kernel_rfl
theorem fsN_put5 : putF "blocks" (.ref b) (fsN4 i o l d) = fsN5 i o l d b := by kernel_rfl
theorem fsN_put6 : putF "source_of" (.ref s) (fsN5 i o l d b) = fsN6 i o l d b s := by kernel_rfl
theorem fsN_put7 : putF "sequence" (.ref q) (fsN6 i o l d b s) = fsN7 i o l d b s q := by kernel_rfl
theorem fsN6_i : (fsN6 i o l d b s).lookup ("inputs" : Str) = some (.ref i) := by kernel_rfl
theorem fsN6_o : (fsN6 i o l d b s).lookup ("outputs" : Str) = some (.ref o) := by kernel_rfl
theorem fsN6_l : (fsN6 i o l d b s).lookup ("parts" : Str) = some (.ref l) := by kernel_rfl
theorem fsN6_d : (fsN6 i o l d b s).lookup ("wires" : Str) = some (.ref d) := by kernel_rfl
theorem fsN6_b : (fsN6 i o l d b s).lookup ("blocks" : Str) = some (.ref b) := by kernel_rfl
theorem fsN6_s : (fsN6 i o l d b s).lookup ("source_of" : Str) = some (.ref s) := by kernel_rfl
theorem fsN7_i : (fsN7 i o l d b s q).lookup ("inputs" : Str) = some (.ref i) := by kernel_rfl
theorem fsN7_o : (fsN7 i o l d b s q).lookup ("outputs" : Str) = some (.ref o) := by kernel_rfl
theorem fsN7_l : (fsN7 i o l d b s q).lookup ("parts" : Str) = some (.ref l) := by kernel_rfl
theorem fsN7_d : (fsN7 i o l d b s q).lookup ("wires" : Str) = some (.ref d) := by kernel_rfl
theorem fsN7_b : (fsN7 i o l d b s q).lookup ("blocks" : Str) = some (.ref b) := by kernel_rfl
theorem fsN7_s : (fsN7 i o l d b s q).lookup ("source_of" : Str) = some (.ref s) := by kernel_rfl
theorem fsN7_q : (fsN7 i o l d b s q).lookup ("sequence" : Str) = some (.ref q) := by kernel_rfl
theorem lookup_out {m : Str} : ∀ {fs : List (Str × V)}, (∀ p ∈ fs, p.1 ≠ m) → fs.lookup m = none
  | [], _ => rfl
  | p :: fs, h => by
    rw [List.lookup_cons, beq_eq_false_iff_ne.mpr fun e : m = p.1 => h p List.mem_cons_self e.symm]
    exact lookup_out fun q hq => h q (List.mem_cons_of_mem _ hq)
theorem fsN6_out {m : Str} (h : m ∉ fieldN) : (fsN6 i o l d b s).lookup m = none := lookup_out fun p hp e => h (by
  rw [← e]
  simp only [fsN6, List.mem_cons, List.not_mem_nil, or_false] at hp
  rcases hp with rfl | rfl | rfl | rfl | rfl | rfl <;> simp [fieldN])
theorem fsN7_out {m : Str} (h : m ∉ fieldN) : (fsN7 i o l d b s q).lookup m = none := lookup_out fun p hp e => h (by
  rw [← e]
  simp only [fsN7, List.mem_cons, List.not_mem_nil, or_false] at hp
  rcases hp with rfl | rfl | rfl | rfl | rfl | rfl | rfl <;> simp [fieldN])
end
theorem notT_ins {H : Hp} {p C dx : Addr} {fs : List (Str × V)} (h : H p = some (.ins C dx fs)) : NotT H p := fun ys r => by
  rcases r with r | ⟨o, r⟩ <;> rw [h] at r <;> cases r
theorem wires_kv {K : PySem.W.Frag} {H : Hp} : ∀ {ws : List V} {wires : List Nt.Wir}, TpAll K H ws (wires.map dWire) → ∃ kvs, Paired (PairV K H) kvs ws ∧ SrcAt K H kvs wires
  | _, [], .nil => ⟨[], .nil, .nil⟩
  | _, x :: wires, .cons h t => by
    obtain ⟨kvs, h1, h2⟩ := wires_kv t
    obtain ⟨a, u, z, rfl, ha, hu, hz⟩ := wire_inv h
    exact ⟨(kPort x.1, z) :: kvs, .cons ⟨a, u, rfl, ha, key_port hu⟩ h1, .cons ⟨rfl, hz⟩ h2⟩
structure NetC (P : Program) (w : World) (K : PySem.W.Frag) (C CP : Addr) (H : Hp) (x : Addr) (ins outs : List Str) (parts : List Part) (wires : List Nt.Wir) (n : NetV) : Prop where
  hx : H x = some (.ins C n.dx n.fs)
  fi : n.fs.lookup ("inputs" : Str) = some (.ref n.i)
  fo : n.fs.lookup ("outputs" : Str) = some (.ref n.o)
  fp : n.fs.lookup ("parts" : Str) = some (.ref n.l)
  fw : n.fs.lookup ("wires" : Str) = some (.ref n.d)
  fb : n.fs.lookup ("blocks" : Str) = some (.ref n.b)
  fg : n.fs.lookup ("source_of" : Str) = some (.ref n.s)
  fm : ∀ m : Str, m ∉ fieldN → n.fs.lookup m = none
  hi : SqT K H n.i (ins.map V.str)
  ho : SqT K H n.o (outs.map V.str)
  hl : SqT K H n.l n.us
  hp : PartsAt K H n.us parts
  hd : SqT K H n.d n.ws
  hw : WiresAt K H n.ws wires
  hb : DNf P w K H n.b n.bk
  bk : BlksAt K CP H n.bk parts
  hs : DNf P w K H n.s n.sk
  sk : SrcAt K H n.sk wires
section
variable {P : Program} {w : World} {K : PySem.W.Frag} {C CP : Addr} {H H' : Hp} {x : Addr} {ins outs : List Str} {parts : List Part} {wires : List Nt.Wir} {n : NetV}
theorem NetC.same (h : NetC P w K C CP H x ins outs parts wires n) (s : Same H H') : NetC P w K C CP H' x ins outs parts wires n :=
  ⟨s _ _ h.hx, h.fi, h.fo, h.fp, h.fw, h.fb, h.fg, h.fm, same_sqt s h.hi, same_sqt s h.ho, same_sqt s h.hl, TpAll.same h.hp s, same_sqt s h.hd, TpAll.same h.hw s, h.hb.same s, paired_imp (fun _ _ z => ⟨z.1, z.2.same s⟩) h.bk, h.hs.same s, paired_imp (fun _ _ z => ⟨z.1, z.2.same s⟩) h.sk⟩
theorem NetC.sx {p : Addr} {xs : List V} (h : NetC P w K C CP H x ins outs parts wires n) (s : SameX p H H') (hp : H p = some (.lst xs)) : NetC P w K C CP H' x ins outs parts wires n := by
  have nt := notT_lst hp
  refine ⟨s _ _ (fun e => by have := h.hx; rw [e, hp] at this; cases this) h.hx, h.fi, h.fo, h.fp, h.fw, h.fb, h.fg, h.fm, sqt_sx' s nt h.hi, sqt_sx' s nt h.ho, sqt_sx' s nt h.hl, TpAll.sx h.hp s nt, sqt_sx' s nt h.hd, TpAll.sx h.hw s nt, h.hb.sx s nt (h.hb.ne_lst hp), paired_imp (fun _ _ z => ⟨z.1, z.2.sx s nt fun dx n i o c t e => by rw [hp] at e; cases e⟩) h.bk, h.hs.sx s nt (h.hs.ne_lst hp), paired_imp (fun _ _ z => ⟨z.1, z.2.sx s nt⟩) h.sk⟩
theorem fsP_parts {n i o c t} : (fsP n i o c t).lookup ("parts" : Str) = none := by kernel_rfl
theorem net_not_prim {H : Hp} {x C CP dx : Addr} {fs : List (Str × V)} {v : V} (hx : H x = some (.ins C dx fs)) (h : fs.lookup ("parts" : Str) = some v) : ∀ dx n i o c t, H x ≠ some (.ins CP dx (fsP n i o c t)) := fun dx' n i o c t e => by
  rw [hx] at e
  injection e with e
  injection e with _ _ e
  rw [e, fsP_parts] at h
  cases h
theorem NetC.reset (h : NetC P w K C CP H x ins outs parts wires n) (s : SameX x H H') {fs : List (Str × V)} (hx : H' x = some (.ins C n.dx fs)) (fi : fs.lookup ("inputs" : Str) = some (.ref n.i)) (fo : fs.lookup ("outputs" : Str) = some (.ref n.o)) (fp : fs.lookup ("parts" : Str) = some (.ref n.l)) (fw : fs.lookup ("wires" : Str) = some (.ref n.d))
    (fb : fs.lookup ("blocks" : Str) = some (.ref n.b)) (fg : fs.lookup ("source_of" : Str) = some (.ref n.s)) (fm : ∀ m : Str, m ∉ fieldN → fs.lookup m = none) : NetC P w K C CP H' x ins outs parts wires { n with fs := fs } := by
  have nt := notT_ins h.hx
  have np := net_not_prim (CP := CP) h.hx h.fp
  have nd : ∀ {a : Addr} {kvs : List (NK × V)}, DNf P w K H a kvs → a ≠ x := fun hd e => by
    obtain ⟨o, qs, e1, _⟩ := hd
    rw [e, h.hx] at e1
    cases e1
  exact ⟨hx, fi, fo, fp, fw, fb, fg, fm, sqt_sx' s nt h.hi, sqt_sx' s nt h.ho, sqt_sx' s nt h.hl, TpAll.sx h.hp s nt, sqt_sx' s nt h.hd, TpAll.sx h.hw s nt, h.hb.sx s nt (nd h.hb), paired_imp (fun _ _ z => ⟨z.1, z.2.sx s nt np⟩) h.bk, h.hs.sx s nt (nd h.hs), paired_imp (fun _ _ z => ⟨z.1, z.2.sx s nt⟩) h.sk⟩
end
/-- the parts other than delays, each one behind those that feed it -/
structure Seqd (parts : List Part) (wires : List Nt.Wir) (ps : List Pth) : Prop where
  nd : ps.Nodup
  mem : ∀ p, p ∈ ps ↔ ∃ x ∈ parts, x.1 = p ∧ isD x = false
  fed : ∀ (i : Nat) (p : Pth), ps[i]? = some p → ∀ y ∈ wires, y.1.1 = p → y.2.1 = [] ∨ (∃ x ∈ parts, isD x = true ∧ x.1 = y.2.1) ∨ y.2.1 ∈ ps.take i
structure NetI (P : Program) (w : World) (K : PySem.W.Frag) (C CP : Addr) (H : Hp) (x : Addr) (ins outs : List Str) (parts : List Part) (wires : List Nt.Wir) (n : NetV) : Prop where
  c : NetC P w K C CP H x ins outs parts wires n
  q : ∃ (a : Addr) (us : List V) (ps : List Pth), n.fs.lookup ("sequence" : Str) = some (.ref a) ∧ H a = some (.lst us) ∧ TpAll K H us (ps.map dTx) ∧ Seqd parts wires ps
end Nt

set_option maxRecDepth 100000
set_option maxHeartbeats 4000000
namespace Nt
open PySem PySem.Spec PyProof.Rows L2 Ly LamX Nd
def isFed (wires : List Nt.Wir) (x : Part) (kvs : List (NK × V)) : Bool := (insP x).all fun t => (valV kvs (kPath (srcF wires t).1)).isSome
theorem put_new {kvs : List (NK × V)} {k : NK} {v : V} (h : k ∉ kvs.map (·.1)) : putK kvs k v = kvs ++ [(k, v)] := by
  unfold putK
  rw [if_neg]
  intro e
  obtain ⟨kv, h1, h2⟩ := List.any_eq_true.mp e
  exact h (List.mem_map.mpr ⟨kv, h1, of_decide_eq_true h2⟩)
/-- the keys that are found -/
def Fnd (parts ord : List Part) (kvs : List (NK × V)) : Prop := (∀ p : Pth, (valV kvs (kPath p)).isSome = true ↔ (p = [] ∨ (∃ x ∈ parts, isD x = true ∧ x.1 = p) ∨ ∃ x ∈ ord, x.1 = p)) ∧ kvs.length ≤ 17 + ord.length
theorem Fnd.put {parts ord : List Part} {kvs : List (NK × V)} (h : Fnd parts ord kvs) (x : Part) (v : V) : Fnd parts (ord ++ [x]) (putK kvs (kPath x.1) v) := by
  refine ⟨fun p => ?_, ?_⟩
  · rw [valV_put]
    by_cases e : kPath p = kPath x.1
    · rw [if_pos e]
      have e := kPath_inj e
      exact ⟨fun _ => .inr (.inr ⟨x, List.mem_append_right _ (List.mem_singleton.mpr rfl), e.symm⟩), fun _ => rfl⟩
    · rw [if_neg e, h.1 p]
      have e : p ≠ x.1 := fun z => e (by rw [z])
      constructor
      · rintro (h | h | ⟨y, hy, r⟩)
        · exact .inl h
        · exact .inr (.inl h)
        · exact .inr (.inr ⟨y, List.mem_append_left _ hy, r⟩)
      · rintro (h | h | ⟨y, hy, r⟩)
        · exact .inl h
        · exact .inr (.inl h)
        · rcases List.mem_append.mp hy with hy | hy
          · exact .inr (.inr ⟨y, hy, r⟩)
          · rw [List.mem_singleton.mp hy] at r
            exact absurd r.symm e
  · have := length_putK kvs (kPath x.1) v
    have := h.2
    rw [List.length_append, List.length_singleton]
    omega
def dels (parts : List Part) : List (NK × V) := (parts.filter isD).map fun x => (kPath x.1, V.bl true)
theorem dels_succ {parts : List Part} {i : Nat} {x : Part} (hx : parts[i]? = some x) : dels (parts.take (i + 1)) = dels (parts.take i) ++ if isD x = true then [(kPath x.1, .bl true)] else [] := by
  unfold dels
  rw [List.take_add_one, hx, List.filter_append, List.map_append]
  congr 1
  cases h : isD x <;> simp [h]
theorem dels_fresh {parts : List Part} (hn : (parts.map (·.1)).Nodup) {i : Nat} {x : Part} (hx : parts[i]? = some x) : kPath x.1 ∉ (dels (parts.take i)).map (·.1) := fun hm => by
  unfold dels at hm
  rw [List.map_map] at hm
  obtain ⟨y, hy, e⟩ := List.mem_map.mp hm
  obtain ⟨j, hj⟩ := List.getElem?_of_mem (List.mem_filter.mp hy).1
  have hj2 : j < i := by
    have h1 := (List.getElem?_eq_some_iff.mp hj).1
    rw [List.length_take] at h1
    omega
  rw [List.getElem?_take_of_lt hj2] at hj
  have := nodup_ix hn hj hx (kPath_inj e)
  omega
theorem dels_len (parts : List Part) : (dels parts).length ≤ parts.length := by
  unfold dels
  rw [List.length_map]
  exact List.length_filter_le _ _
theorem fnd_zero {parts : List Part} (h16 : parts.length ≤ 16) (v : V) : Fnd parts [] (putK (dels parts) (kPath []) v) := by
  refine ⟨fun p => ?_, ?_⟩
  · rw [valV_put]
    by_cases e : kPath p = kPath []
    · rw [if_pos e]
      exact ⟨fun _ => .inl (kPath_inj e), fun _ => rfl⟩
    · rw [if_neg e, ← valV_any, List.any_eq_true]
      have e : p ≠ [] := fun z => e (by rw [z])
      constructor
      · rintro ⟨kv, h1, h2⟩
        obtain ⟨x, hx, rfl⟩ := List.mem_map.mp h1
        obtain ⟨h3, h4⟩ := List.mem_filter.mp hx
        exact .inr (.inl ⟨x, h3, h4, kPath_inj (of_decide_eq_true h2)⟩)
      · rintro (h | ⟨x, hx, hd, rfl⟩ | ⟨x, hx, _⟩)
        · exact absurd h e
        · exact ⟨(kPath x.1, .bl true), List.mem_map.mpr ⟨x, List.mem_filter.mpr ⟨hx, hd⟩, rfl⟩, decide_eq_true rfl⟩
        · cases hx
  · have := length_putK (dels parts) (kPath []) v
    have := dels_len parts
    rw [List.length_nil]
    omega
/-- what is left -/
def lfOf (parts : List Part) (kvs : List (NK × V)) : List Part := parts.filter fun x => !(valV kvs (kPath x.1)).isSome
structure Ordd (parts : List Part) (wires : List Nt.Wir) (ord : List Part) : Prop where
  sub : ∀ x ∈ ord, x ∈ parts ∧ isD x = false
  nd : ord.Nodup
  fed : ∀ (i : Nat) (x : Part), ord[i]? = some x → ∀ y ∈ wires, y.1.1 = x.1 → y.2.1 = [] ∨ (∃ z ∈ parts, isD z = true ∧ z.1 = y.2.1) ∨ y.2.1 ∈ (ord.take i).map (·.1)
section
variable {ins outs : List Str} {parts ord : List Part} {wires : List Nt.Wir} {kvs : List (NK × V)}
theorem nodup_un {α β : Type} {f : α → β} {l : List α} (h : (l.map f).Nodup) : l.Nodup := (List.pairwise_map.mp h).imp fun hne e => hne (congrArg f e)
theorem nodup_len {α : Type} [DecidableEq α] : ∀ {l m : List α}, l.Nodup → (∀ x ∈ l, x ∈ m) → l.length ≤ m.length
  | [], _, _, _ => Nat.zero_le _
  | x :: l, m, hn, h => by
    obtain ⟨h1, h2⟩ := List.nodup_cons.mp hn
    have hx := h x List.mem_cons_self
    have ih := nodup_len (m := m.erase x) h2 fun y hy => (List.mem_erase_of_ne fun e : y = x => h1 (by rw [← e]; exact hy)).mpr (h y (List.mem_cons_of_mem _ hy))
    rw [List.length_erase_of_mem hx] at ih
    have := List.length_pos_of_mem hx
    rw [List.length_cons]
    omega
theorem path_uniq (hn : (parts.map (·.1)).Nodup) {x y : Part} (hx : x ∈ parts) (hy : y ∈ parts) (e : x.1 = y.1) : x = y := by
  obtain ⟨i, hi⟩ := List.getElem?_of_mem hx
  obtain ⟨j, hj⟩ := List.getElem?_of_mem hy
  have := nodup_ix hn hi hj e
  subst this
  rw [hi] at hj
  exact Option.some.inj hj
theorem tgt_of (ok : NetOk ins outs parts wires) {p : Part} (hp : p ∈ parts) {t : Nt.Prt} (ht : t ∈ insP p) : t ∈ wires.map (·.1) := by
  rw [ok.wt]
  exact List.mem_append_left _ (List.mem_flatMap.mpr ⟨p, hp, ht⟩)
theorem path_ne (ok : NetOk ins outs parts wires) {x : Part} (hx : x ∈ parts) : x.1 ≠ [] := fun e => by
  have := (ok.pp x hx).1
  rw [e] at this
  exact absurd this (by decide)
theorem wire_in (ok : NetOk ins outs parts wires) {x : Part} (hx : x ∈ parts) {y : Nt.Wir} (hy : y ∈ wires) (e : y.1.1 = x.1) : y.1 ∈ insP x := by
  have hm : y.1 ∈ tgts outs parts := by
    rw [← ok.wt]
    exact List.mem_map_of_mem hy
  rcases List.mem_append.mp hm with h | h
  · obtain ⟨z, hz, hyz⟩ := List.mem_flatMap.mp h
    rw [path_uniq ok.pn hx hz (by rw [← e, insP_path hyz])]
    exact hyz
  · obtain ⟨n, _, en⟩ := List.mem_map.mp h
    rw [← en] at e
    exact absurd e.symm (path_ne ok hx)
theorem fed_iff (ok : NetOk ins outs parts wires) {x : Part} (hx : x ∈ parts) : isFed wires x kvs = true ↔ ∀ y ∈ wires, y.1.1 = x.1 → (valV kvs (kPath y.2.1)).isSome = true := by
  unfold isFed
  rw [List.all_eq_true]
  constructor
  · intro h y hy e
    have := h _ (wire_in ok hx hy e)
    rwa [src_eq ok.tn hy] at this
  · intro h t ht
    exact h _ (src_mem (tgt_of ok hx ht)) (insP_path ht)
theorem lf_mem (hf : Fnd parts ord kvs) (ok : NetOk ins outs parts wires) (ho : Ordd parts wires ord) {x : Part} : x ∈ lfOf parts kvs ↔ x ∈ parts ∧ isD x = false ∧ x ∉ ord := by
  unfold lfOf
  rw [List.mem_filter]
  refine and_congr_right fun hx => ?_
  rw [Bool.not_eq_true', ← Bool.not_eq_true, hf.1 x.1]
  constructor
  · intro h
    refine ⟨?_, fun ho => h (.inr (.inr ⟨x, ho, rfl⟩))⟩
    cases hd : isD x with
    | false => rfl
    | true => exact absurd (.inr (.inl ⟨x, hx, hd, rfl⟩)) h
  · rintro ⟨h1, h2⟩ (h | ⟨y, hy, hd, e⟩ | ⟨y, hy, e⟩)
    · exact path_ne ok hx h
    · rw [path_uniq ok.pn hy hx e, h1] at hd
      cases hd
    · rw [path_uniq ok.pn (ho.sub y hy).1 hx e] at hy
      exact h2 hy
theorem min_of {α : Type} (f : α → Nat) : ∀ {l : List α}, l ≠ [] → ∃ x ∈ l, ∀ y ∈ l, f x ≤ f y
  | [], h => absurd rfl h
  | [x], _ => ⟨x, List.mem_cons_self, fun y hy => by rw [List.mem_singleton.mp hy]; exact Nat.le_refl _⟩
  | x :: y :: l, _ => by
    obtain ⟨z, hz, hm⟩ := min_of f (l := y :: l) (by simp)
    by_cases h : f x ≤ f z
    · refine ⟨x, List.mem_cons_self, fun u hu => ?_⟩
      rcases List.mem_cons.mp hu with rfl | hu
      · exact Nat.le_refl _
      · exact Nat.le_trans h (hm u hu)
    · refine ⟨z, List.mem_cons_of_mem _ hz, fun u hu => ?_⟩
      rcases List.mem_cons.mp hu with rfl | hu
      · omega
      · exact hm u hu
/-- something is ready -/
theorem some_ready (hf : Fnd parts ord kvs) (ok : NetOk ins outs parts wires) (ho : Ordd parts wires ord) (hl : lfOf parts kvs ≠ []) : (lfOf parts kvs).filter (fun x => isFed wires x kvs) ≠ [] := by
  obtain ⟨rank, hr⟩ := ok.ac
  obtain ⟨x, hx, hm⟩ := min_of (fun x : Part => rank x.1) hl
  obtain ⟨h1, h2, _⟩ := (lf_mem hf ok ho).mp hx
  refine List.ne_nil_of_mem (List.mem_filter.mpr ⟨hx, (fed_iff ok h1).mpr fun y hy e => ?_⟩)
  rw [hf.1]
  rcases List.mem_append.mp (ok.ws y hy) with h | h
  · obtain ⟨n, _, en⟩ := List.mem_map.mp h
    exact .inl (by rw [← en])
  · obtain ⟨z, hz, hyz⟩ := List.mem_flatMap.mp h
    have ez := outsP_path hyz
    cases hd : isD z with
    | true => exact .inr (.inl ⟨z, hz, hd, ez.symm⟩)
    | false =>
      by_cases hzo : z ∈ ord
      · exact .inr (.inr ⟨z, hzo, ez.symm⟩)
      · have h3 := hm z ((lf_mem hf ok ho).mpr ⟨hz, hd, hzo⟩)
        have h4 := hr y hy x h1 z hz e ez h2 hd
        have h3 : rank x.1 ≤ rank z.1 := h3
        omega
theorem Ordd.more (hf : Fnd parts ord kvs) (ok : NetOk ins outs parts wires) (ho : Ordd parts wires ord) : Ordd parts wires (ord ++ (lfOf parts kvs).filter fun x => isFed wires x kvs) := by
  have hmem : ∀ x ∈ (lfOf parts kvs).filter (fun x => isFed wires x kvs), (x ∈ parts ∧ isD x = false ∧ x ∉ ord) ∧ isFed wires x kvs = true := fun x hx => by
    obtain ⟨h1, h2⟩ := List.mem_filter.mp hx
    exact ⟨(lf_mem hf ok ho).mp h1, h2⟩
  have hnp : parts.Nodup := nodup_un ok.pn
  refine ⟨fun x hx => ?_, ?_, fun i x hi y hy e => ?_⟩
  · rcases List.mem_append.mp hx with hx | hx
    · exact ho.sub x hx
    · exact ⟨(hmem x hx).1.1, (hmem x hx).1.2.1⟩
  · refine List.nodup_append.mpr ⟨ho.nd, (hnp.filter _).filter _, fun a ha b hb e => (hmem b hb).1.2.2 (e ▸ ha)⟩
  · by_cases hlt : i < ord.length
    · rw [List.getElem?_append_left hlt] at hi
      rcases ho.fed i x hi y hy e with h | h | h
      · exact .inl h
      · exact .inr (.inl h)
      · refine .inr (.inr ?_)
        rw [List.take_append_of_le_length (Nat.le_of_lt hlt)]
        exact h
    · rw [List.getElem?_append_right (by omega)] at hi
      have hm := hmem x (List.mem_of_getElem? hi)
      have := (fed_iff ok hm.1.1).mp hm.2 y hy e
      rcases (hf.1 _).mp this with h | h | ⟨z, hz, ez⟩
      · exact .inl h
      · exact .inr (.inl h)
      · refine .inr (.inr (List.mem_map.mpr ⟨z, ?_, ez⟩))
        rw [List.take_append]
        refine List.mem_append_left _ ?_
        rw [List.take_of_length_le (by omega)]
        exact hz
theorem ordd_nil : Ordd parts wires [] := ⟨fun x hx => (by cases hx), List.nodup_nil, fun i x hi => (by simp at hi)⟩
/-- what is left behind a turn -/
theorem lf_next {kvs' : List (NK × V)} {R : List Part} (hf : Fnd parts ord kvs) (hf' : Fnd parts (ord ++ R) kvs') : (lfOf parts kvs).filter (fun x => !(valV kvs' (kPath x.1)).isSome) = lfOf parts kvs' := by
  unfold lfOf
  rw [List.filter_filter]
  refine List.filter_congr fun x _ => ?_
  cases h' : (valV kvs' (kPath x.1)).isSome with
  | true => rfl
  | false =>
    cases h : (valV kvs (kPath x.1)).isSome with
    | false => rfl
    | true =>
      have := (hf.1 x.1).mp h
      have h2 : (valV kvs' (kPath x.1)).isSome = true := (hf'.1 x.1).mpr (by
        rcases this with h | h | ⟨y, hy, e⟩
        · exact .inl h
        · exact .inr (.inl h)
        · exact .inr (.inr ⟨y, List.mem_append_left _ hy, e⟩))
      rw [h'] at h2
      cases h2
theorem lf_less {kvs' : List (NK × V)} {R : List Part} (hf : Fnd parts ord kvs) (hf' : Fnd parts (ord ++ R) kvs') (hR : R ≠ []) (hs : ∀ x ∈ R, x ∈ lfOf parts kvs) : (lfOf parts kvs').length < (lfOf parts kvs).length := by
  rw [← lf_next hf hf']
  obtain ⟨x, hx⟩ := List.exists_mem_of_ne_nil R hR
  have h2 : (valV kvs' (kPath x.1)).isSome = true := (hf'.1 x.1).mpr (.inr (.inr ⟨x, List.mem_append_right _ hx, rfl⟩))
  exact List.length_filter_lt_length_iff_exists.mpr ⟨x, hs x hx, by rw [h2]; decide⟩
theorem ord_done (hf : Fnd parts ord kvs) (ok : NetOk ins outs parts wires) (ho : Ordd parts wires ord) (hl : lfOf parts kvs = []) : Seqd parts wires (ord.map (·.1)) := by
  have hnp : ∀ x ∈ parts, isD x = false → x ∈ ord := fun x hx hd => by
    by_cases h : x ∈ ord
    · exact h
    · have := (lf_mem hf ok ho).mpr ⟨hx, hd, h⟩
      rw [hl] at this
      cases this
  refine ⟨?_, fun p => ?_, fun i p hp y hy e => ?_⟩
  · refine (List.pairwise_map.mpr (ho.nd.imp_of_mem fun {a b} ha hb ne e => ne (path_uniq ok.pn (ho.sub a ha).1 (ho.sub b hb).1 e)))
  · constructor
    · intro h
      obtain ⟨x, hx, rfl⟩ := List.mem_map.mp h
      exact ⟨x, (ho.sub x hx).1, rfl, (ho.sub x hx).2⟩
    · rintro ⟨x, hx, rfl, hd⟩
      exact List.mem_map_of_mem (hnp x hx hd)
  · rw [List.getElem?_map] at hp
    obtain ⟨x, hx, rfl⟩ := Option.map_eq_some_iff.mp hp
    rw [← List.map_take]
    exact ho.fed i x hx y hy e
theorem ord_len (ok : NetOk ins outs parts wires) (ho : Ordd parts wires ord) : ord.length ≤ parts.length := by
  exact nodup_len ho.nd fun x hx => (ho.sub x hx).1
end
theorem shp_path0 {p : Pth} (h : ∀ x ∈ p, OkS x) : (dTx p).canLay0 = true ∧ (dTx p).depth ≤ 1 := by
  obtain ⟨a1, a2⟩ := shp_list (f := PyData.str) (k := 0) (by decide) (l := p) fun x hx => ⟨h x hx, Nat.le_refl _⟩
  refine ⟨a1, ?_⟩
  have e : (dTx p).depth = PyData.depthAll (p.map .str) + 1 := by simp [dTx, PyData.depth]
  rw [e]
  omega
theorem shp_paths {l : List Pth} (h : ∀ p ∈ l, ∀ x ∈ p, OkS x) : SeqAt.shaped (.list (l.map dTx)) = true := by
  obtain ⟨a1, a2⟩ := shp_list (f := dTx) (k := 1) (by decide) (l := l) fun q hq => shp_path0 (h q hq)
  have e1 : (PyData.list (l.map dTx)).canLay0 = true := a1
  have e2 : (PyData.list (l.map dTx)).depth ≤ 64 := by
    have e : (PyData.list (l.map dTx)).depth = PyData.depthAll (l.map dTx) + 1 := by simp [PyData.depth]
    rw [e]
    omega
  show ((PyData.list (l.map dTx)).canLay0 && decide ((PyData.list (l.map dTx)).depth ≤ 64)) = true
  rw [e1, decide_eq_true e2]
  rfl
theorem eqv_nil {α : Type} (f : α → PyData) (l : List α) : PyData.eqv (.list (l.map f)) (.list []) = decide (l = []) := by
  cases l with
  | nil => rfl
  | cons x l => rfl
theorem paths_okS {ins outs : List Str} {parts : List Part} {wires : List Nt.Wir} (ok : NetOk ins outs parts wires) {l : List Part} (hl : ∀ x ∈ l, x ∈ parts) : ∀ p ∈ l.map (·.1), ∀ x ∈ p, OkS x := fun p hp x hx => by
  obtain ⟨y, hy, rfl⟩ := List.mem_map.mp hp
  exact okS_name ((ok.pp y (hl y hy)).2.2 x hx)
end Nt

set_option maxRecDepth 100000
set_option maxHeartbeats 4000000
namespace Nd
open PySem PySem.Spec PyProof.Rows L2 Ly LamX
def tAftF (t : TE) : TE := fun σ H Q => t σ H fun y H1 => ∃ d u, y = .ref d ∧ H1 d = some u ∧ Mut (some u) ∧ ∀ od, Q y (upd H1 d (.frz od u))
theorem pe_aft {X : Cx} {e : Expr} {t : TE} (h : PE X e t) : PE X e (tAftF t) := by
  refine ⟨fun pins s σ H Q I hw => ?_⟩
  refine thn (h.run pins s σ H _ I hw) fun u s1 ⟨y, H1, I1, r1, d, o, ey, hd, mu, q⟩ => ?_
  obtain ⟨od, I2⟩ := I1.lock hd mu
  exact ⟨y, _, I2, r1, q od⟩
end Nd

set_option maxRecDepth 100000
set_option maxHeartbeats 4000000
namespace K82
open PySem L2 Ly Nd Nt Od
local macro_rules | `(tactic| walk_at "nx") => `(tactic| dsimp only [tNext])
section
variable {P : Program} {w : World} {K : PySem.W.Frag} {mg : Str → Option Value} {base : Heap} {ad : Adr}
theorem blk_step {CP : Addr} {H : Hp} {qs : Q3} {bk : List (NK × V)} {parts : List Part} (e : pairsN qs = bk) (kn : KeysN K H qs) (h : BlksAt K CP H bk parts) {i : Nat} {q : NK × Addr × V} (hq : qs[i]? = some q) : ∃ x, parts[i]? = some x ∧ BlkAt K CP H q.2.2 x.2 ∧ Tp K H (.ref q.2.1) (dTx x.1) := by
  subst e
  have hq' : (pairsN qs)[i]? = some (q.1, q.2.2) := by
    unfold pairsN
    rw [List.getElem?_map, hq]
    rfl
  obtain ⟨x, hx, e1, e2⟩ := pl_get' h hq'
  have hk := kn.1 q (List.mem_of_getElem? hq)
  have e1 : q.1 = kPath x.1 := e1
  rw [e1] at hk
  exact ⟨x, hx, e2, tp_key hk⟩
theorem blk_len {CP : Addr} {H : Hp} {qs : Q3} {bk : List (NK × V)} {parts : List Part} (e : pairsN qs = bk) (h : BlksAt K CP H bk parts) : qs.length = parts.length := by
  have := paired_len h
  rw [← e] at this
  unfold pairsN at this
  rwa [List.length_map] at this
theorem blk_word {n : Str} {c : Option Int} {z : Str} (hp : PText n c) (e : z = textOf n c) : wordT z = n := by rw [e, word_of hp]
theorem blk_delay {n : Str} {c : Option Int} {z : Str} (hp : PText n c) (e : z = textOf n c) (hd : n = "delay") : optV c = .int (constT z) := by
  have h1 := prim_of_text hp
  rw [← e] at h1
  have : withK n = true := by rw [hd]; decide +kernel
  rw [hp.2] at this
  cases c with
  | none => cases this
  | some v =>
    unfold constT
    rw [h1]
    rfl
theorem firsts_succ {parts : List Part} {i : Nat} {x : Part} (hx : parts[i]? = some x) : firsts (parts.take (i + 1)) = firsts (parts.take i) ++ if isD x = true then [(kPath x.1, .int (constT x.2))] else [] := by
  unfold firsts
  rw [List.take_add_one, hx, List.filter_append, List.map_append]
  congr 1
  cases h : isD x <;> simp [h]
theorem firsts_len (parts : List Part) : (firsts parts).length ≤ parts.length := by
  unfold firsts
  rw [List.length_map]
  exact List.length_filter_le _ _
theorem firsts_fresh {parts : List Part} (hn : (parts.map (·.1)).Nodup) {i : Nat} {x : Part} (hx : parts[i]? = some x) : kPath x.1 ∉ (firsts (parts.take i)).map (·.1) := fun hm => by
  unfold firsts at hm
  rw [List.map_map] at hm
  obtain ⟨y, hy, e⟩ := List.mem_map.mp hm
  obtain ⟨j, hj⟩ := List.getElem?_of_mem ((List.mem_filter.mp hy).1)
  have hj2 : j < i := by
    have h1 := (List.getElem?_eq_some_iff.mp hj).1
    rw [List.length_take] at h1
    omega
  rw [List.getElem?_take_of_lt hj2] at hj
  have := nodup_ix hn hj hx (kPath_inj e)
  omega
def spFirstSt (P : Program) (w : World) (K : PySem.W.Frag) (C CP : Addr) : Sp := fun vs H Q _ => ∃ (x : Addr) (ins outs : List Str) (parts : List Part) (wires : List Nt.Wir) (n : NetV), vs = [.ref x] ∧ NetC P w K C CP H x ins outs parts wires n ∧ parts.length ≤ 16 ∧ (parts.map (·.1)).Nodup ∧
  ∀ (d : Addr) (H' : Hp), Same H H' → H d = none → DNf P w K H' d (firsts parts) → Q (.ref d) H'
theorem sc_Net_first_state : FnScope ["self", "path", "block"] ["self"] (defScope s_Net_first_state) := ⟨rfl, rfl, rfl, by decide +kernel, rfl, by decide +kernel, by decide +kernel⟩
theorem ok_firstSt {f : Addr} {fd : FuncData} (F : Fun K "first_state" "Net.first_state" s_Net_first_state f fd) (T : Txt K w mg ad) : FnOk P w K mg base CX0 1 f fd ["self"] (spFirstSt P w K ad.C_Net ad.C_Primitive) := by
  refine F.ok sc_Net_first_state (fun vs H Q E h => ?_) (fun cdv A outer s H vs Q E hr h => ?_)
  · obtain ⟨x, ins, outs, parts, wires, n, rfl, _⟩ := h
    rfl
  · obtain ⟨x, ins, outs, parts, wires, n, rfl, N, h16, hnd, k⟩ := h
    refine ⟨_, (pss_one (ps_ret (pe_aft (pe_dcN P w K (own := [("path", 1), ("block", 2)]) rfl sc_Net_first_state.nd (hu8 hr) (pi_itemsN P w (pe_fldK K (pv 0) rfl)) (blkOk_by (own := [("path", 1), ("block", 2)]) (N := ["self", "path", "block"]) (sc := defScope s_Net_first_state) (by decide +kernel)) (fun _ _ _ _ _ => (by exact (pg_tupK K (n := 2) (by rfl) (pgs_cons (pg_name (i := 1) sc_Net_first_state.nd rfl (Or.inl rfl)) (pgs_cons (pg_name (i := 2) sc_Net_first_state.nd rfl (Or.inl rfl)) pgs_nil))))) (fun _ _ _ _ _ => (pts_one (pt_cmpR op_eq (pe_fldK K (pv 2) rfl) pe_str (nomark _)))) (fun _ _ _ _ _ => (pv 1)) (fun _ _ _ _ _ => (pe_fldK K (pv 2) rfl)))))), ?_⟩
    obtain ⟨ob, qs, hbo, eqs, kqs⟩ := N.hb
    have hql := blk_len eqs N.bk
    refine ⟨_, rfl, x, ad.C_Net, n.dx, n.fs, _, rfl, N.hx, T.cl_Net, T.na_Net_blocks, N.fb, n.b, ob, qs, rfl, hbo, ?_⟩
    intro D hD
    refine dcN_it walk_itemsN (fun i H' => Same H H' ∧ DNm P w K H' D (firsts (parts.take i))) hD (fun H' s d => ⟨s, d⟩) (fun i H' _ h => h.1 _ _ hbo) ?_ ?_
    · rintro i y H1 H' hi ⟨s1, d1⟩ ⟨t, q, hq, rfl, ht, rfl⟩
      obtain ⟨p, hp, hbl, htp⟩ := blk_step eqs kqs N.bk hq
      have s2 := same_new (o := .tup [.ref q.2.1, q.2.2]) ht
      have s12 := s1.trans s2
      obtain ⟨b, nm, c, eb, hpt, ez, dx, bi, bo, hbx, _⟩ := hbl.same s12
      refine ⟨t, _, rfl, SqT.of upd_same, rfl, _, _, rfl, _, _, rfl, rfl, ?_⟩
      dsimp only [gName]
      refine ⟨rfl, _, rfl, b, ad.C_Primitive, dx, _, _, eb, hbx, T.cl_Primitive, T.na_Primitive_name, fsP_name, rfl, _, rfl, ?_⟩
      have ew := blk_word hpt ez
      have d2 := d1.same s2
      by_cases hd : nm = "delay"
      · rw [decide_eq_true (congrArg V.str hd)]
        have hdx : isD p = true := by unfold isD; rw [ew]; exact decide_eq_true hd
        refine iteT ⟨_, rfl, _, rfl, b, ad.C_Primitive, dx, _, _, eb, hbx, T.cl_Primitive, T.na_Primitive_constant, fsP_const, _, _, d2, key_path (htp.same s12), ?_, fun H6 s6 d6 => ⟨?_, ?_⟩⟩
        · have h1 := firsts_len (parts.take i)
          have h2 := List.length_take_le i parts
          exact Nat.lt_of_lt_of_le (show _ < 17 by omega) (by rw [sizeLine_eq]; decide)
        · exact fun b' u' e' => s6 b' u' (ne_of_none e' hD) (s12 b' u' e')
        · rw [firsts_succ hp, hdx, if_pos rfl, ← put_new (firsts_fresh hnd hp), ← blk_delay hpt ez hd]
          exact d6
      · rw [decide_eq_false (fun e => hd (V.str.inj e))]
        have hdx : isD p = false := by unfold isD; rw [ew]; exact decide_eq_false hd
        refine iteF ⟨s12, ?_⟩
        rw [firsts_succ hp, hdx, if_neg Bool.false_ne_true, List.append_nil]
        exact d2
    · rintro H1 ⟨s1, d1⟩
      rw [hql, List.take_length] at d1
      obtain ⟨u, hu, mu, fz⟩ := d1.frz
      exact ⟨D, u, rfl, hu, mu, fun od => k D _ (same_mut s1 hD) hD (fz od).1⟩

end
end K82

set_option maxRecDepth 100000
set_option maxHeartbeats 4000000
namespace K82
open PySem L2 Ly Nd Nt Od
local macro_rules | `(tactic| walk_at "nx") => `(tactic| dsimp only [tNext])
section
variable {P : Program} {w : World} {K : PySem.W.Frag} {mg : Str → Option Value} {base : Heap} {ad : Adr}
def spIsFed (P : Program) (w : World) (K : PySem.W.Frag) (C CP : Addr) : Sp := fun vs H Q _ => ∃ (x f : Addr) (v : V) (ins outs : List Str) (parts : List Part) (wires : List Nt.Wir) (n : NetV) (p : Part) (kvs : List (NK × V)), vs = [.ref x, v, .ref f] ∧ NetC P w K C CP H x ins outs parts wires n ∧ NetOk ins outs parts wires ∧ p ∈ parts ∧ Tp K H v (dTx p.1) ∧ DN P w K H f kvs ∧
  ∀ (H' : Hp), Same H H' → Q (.bl (isFed wires p kvs)) H'
theorem sc_Net_is_fed : FnScope ["self", "path", "found", "port"] ["self", "path", "found"] (defScope s_Net_is_fed) := ⟨rfl, rfl, rfl, by decide +kernel, rfl, by decide +kernel, by decide +kernel⟩
theorem ok_isFed {f : Addr} {fd : FuncData} (F : Fun K "is_fed" "Net.is_fed" s_Net_is_fed f fd) (T : Txt K w mg ad) : FnOk P w K mg base CX0 1 f fd ["self", "path", "found"] (spIsFed P w K ad.C_Net ad.C_Primitive) := by
  refine F.ok sc_Net_is_fed (fun vs H Q E h => ?_) (fun cdv A outer s H vs Q E hr h => ?_)
  · obtain ⟨x, f, v, ins, outs, parts, wires, n, p, kvs, rfl, _⟩ := h
    rfl
  · obtain ⟨x, f, v, ins, outs, parts, wires, n, p, kvs, rfl, N, ok, hp, hv, hf, k⟩ := h
    refine ⟨_, (pss_one (ps_ret (pe_callB (cr_all rfl) (by rfl) T.n_all (by decide +kernel) (pa_cons (pe_lc (own := [("port", 3)]) rfl sc_Net_is_fed.nd (pi_tupK K (pe_fldK K (pe_dgetN P w K (hu9 hr) (pe_fldK K (pv 0) rfl) (pv 1) (fun _ _ => rfl)) rfl)) (blkOk_by (own := [("port", 3)]) (N := ["self", "path", "found", "port"]) (sc := defScope s_Net_is_fed) (by decide +kernel)) (fun _ _ _ _ _ => (pg_name (i := 3) sc_Net_is_fed.nd rfl (Or.inl rfl))) (fun _ _ _ _ _ => pts_nil) (fun _ _ _ _ _ => (pe_cmp (pc_dinN P w K (hu9 hr) (pe_ix (ix_tupK K) (pe_dgetN P w K (hu9 hr) (pe_fldK K (pv 0) rfl) (pe_tupF (pa_cons (pv 1) (pa_cons (pv 3) pa_nil))) (fun _ _ => rfl)) pe_int (fun _ _ => rfl)) (pv 2)) rfl))) pa_nil)))), ?_⟩
    have hpx := ok.tx p hp
    obtain ⟨bv, hbv, b, nm, c, rfl, hpt, ez, dx, bi, bo, hbx, bins, bouts, hpt2, hbi, hbo⟩ := blk_at N.bk ok.pn hp
    have ein : bins = insT p.2 := by
      have h1 := rowT_of hpx
      rw [blk_word hpt ez] at h1
      exact (ports_fun hpt2 h1).1
    subst ein
    refine ⟨_, rfl, x, ad.C_Net, n.dx, n.fs, _, rfl, N.hx, T.cl_Net, T.na_Net_blocks, N.fb, _, rfl, n.b, n.bk, kPath p.1, _, rfl, N.hb.dn, key_path hv, hbv, ?_⟩
    refine ⟨b, ad.C_Primitive, dx, _, _, rfl, hbx, T.cl_Primitive, T.na_Primitive_inputs, fsP_inputs, bi, rfl, ⟨_, hbi⟩, fun D hD => run_it (walk_tup (K := K) (a := bi) (xs := (insT p.2).map V.str)) (fun i H' => Same H H' ∧ H' D = some (.lst ((((insP p).take i).map fun t => (valV kvs (kPath (srcF wires t).1)).isSome).map V.bl))) ⟨same_new hD, upd_same⟩ (fun i H' _ h => same_sqt h.1 hbi) ?_ ?_⟩
    · rintro m y H2 H' hm ⟨s2, e2⟩ ⟨rfl, hy⟩
      obtain ⟨hi2, e⟩ := List.getElem?_eq_some_iff.mp hy
      rw [List.length_map] at hi2
      rw [List.getElem_map] at e
      subst e
      dsimp only [gName]
      refine ⟨rfl, ?_⟩
      dsimp only [tYes]
      have hip : (insP p)[m]? = some (p.1, (insT p.2)[m]) := by
        unfold insP
        rw [List.getElem?_map, List.getElem?_eq_getElem hi2]
        rfl
      have N2 := N.same s2
      obtain ⟨sv, hsv, hst⟩ := src_at N2.sk ok.tn (tgt_of ok hp (List.mem_of_getElem? hip))
      obtain ⟨sa, su, rfl, hsa, hsu⟩ := port_inv hst
      refine iteT ⟨_, rfl, x, ad.C_Net, n.dx, n.fs, _, rfl, N2.hx, T.cl_Net, T.na_Net_source_of, N2.fg, _, rfl, _, rfl, szl (show 2 ≤ 100000 by decide), fun c1 G7 u7 k7 => ⟨n.s, n.sk, kPort (p.1, (insT p.2)[m]), _, rfl, (N2.hs.same u7).dn, key_port (tp_port k7.sqt ((hv.same s2).same u7)), hsv, ?_⟩⟩
      refine ⟨sa, _, _, _, rfl, rfl, same_sqt u7 hsa, atI_nat (j := 0) rfl, _, rfl, f, kvs, kPath (srcF wires (p.1, (insT p.2)[m])).1, rfl, (hf.same s2).same u7, key_path (hsu.same u7), ?_⟩
      have hil : (insP p).length ≤ 3 := by unfold insP; rw [List.length_map]; exact (ports_small _ (rowT_of hpx)).1
      refine ⟨_, u7 _ _ e2, szt (by rw [List.length_map, List.length_map, List.length_take]; omega), same_mut (s2.trans u7) hD, ?_⟩
      rw [upd_same, List.take_add_one, hip, List.map_append, List.map_append]
      rfl
    · rintro H2 ⟨s2, e2⟩
      have el : ((insT p.2).map V.str).length = (insP p).length := by unfold insP; rw [List.length_map, List.length_map]
      rw [el, List.take_length] at e2
      refine ⟨D, _, rfl, SqL.of e2, ?_⟩
      have : ((insP p).map fun t => (valV kvs (kPath (srcF wires t).1)).isSome).all id = isFed wires p kvs := by
        unfold isFed
        rw [List.all_map]
        rfl
      rw [this]
      exact k H2 s2

end
end K82

set_option maxRecDepth 100000
set_option maxHeartbeats 4000000
namespace K82
open PySem L2 Ly Nd Nt Od
local macro_rules | `(tactic| walk_at "nx") => `(tactic| dsimp only [tNext])
section
variable {P : Program} {w : World} {K : PySem.W.Frag} {mg : Str → Option Value} {base : Heap} {ad : Adr}
def spOrdered (P : Program) (w : World) (K : PySem.W.Frag) (C CP : Addr) : Sp := fun vs H Q _ => ∃ (x : Addr) (ins outs : List Str) (parts : List Part) (wires : List Nt.Wir) (n : NetV), vs = [.ref x] ∧ NetC P w K C CP H x ins outs parts wires n ∧ NetOk ins outs parts wires ∧
  ∀ (a : Addr) (us : List V) (ps : List Pth) (H' : Hp), Same H H' → H a = none → H' a = some (.lst us) → TpAll K H' us (ps.map dTx) → Seqd parts wires ps → Q (.ref a) H'
theorem filter_succ {α : Type} (f : α → Bool) {l : List α} {i : Nat} {x : α} (h : l[i]? = some x) : (l.take (i + 1)).filter f = (l.take i).filter f ++ if f x = true then [x] else [] := by
  rw [List.take_add_one, h, List.filter_append]
  congr 1
  cases hf : f x <;> simp [hf]
def OrdW (P : Program) (w : World) (K : PySem.W.Frag) (H : Hp) (parts : List Part) (wires : List Nt.Wir) (x D oL : Addr) (m : Nat) (σ : L2.St) (H' : Hp) : Prop := ∃ (ord : List Part) (kvs : List (NK × V)) (us ws : List V) (lL : Addr) (x4 x5 x6 : Option V), lL ≠ oL ∧ m = (lfOf parts kvs).length ∧ σ = [some (.ref x), some (.ref D), some (.ref oL), some (.ref lL), x4, x5, x6] ∧
  Same H H' ∧ DNm P w K H' D kvs ∧ Fnd parts ord kvs ∧ Ordd parts wires ord ∧ H' oL = some (.lst us) ∧ TpAll K H' us ((ord.map (·.1)).map dTx) ∧ H' lL = some (.lst ws) ∧ TpAll K H' ws (((lfOf parts kvs).map (·.1)).map dTx)
theorem sc_Net_ordered : FnScope ["self", "found", "order", "left", "ready", "path", "block"] ["self"] (defScope s_Net_ordered) := ⟨rfl, rfl, rfl, by decide +kernel, rfl, by decide +kernel, by decide +kernel⟩
theorem ok_ordered {f : Addr} {fd fdI : FuncData} (F : Fun K "ordered" "Net.ordered" s_Net_ordered f fd) (T : Txt K w mg ad) (G_Net_is_fed : FnOk P w K mg base CX0 1 ad.f_Net_is_fed fdI ["self", "path", "found"] (spIsFed P w K ad.C_Net ad.C_Primitive)) (b_Net_is_fed : Binds K fdI ["self", "path", "found"] []) :
    FnOk P w K mg base CX0 2 f fd ["self"] (spOrdered P w K ad.C_Net ad.C_Primitive) := by
  refine F.ok sc_Net_ordered (fun vs H Q E h => ?_) (fun cdv A outer s H vs Q E hr h => ?_)
  · obtain ⟨x, ins, outs, parts, wires, n, rfl, _⟩ := h
    rfl
  · obtain ⟨x, ins, outs, parts, wires, n, rfl, N, ok, k⟩ := h
    have h16 := ok.p16
    refine ⟨_, (pss_cons (ps_set (i := 1) sc_Net_ordered.nd rfl (Or.inr rfl) (pe_dcN P w K (own := [("path", 5), ("block", 6)]) rfl sc_Net_ordered.nd (hu8 hr) (pi_itemsN P w (pe_fldK K (pv 0) rfl)) (blkOk_by (own := [("path", 5), ("block", 6)]) (N := ["self", "found", "order", "left", "ready", "path", "block"]) (sc := defScope s_Net_ordered) (by decide +kernel)) (fun _ _ _ _ _ => (by exact (pg_tupK K (n := 2) (by rfl) (pgs_cons (pg_name (i := 5) sc_Net_ordered.nd rfl (Or.inl rfl)) (pgs_cons (pg_name (i := 6) sc_Net_ordered.nd rfl (Or.inl rfl)) pgs_nil))))) (fun _ _ _ _ _ => (pts_one (pt_cmpR op_eq (pe_fldK K (pv 6) rfl) pe_str (nomark _)))) (fun _ _ _ _ _ => (pv 5)) (fun _ _ _ _ _ => pe_bl)))
    (pss_cons (ps_dputN P w K (hu9 hr) (pv 1) (pe_tupF pa_nil) pe_bl rfl)
    (pss_cons (ps_par (i := 2) (j := 3) (by rfl) sc_Net_ordered.nd rfl rfl (by decide) rfl rfl (pa_cons (pe_lst pa_nil) (pa_cons (pe_lc (own := [("path", 5)]) rfl sc_Net_ordered.nd (pi_keysN P w (pe_fldK K (pv 0) rfl)) (blkOk_by (own := [("path", 5)]) (N := ["self", "found", "order", "left", "ready", "path", "block"]) (sc := defScope s_Net_ordered) (by decide +kernel)) (fun _ _ _ _ _ => (pg_name (i := 5) sc_Net_ordered.nd rfl (Or.inl rfl))) (fun _ _ _ _ _ => (pts_one (pt_cmp (pc_dnotinN P w K (hu9 hr) (pv 5) (pv 1))))) (fun _ _ _ _ _ => (pv 5))) pa_nil)) (by rfl))
    (pss_cons (ps_while PassesOwn.never (pt_cmpR (op_neDK K hr.units) (pv 3) (pe_lst pa_nil) (nomark _))
    (pss_cons (ps_setLc (i := 4) (own := [("path", 5)]) rfl sc_Net_ordered.nd rfl rfl (sw_true rfl rfl rfl (by decide +kernel)) (pi_listK K (pv 3)) (blkOk_by (own := [("path", 5)]) (N := ["self", "found", "order", "left", "ready", "path", "block"]) (sc := defScope s_Net_ordered) (by decide +kernel)) (fun _ _ _ _ _ => (pg_name (i := 5) sc_Net_ordered.nd rfl (Or.inl rfl))) (fun _ _ _ _ _ => (pts_one (pt_val (pe_meth (pv 0) T.cl_Net T.m_Net_is_fed G_Net_is_fed (hr.mono (by decide)) b_Net_is_fed .nil pass0 (pa_cons (pv 5) (pa_cons (pv 1) pa_nil)))))) (fun _ _ _ _ _ => (pv 5)))
    (pss_cons (ps_if (pt_cmpR (op_eqDK K hr.units) (pv 4) (pe_lst pa_nil) (nomark _)) (pss_one (ps_ret pe_non)) pss_nil)
    (pss_cons (ps_for PassesOwn.never rfl (pi_listK K (pv 4)) (pg_name (i := 5) sc_Net_ordered.nd rfl (Or.inl rfl))
    (pss_one (ps_dputN P w K (hu9 hr) (pv 1) (pv 5) pe_bl rfl)))
    (pss_cons (ps_aug (i := 2) sc_Net_ordered.nd rfl (Or.inl rfl) (pv 4) ip_ext)
    (pss_one (ps_setLc (i := 3) (own := [("path", 5)]) rfl sc_Net_ordered.nd rfl rfl (sw_true rfl rfl rfl (by decide +kernel)) (pi_listK K (pv 3)) (blkOk_by (own := [("path", 5)]) (N := ["self", "found", "order", "left", "ready", "path", "block"]) (sc := defScope s_Net_ordered) (by decide +kernel)) (fun _ _ _ _ _ => (pg_name (i := 5) sc_Net_ordered.nd rfl (Or.inl rfl))) (fun _ _ _ _ _ => (pts_one (pt_cmp (pc_dnotinN P w K (hu9 hr) (pv 5) (pv 1))))) (fun _ _ _ _ _ => (pv 5)))))))))
    (pss_one (ps_ret (pv 2))))))), ?_⟩
    obtain ⟨ob, qs, hbo, eqs, kqs⟩ := N.hb
    have hql := blk_len eqs N.bk
    have big : ∀ m, m ≤ 40 → m < sizeLine := fun m h => Nat.lt_of_le_of_lt h (by rw [sizeLine_eq]; decide)
    refine asg (fun v H1 => ∃ D, v = .ref D ∧ Same H H1 ∧ H D = none ∧ DNm P w K H1 D (dels parts)) (fun Q' q => ?_) ?_
    · refine ⟨_, rfl, x, ad.C_Net, n.dx, n.fs, _, rfl, N.hx, T.cl_Net, T.na_Net_blocks, N.fb, n.b, ob, qs, rfl, hbo, ?_⟩
      intro D hD
      refine dcN_it walk_itemsN (fun i H' => Same H H' ∧ DNm P w K H' D (dels (parts.take i))) hD (fun H' s d => ⟨s, d⟩) (fun i H' _ h => h.1 _ _ hbo) ?_ ?_
      · rintro i y H1 H' hi ⟨s1, d1⟩ ⟨t, q, hq, rfl, ht, rfl⟩
        obtain ⟨p, hp, hbl, htp⟩ := blk_step eqs kqs N.bk hq
        have s2 := same_new (o := .tup [.ref q.2.1, q.2.2]) ht
        have s12 := s1.trans s2
        obtain ⟨b, nm, c, eb, hpt, ez, dx, bi, bo, hbx, _⟩ := hbl.same s12
        refine ⟨t, _, rfl, SqT.of upd_same, rfl, _, _, rfl, _, _, rfl, rfl, ?_⟩
        dsimp only [gName]
        refine ⟨rfl, _, rfl, b, ad.C_Primitive, dx, _, _, eb, hbx, T.cl_Primitive, T.na_Primitive_name, fsP_name, rfl, _, rfl, ?_⟩
        have ew := blk_word hpt ez
        have d2 := d1.same s2
        by_cases hd : nm = "delay"
        · rw [decide_eq_true (congrArg V.str hd)]
          have hdx : isD p = true := by unfold isD; rw [ew]; exact decide_eq_true hd
          refine iteT ⟨_, rfl, _, _, d2, key_path (htp.same s12), ?_, fun H6 s6 d6 => ⟨?_, ?_⟩⟩
          · have h1 := dels_len (parts.take i)
            have h2 := List.length_take_le i parts
            exact big _ (by omega)
          · exact fun b' u' e' => s6 b' u' (ne_of_none e' hD) (s12 b' u' e')
          · rw [dels_succ hp, hdx, if_pos rfl, ← put_new (dels_fresh ok.pn hp)]
            exact d6
        · rw [decide_eq_false (fun e => hd (V.str.inj e))]
          have hdx : isD p = false := by unfold isD; rw [ew]; exact decide_eq_false hd
          refine iteF ⟨s12, ?_⟩
          rw [dels_succ hp, hdx, if_neg Bool.false_ne_true, List.append_nil]
          exact d2
      · rintro H1 ⟨s1, d1⟩
        rw [hql, List.take_length] at d1
        exact q _ _ ⟨D, rfl, s1, hD, d1⟩
    rintro _ H1 ⟨D, rfl, s1, hD, d1⟩
    dsimp only [gName]
    refine ⟨_, rfl, szl (Nat.zero_le _), fun c2 H2 u2 k2 => ⟨D, dels parts, kPath [], rfl, d1.same u2, key_path (tp_path (p := []) k2.sqt), ?_, fun H3 x3 d3 => ?_⟩⟩
    · have h1 := dels_len parts
      exact big _ (by omega)
    have s3 : Same H H3 := fun b u e => x3 b u (ne_of_none e hD) (u2 b u (s1 b u e))
    have f3 := fnd_zero h16 (V.bl true)
    generalize putK (dels parts) (kPath []) (V.bl true) = kv0 at d3 f3
    have nD3 := d3.there
    refine ⟨szl (Nat.zero_le _), fun oL hoL => ?_⟩
    have u4 := same_new (o := .lst []) hoL
    have s4 := s3.trans u4
    have d4 := d3.same u4
    refine ⟨_, rfl, x, ad.C_Net, n.dx, n.fs, _, rfl, s4 _ _ N.hx, T.cl_Net, T.na_Net_blocks, N.fb, n.b, ob, qs, rfl, s4 _ _ hbo, fun lL hlL => run_it walk_keysN (fun i H' => Same (upd H3 oL (.lst [])) H' ∧ ∃ ws, H' lL = some (.lst ws) ∧ TpAll K H' ws (((lfOf (parts.take i) kv0).map (·.1)).map dTx)) ⟨same_new hlL, [], upd_same, .nil⟩ (fun i H' _ h => h.1 _ _ (s4 _ _ hbo)) ?_ ?_⟩
    · rintro i y H5 H' hi ⟨s5, ws, hws, hwt⟩ ⟨rfl, q, hq, rfl⟩
      obtain ⟨p, hp, _, htp⟩ := blk_step eqs kqs N.bk hq
      dsimp only [gName]
      refine ⟨rfl, ?_⟩
      have s45 := s4.trans s5
      refine ⟨_, rfl, _, rfl, D, kv0, kPath p.1, rfl, (d4.same s5).dn, key_path (htp.same s45), _, rfl, ?_⟩
      have es := filter_succ (fun x : Part => !(valV kv0 (kPath x.1)).isSome) hp
      have hwl : ws.length ≤ 16 := by
        have h1 := TpAll.len hwt
        rw [List.length_map, List.length_map] at h1
        have h2 : (lfOf (parts.take i) kv0).length ≤ (parts.take i).length := List.length_filter_le _ _
        have h3 := List.length_take_le i parts
        omega
      unfold lfOf at hwt ⊢
      rw [es]
      cases hv : (valV kv0 (kPath p.1)).isSome with
      | true => exact iteF ⟨s5, ws, hws, by simpa using hwt⟩
      | false =>
        refine iteT ⟨_, rfl, ws, hws, szt (by omega), same_mut s5 hlL, _, upd_same, ?_⟩
        rw [if_pos (by decide), List.map_append, List.map_append]
        exact TpAll.sx (TpAll.snoc hwt (htp.same s45)) (sx_put (sx_of (Same.refl _))) (notT_lst hws)
    rintro H5 ⟨s5, ws, hws, hwt⟩
    rw [hql, List.take_length] at hwt
    have s45 := s4.trans s5
    have hoL0 := s3.free hoL
    refine ⟨_, _, rfl, ?_⟩
    dsimp only
    refine ⟨OrdW P w K H parts wires x D oL, ⟨_, [], kv0, [], ws, lL, _, _, _, fun e => (by rw [e, upd_same] at hlL; cases hlL), rfl, rfl, s45, d4.same s5, f3, ordd_nil, s5 _ _ upd_same, .nil, hws, hwt⟩, ?_⟩
    clear hwt hws s45 s5 H5 ws lL hlL d4 s4 u4 hoL f3 d3 kv0 s3 x3 H3 k2 u2 H2 d1 s1 H1 nD3 c2
    rintro m σ H5 ⟨ord, kvs, us, ws, lL, x4, x5, x6, neo, rfl, rfl, s5, d5, f5, o5, hus, hut, hws, hwt⟩
    have hl16 : (lfOf parts kvs).length ≤ 16 := Nat.le_trans (List.length_filter_le _ _) h16
    have ho16 := Nat.le_trans (ord_len ok o5) h16
    have hwl : ws.length = (lfOf parts kvs).length := by
      have := TpAll.len hwt
      rwa [List.length_map, List.length_map] at this
    have hlp : ∀ y ∈ lfOf parts kvs, y ∈ parts := fun y hy => (List.mem_filter.mp hy).1
    refine ⟨_, rfl, szl (Nat.zero_le _), fun e1 he1 => ⟨.list (((lfOf parts kvs).map (·.1)).map dTx), .list [], .lst (SqL.of (same_new he1 _ _ hws)) (TpAll.same hwt (same_new he1)).dp, .lst (SqL.of upd_same) .nil, shp_paths (paths_okS ok hlp), shp_paths (l := []) (fun p hp => (by cases hp)), _, rfl, ?_⟩⟩
    rw [eqv_nil dTx]
    by_cases hlf : lfOf parts kvs = []
    · rw [decide_eq_true (by rw [hlf]; rfl)]
      refine iteF ⟨_, rfl, k oL us _ _ (s5.trans (same_new he1)) hoL0 (same_new he1 _ _ hus) (TpAll.same hut (same_new he1)) (ord_done f5 ok o5 hlf)⟩
    rw [decide_eq_false (fun e => hlf (List.map_eq_nil_iff.mp e))]
    refine iteT ⟨fun σ' H' => ∃ m', m' < (lfOf parts kvs).length ∧ OrdW P w K H parts wires x D oL m' σ' H', fun σ' H' h => h, ?_⟩
    replace s5 := s5.trans (same_new (o := .lst []) he1)
    replace d5 := d5.same (same_new (o := .lst []) he1)
    replace hus := same_new (o := .lst []) he1 _ _ hus
    replace hut := TpAll.same hut (same_new (o := .lst []) he1)
    replace hws := same_new (o := .lst []) he1 _ _ hws
    replace hwt := TpAll.same hwt (same_new (o := .lst []) he1)
    generalize upd H5 e1 (.lst []) = H6 at s5 d5 hus hut hws hwt
    clear he1 e1 H5
    refine ⟨_, rfl, lL, rfl, ⟨_, SqL.of hws⟩, fun rL hrL => run_it (walk_list (K := K) (a := lL) (xs := ws)) (fun i H' => Same H6 H' ∧ ∃ rs, H' rL = some (.lst rs) ∧ TpAll K H' rs (((((lfOf parts kvs).take i).filter fun x => isFed wires x kvs).map (·.1)).map dTx)) ⟨same_new hrL, [], upd_same, .nil⟩ (fun i H' _ h => SqL.of (h.1 _ _ hws)) ?_ ?_⟩
    · rintro i y H7 H' hi ⟨s7, rs, hrs, hrt⟩ ⟨rfl, hy⟩
      obtain ⟨d, hd, htp⟩ := TpAll.get hwt hy
      rw [List.getElem?_map, List.getElem?_map] at hd
      obtain ⟨p, hp, rfl⟩ := Option.map_eq_some_iff.mp hd
      obtain ⟨z, hz, rfl⟩ := Option.map_eq_some_iff.mp hp
      have hzm := List.mem_of_getElem? hz
      have es := filter_succ (fun x : Part => isFed wires x kvs) hz
      have hrl : rs.length ≤ 16 := by
        have h1 := TpAll.len hrt
        rw [List.length_map, List.length_map] at h1
        have h2 : (((lfOf parts kvs).take i).filter fun x => isFed wires x kvs).length ≤ ((lfOf parts kvs).take i).length := List.length_filter_le _ _
        have h3 := List.length_take_le i (lfOf parts kvs)
        omega
      dsimp only [gName]
      refine ⟨rfl, ?_⟩
      refine ⟨_, rfl, x, n.dx, n.fs, rfl, (N.same (s5.trans s7)).hx, N.fm "is_fed" (by decide +kernel), _, rfl, _, rfl, x, D, y, ins, outs, parts, wires, n, z, kvs, rfl, N.same (s5.trans s7), ok, hlp z hzm, htp.same s7, (d5.same s7).dn, fun H8 s8 => ⟨_, rfl, ?_⟩⟩
      rw [es]
      cases hv : isFed wires z kvs with
      | false => exact iteF ⟨s7.trans s8, rs, s8 _ _ hrs, by simpa using TpAll.same hrt s8⟩
      | true =>
        refine iteT ⟨_, rfl, rs, s8 _ _ hrs, szt (by omega), same_mut (s7.trans s8) hrL, _, upd_same, ?_⟩
        rw [if_pos rfl, List.map_append, List.map_append]
        exact TpAll.sx (TpAll.snoc (TpAll.same hrt s8) (htp.same (s7.trans s8))) (sx_put (sx_of (Same.refl _))) (notT_lst (s8 _ _ hrs))
    rintro H7 ⟨s7, rs, hrs, hrt⟩
    rw [hwl, List.take_length] at hrt
    dsimp only [gName]
    have hR := some_ready f5 ok o5 hlf
    have hRl : ∀ y ∈ (lfOf parts kvs).filter (fun x => isFed wires x kvs), y ∈ lfOf parts kvs := fun y hy => (List.mem_filter.mp hy).1
    have oM := o5.more f5 ok
    generalize (lfOf parts kvs).filter (fun x => isFed wires x kvs) = R at hrt hR hRl oM
    have hR16 : R.length ≤ 16 := by
      have := ord_len ok oM
      rw [List.length_append] at this
      omega
    have hrl : rs.length = R.length := by
      have := TpAll.len hrt
      rwa [List.length_map, List.length_map] at this
    have ne1 : rL ≠ oL := fun e => by rw [e, hus] at hrL; cases hrL
    have ne2 : rL ≠ lL := fun e => by rw [e, hws] at hrL; cases hrL
    replace s5 := s5.trans s7
    replace d5 := d5.same s7
    replace hus := s7 _ _ hus
    replace hut := TpAll.same hut s7
    replace hws := s7 _ _ hws
    replace hwt := TpAll.same hwt s7
    clear s7 hrL H6
    refine ⟨_, rfl, szl (Nat.zero_le _), fun e1 he1 => ⟨.list ((R.map (·.1)).map dTx), .list [], .lst (SqL.of (same_new he1 _ _ hrs)) (TpAll.same hrt (same_new he1)).dp, .lst (SqL.of upd_same) .nil, shp_paths (paths_okS ok fun y hy => hlp y (hRl y hy)), shp_paths (l := []) (fun p hp => (by cases hp)), _, rfl, ?_⟩⟩
    rw [eqv_nil dTx, decide_eq_false (fun e => hR (List.map_eq_nil_iff.mp e))]
    refine iteF ?_
    walk_at "nx"
    replace s5 := s5.trans (same_new (o := .lst []) he1)
    replace d5 := d5.same (same_new (o := .lst []) he1)
    replace hus := same_new (o := .lst []) he1 _ _ hus
    replace hut := TpAll.same hut (same_new (o := .lst []) he1)
    replace hws := same_new (o := .lst []) he1 _ _ hws
    replace hwt := TpAll.same hwt (same_new (o := .lst []) he1)
    replace hrs := same_new (o := .lst []) he1 _ _ hrs
    replace hrt := TpAll.same hrt (same_new (o := .lst []) he1)
    generalize upd H7 e1 (.lst []) = H8 at s5 d5 hus hut hws hwt hrs hrt
    clear he1 e1 H7
    have ntD := d5.notT
    have neL : ∀ {a : Addr} {xs : List V}, H8 a = some (.lst xs) → a ≠ D := fun h e => by
      obtain ⟨qs, hq, _⟩ := d5
      rw [e, hq] at h
      cases h
    refine ⟨_, rfl, rL, rfl, ⟨_, SqL.of hrs⟩, for_list (K := K) (a := rL) (xs := rs) (fun j σ H' => ∃ kv2 x5, σ = [some (.ref x), some (.ref D), some (.ref oL), some (.ref lL), some (.ref rL), x5, x6] ∧ SameX D H8 H' ∧ DNm P w K H' D kv2 ∧ Fnd parts (ord ++ R.take j) kv2) ⟨kvs, _, rfl, sx_of (Same.refl _), d5, by simpa using f5⟩ (fun j σ H' _ h => by
      obtain ⟨kv2, x5, _, sx, _⟩ := h
      exact SqL.of (sx _ _ (neL hrs) hrs)) ?_ ?_⟩
    · rintro j y σ H9 hy ⟨kv2, x5, rfl, sx, d9, f9⟩
      obtain ⟨d, hd, htp⟩ := TpAll.get hrt hy
      rw [List.getElem?_map, List.getElem?_map] at hd
      obtain ⟨p, hp, rfl⟩ := Option.map_eq_some_iff.mp hd
      obtain ⟨z, hz, rfl⟩ := Option.map_eq_some_iff.mp hp
      dsimp only [gName]
      refine ⟨_, rfl, _, rfl, D, kv2, kPath z.1, rfl, d9, key_path (htp.sx sx ntD), ?_, fun H10 sx10 d10 => ⟨_, _, rfl, fun b u nb e => sx10 b u nb (sx b u nb e), d10, ?_⟩⟩
      · have h1 := f9.2
        have h2 : (R.take j).length ≤ R.length := List.length_take_le' _ _
        rw [List.length_append] at h1
        exact Nat.lt_of_lt_of_le (show _ < 100 by omega) (by rw [sizeLine_eq]; decide)
      · rw [List.take_add_one, hz, ← List.append_assoc]
        exact f9.put z _
    · rintro σ H9 ⟨kv2, x5, rfl, sx, d9, f9⟩
      rw [hrl, List.take_length] at f9
      have s9 : Same H H9 := fun b u e => sx b u (ne_of_none e hD) (s5 b u e)
      have hus9 := sx _ _ (neL hus) hus
      have hrs9 := sx _ _ (neL hrs) hrs
      have hws9 := sx _ _ (neL hws) hws
      have hlt := lf_less f5 f9 hR hRl
      have hul : us.length = ord.length := by
        have := TpAll.len hut
        rwa [List.length_map, List.length_map] at this
      refine ⟨_, rfl, _, rfl, oL, rL, us, rs, rfl, rfl, hus9, hrs9, Nat.le_trans (show us.length + rs.length ≤ 32 by omega) (by rw [sizeLine_eq]; decide), ?_⟩
      have sxo : SameX oL H9 (upd H9 oL (.lst (us ++ rs))) := sx_put (sx_of (Same.refl _))
      have s10 : Same H (upd H9 oL (.lst (us ++ rs))) := same_mut s9 hoL0
      have d10 := d9.sx sxo (notT_lst hus9) (fun e => by
        obtain ⟨qs, hq, _⟩ := d9
        rw [e, hus9] at hq
        cases hq)
      have hus10 : upd H9 oL (.lst (us ++ rs)) oL = some (.lst (us ++ rs)) := upd_same
      have hut10 := ((TpAll.sx hut sx ntD).sx sxo (notT_lst hus9)).app ((TpAll.sx hrt sx ntD).sx sxo (notT_lst hus9))
      rw [← List.map_append, ← List.map_append] at hut10
      have hws10 := sxo _ _ neo hws9
      have hwt10 := (TpAll.sx hwt sx ntD).sx sxo (notT_lst hus9)
      generalize upd H9 oL (.lst (us ++ rs)) = G at s10 d10 hus10 hut10 hws10 hwt10
      refine ⟨_, rfl, lL, rfl, ⟨_, SqL.of hws10⟩, fun lL2 hlL2 => run_it (walk_list (K := K) (a := lL) (xs := ws)) (fun i H' => Same G H' ∧ ∃ ws2, H' lL2 = some (.lst ws2) ∧ TpAll K H' ws2 (((((lfOf parts kvs).take i).filter fun x => !(valV kv2 (kPath x.1)).isSome).map (·.1)).map dTx)) ⟨same_new hlL2, [], upd_same, .nil⟩ (fun i H' _ h => SqL.of (h.1 _ _ hws10)) ?_ ?_⟩
      · rintro i y H11 H' hi ⟨s11, ws2, hws2, hwt2⟩ ⟨rfl, hy⟩
        obtain ⟨d, hd, htp⟩ := TpAll.get hwt10 hy
        rw [List.getElem?_map, List.getElem?_map] at hd
        obtain ⟨p, hp, rfl⟩ := Option.map_eq_some_iff.mp hd
        obtain ⟨z, hz, rfl⟩ := Option.map_eq_some_iff.mp hp
        have es := filter_succ (fun x : Part => !(valV kv2 (kPath x.1)).isSome) hz
        have hw2l : ws2.length ≤ 16 := by
          have h1 := TpAll.len hwt2
          rw [List.length_map, List.length_map] at h1
          have h2 : (((lfOf parts kvs).take i).filter fun x => !(valV kv2 (kPath x.1)).isSome).length ≤ ((lfOf parts kvs).take i).length := List.length_filter_le _ _
          have h3 : ((lfOf parts kvs).take i).length ≤ (lfOf parts kvs).length := List.length_take_le' _ _
          omega
        dsimp only [gName]
        refine ⟨rfl, ?_⟩
        refine ⟨_, rfl, _, rfl, D, kv2, kPath z.1, rfl, (d10.same s11).dn, key_path (htp.same s11), _, rfl, ?_⟩
        rw [es]
        cases hv : (valV kv2 (kPath z.1)).isSome with
        | true => exact iteF ⟨s11, ws2, hws2, by simpa using hwt2⟩
        | false =>
          refine iteT ⟨_, rfl, ws2, hws2, szt (by omega), same_mut s11 hlL2, _, upd_same, ?_⟩
          rw [if_pos (by decide), List.map_append, List.map_append]
          exact TpAll.sx (TpAll.snoc hwt2 (htp.same s11)) (sx_put (sx_of (Same.refl _))) (notT_lst hws2)
      · rintro H11 ⟨s11, ws2, hws2, hwt2⟩
        rw [hwl, List.take_length, lf_next f5 f9] at hwt2
        dsimp only [gName]
        exact ⟨_, hlt, ord ++ R, kv2, us ++ rs, ws2, lL2, _, _, _, fun e => (by rw [e, hus10] at hlL2; cases hlL2), rfl, rfl, s10.trans s11, d10.same s11, f9, oM, s11 _ _ hus10, TpAll.same hut10 s11, hws2, hwt2⟩

end
end K82

set_option maxRecDepth 100000
set_option maxHeartbeats 4000000
namespace K82
open PySem L2 Ly Nd Nt Od
local macro_rules | `(tactic| walk_at "nx") => `(tactic| dsimp only [tNext])
section
variable {P : Program} {w : World} {K : PySem.W.Frag} {mg : Str → Option Value} {base : Heap} {ad : Adr}
def spAreParts (K : PySem.W.Frag) : Sp := fun vs H Q _ => ∃ (l : Addr) (us : List V) (parts : List Part), vs = [.ref l] ∧ SqT K H l us ∧ PartsAt K H us parts ∧ (∀ x ∈ parts, PathOk x.1) ∧ (∀ x ∈ parts, TextOk x.2) ∧ parts.length ≤ 16 ∧ (parts.map (·.1)).Nodup ∧ ∀ H', Same H H' → Q (.bl true) H'
def spGoodNet (K : PySem.W.Frag) : Sp := spAreWires K
theorem sc_are_good_for_net : FnScope ["inputs", "outputs", "parts", "wires"] ["inputs", "outputs", "parts", "wires"] (defScope s_are_good_for_net) := ⟨rfl, rfl, rfl, by decide +kernel, rfl, by decide +kernel, by decide +kernel⟩
theorem ok_goodNet {f : Addr} {fd fdA fdB fdC : FuncData} (F : Fun K "are_good_for_net" "are_good_for_net" s_are_good_for_net f fd) (T : Txt K w mg ad) (G_are_ports : FnOk P w K mg base CX0 2 ad.f_are_ports fdA ["inputs", "outputs"] (spArePorts K)) (b_are_ports : Binds K fdA ["inputs", "outputs"] [])
    (G_are_parts : FnOk P w K mg base CX0 4 ad.f_are_parts fdB ["value"] (spAreParts K)) (b_are_parts : Binds K fdB ["value"] []) (G_are_wires : FnOk P w K mg base CX0 3 ad.f_are_wires fdC ["inputs", "outputs", "parts", "value"] (spAreWires K)) (b_are_wires : Binds K fdC ["inputs", "outputs", "parts", "value"] []) : FnOk P w K mg base CX0 5 f fd ["inputs", "outputs", "parts", "wires"] (spGoodNet K) := by
  refine F.ok sc_are_good_for_net (fun vs H Q E h => ?_) (fun cdv A outer s H vs Q E hr h => ?_)
  · obtain ⟨i, o, l, d, ins, outs, us, ws, parts, wires, rfl, _⟩ := h
    rfl
  · obtain ⟨i, o, l, d, ins, outs, us, ws, parts, wires, rfl, hi, ho, hl, hp, hd, hw, ok, k⟩ := h
    refine ⟨_, (pss_one (ps_ret (pe_and (pe_call G_are_ports (hr.mono (by decide)) rfl T.g_are_ports T.k_are_ports b_are_ports .nil pass0 (pa_cons (pv 0) (pa_cons (pv 1) pa_nil))) (pe_and (pe_call G_are_parts (hr.mono (by decide)) rfl T.g_are_parts T.k_are_parts b_are_parts .nil pass0 (pa_cons (pv 2) pa_nil)) (pe_one (pe_call G_are_wires (hr.mono (by decide)) rfl T.g_are_wires T.k_are_wires b_are_wires .nil pass0 (pa_cons (pv 0) (pa_cons (pv 1) (pa_cons (pv 2) (pa_cons (pv 3) pa_nil)))))))))), ?_⟩
    refine ⟨_, rfl, _, rfl, i, o, ins, outs, rfl, hi, ho, ok.i8, ok.o8, ok.nm, ok.io, fun H1 s1 => ?_⟩
    refine ⟨_, rfl, iteT ?_⟩
    refine ⟨_, rfl, l, us, parts, rfl, same_sqt s1 hl, TpAll.same hp s1, ok.pp, ok.tx, ok.p16, ok.pn, fun H2 s2 => ?_⟩
    have s12 := s1.trans s2
    refine ⟨_, rfl, iteT ?_⟩
    exact ⟨_, rfl, _, rfl, _, rfl, _, rfl, i, o, l, d, ins, outs, us, ws, parts, wires, rfl, same_sqt s12 hi, same_sqt s12 ho, same_sqt s12 hl, TpAll.same hp s12, same_sqt s12 hd, TpAll.same hw s12, ok, fun H3 s3 => k H3 (s12.trans s3)⟩

end
end K82

set_option maxRecDepth 100000
set_option maxHeartbeats 4000000
namespace K82
open PySem L2 Ly Nd Nt Od
local macro_rules | `(tactic| walk_at "nx") => `(tactic| dsimp only [tNext])
section
variable {P : Program} {w : World} {K : PySem.W.Frag} {mg : Str → Option Value} {base : Heap} {ad : Adr}
def spLay (P : Program) (w : World) (K : PySem.W.Frag) (C CP : Addr) : Sp := fun vs H Q _ => ∃ (x dx i o l d : Addr) (ins outs : List Str) (us ws : List V) (parts : List Part) (wires : List Nt.Wir), vs = [.ref x, .ref i, .ref o, .ref l, .ref d] ∧ H x = some (.ins C dx []) ∧ SqT K H i (ins.map V.str) ∧ SqT K H o (outs.map V.str) ∧ SqT K H l us ∧ PartsAt K H us parts ∧ KnT H d ws ∧ Nt.WiresAt K H ws wires ∧ NetOk ins outs parts wires ∧
  ∀ n H', SameX x H H' → NetI P w K C CP H' x ins outs parts wires n → Q .non H'
theorem sc_Net_lay : FnScope ["self", "inputs", "outputs", "parts", "wires", "path", "text"] ["self", "inputs", "outputs", "parts", "wires"] (defScope s_Net_lay) := ⟨rfl, rfl, rfl, by decide +kernel, rfl, by decide +kernel, by decide +kernel⟩
theorem ok_lay {f : Addr} {fd fdO : FuncData} (F : Fun K "lay" "Net.lay" s_Net_lay f fd) (T : Txt K w mg ad) (G_Primitive_parse : FnR P w K mg base CX0 4 ad.f_Primitive_parse (spParse K ad.C_Primitive))
    (G_Net_ordered : FnOk P w K mg base CX0 2 ad.f_Net_ordered fdO ["self"] (spOrdered P w K ad.C_Net ad.C_Primitive)) (b_Net_ordered : Binds K fdO ["self"] []) : FnOk P w K mg base CX0 5 f fd ["self", "inputs", "outputs", "parts", "wires"] (spLay P w K ad.C_Net ad.C_Primitive) := by
  refine F.ok sc_Net_lay (fun vs H Q E h => ?_) (fun cdv A outer s H vs Q E hr h => ?_)
  · obtain ⟨x, dx, i, o, l, d, ins, outs, us, ws, parts, wires, rfl, _⟩ := h
    rfl
  · obtain ⟨x, dx, i, o, l, d, ins, outs, us, ws, parts, wires, rfl, hx, hi, ho, hl, hp, hd, hw, ok, k⟩ := h
    have h16 := ok.p16
    have hul := parts_len hp
    have big : ∀ m, m ≤ 40 → m < sizeLine := fun m h => Nat.lt_of_le_of_lt h (by rw [sizeLine_eq]; decide)
    refine ⟨_, (pss_cons (ps_fldK K (pv 0) (pv 1) rfl)
    (pss_cons (ps_fldK K (pv 0) (pv 2) rfl)
    (pss_cons (ps_fldK K (pv 0) (pv 3) rfl)
    (pss_cons (ps_fldK K (pv 0) (pv 4) rfl)
    (pss_cons (ps_fldK K (pv 0) (pe_dcN P w K (own := [("path", 5), ("text", 6)]) rfl sc_Net_lay.nd (hu8 hr) (pi_tupK K (pv 3)) (blkOk_by (own := [("path", 5), ("text", 6)]) (N := ["self", "inputs", "outputs", "parts", "wires", "path", "text"]) (sc := defScope s_Net_lay) (by decide +kernel)) (fun _ _ _ _ _ => (by exact (pg_tupK K (n := 2) (by rfl) (pgs_cons (pg_name (i := 5) sc_Net_lay.nd rfl (Or.inl rfl)) (pgs_cons (pg_name (i := 6) sc_Net_lay.nd rfl (Or.inl rfl)) pgs_nil))))) (fun _ _ _ _ _ => pts_nil) (fun _ _ _ _ _ => (pv 5)) (fun _ _ _ _ _ => (ClX.pe_cmeth (pe_glob (v := .ref ad.C_Primitive) rfl T.g_Primitive rfl) T.cr_Primitive T.cm_Primitive_parse G_Primitive_parse (hr.mono (by decide)) pass0 (pa_cons (pv 6) pa_nil)))) rfl)
    (pss_cons (ps_frz (ps_fldK K (pv 0) (pe_callTy (call_dictNf P w K rfl (hu10 hr)) (by rfl) T.n_dict (by decide +kernel) (pa_cons (pv 4) pa_nil)) rfl))
    (pss_one (ps_fldK K (pv 0) (pe_meth0 (pv 0) T.cl_Net T.m_Net_ordered G_Net_ordered (hr.mono (by decide)) b_Net_ordered .nil pass0) rfl)))))))), ?_⟩
    have nx := notT_ins hx
    refine ⟨_, rfl, _, rfl, x, _, dx, _, rfl, hx, T.cl_Net, T.na_Net_inputs, (by decide), ?_⟩
    rw [fsN_put1]
    refine ⟨_, rfl, _, rfl, x, _, dx, _, rfl, upd_same, T.cl_Net, T.na_Net_outputs, (by show 1 < 1000; decide), ?_⟩
    rw [fsN_put2, upd_upd]
    refine ⟨_, rfl, _, rfl, x, _, dx, _, rfl, upd_same, T.cl_Net, T.na_Net_parts, (by show 2 < 1000; decide), ?_⟩
    rw [fsN_put3, upd_upd]
    refine ⟨_, rfl, _, rfl, x, _, dx, _, rfl, upd_same, T.cl_Net, T.na_Net_wires, (by show 3 < 1000; decide), ?_⟩
    rw [fsN_put4, upd_upd]
    have x4 : SameX x H (upd H x (.ins ad.C_Net dx (fsN4 i o l d))) := sx_put (sx_of (Same.refl H))
    have hx4 : upd H x (.ins ad.C_Net dx (fsN4 i o l d)) x = some (.ins ad.C_Net dx (fsN4 i o l d)) := upd_same
    revert x4 hx4
    generalize upd H x (.ins ad.C_Net dx (fsN4 i o l d)) = H4
    intro x4 hx4
    have hl4 := sqt_sx' x4 nx hl
    have hp4 := TpAll.sx hp x4 nx
    refine ⟨_, rfl, l, rfl, ⟨_, hl4⟩, ?_⟩
    intro D hD
    refine dcN_it (walk_tup (K := K) (a := l) (xs := us)) (fun j H' => Same H4 H' ∧ ∃ bk, DNm P w K H' D bk ∧ BlksAt K ad.C_Primitive H' bk (parts.take j)) hD (fun H' s d => ⟨s, [], d, .nil⟩) (fun j H' _ h => same_sqt h.1 hl4) ?_ ?_
    · rintro j y H5 H' hj ⟨s5, bk, d5, b5⟩ ⟨rfl, hy⟩
      obtain ⟨p, hpj, q, u, rfl, hq, hu⟩ := parts_get hp4 hy
      obtain ⟨nm, c, hpt, hpo, ez, ew⟩ := prim_of (ok.tx p (List.mem_of_getElem? hpj))
      refine ⟨q, _, rfl, same_sqt s5 hq, rfl, _, _, rfl, _, _, rfl, rfl, ?_⟩
      dsimp only [gName]
      refine ⟨rfl, ?_⟩
      dsimp only [tYes]
      refine iteT ⟨_, rfl, rfl, _, rfl, p.2, nm, c, rfl, Nat.le_trans (textOk_len (ok.tx p (List.mem_of_getElem? hpj))) (by decide), hpo, fun b H6 s6 hb0 hpr => ?_⟩
      have s56 := s5.trans s6
      have d6 := d5.same s6
      have b6 : BlksAt K ad.C_Primitive H6 bk (parts.take j) := paired_imp (fun _ _ z => ⟨z.1, z.2.same s6⟩) b5
      have hbl : bk.length ≤ 16 := by
        have h1 := paired_len b6
        have h2 : (parts.take j).length ≤ parts.length := List.length_take_le' _ _
        omega
      have fresh : kPath p.1 ∉ bk.map (·.1) := fun hm => by
        rw [al_keys (f := fun y : Part => kPath y.1) (R := fun v y => BlkAt K ad.C_Primitive H6 v y.2) b6] at hm
        obtain ⟨y, hy, e⟩ := List.mem_map.mp hm
        obtain ⟨j2, hj2⟩ := List.getElem?_of_mem hy
        have hlt : j2 < j := by
          have h1 := (List.getElem?_eq_some_iff.mp hj2).1
          rw [List.length_take] at h1
          omega
        rw [List.getElem?_take_of_lt hlt] at hj2
        have := nodup_ix ok.pn hj2 hpj (kPath_inj e)
        omega
      refine ⟨bk, kPath p.1, d6, key_path (hu.same s56), big _ (by omega), fun H7 s7 d7 => ⟨fun b' u' e' => s7 b' u' (ne_of_none e' hD) (s56 b' u' e'), _, d7, ?_⟩⟩
      have nD : ∀ dx n i o c t, H6 D ≠ some (.ins ad.C_Primitive dx (fsP n i o c t)) := fun dx n i o c t e => by
        obtain ⟨qs, e1, _⟩ := d6
        rw [e1] at e
        cases e
      rw [put_new fresh, List.take_add_one, hpj]
      have hpr' : BlkAt K ad.C_Primitive H6 (V.ref b) p.2 := ⟨b, nm, c, rfl, hpt, ez, hpr⟩
      exact paired_snoc (paired_imp (fun _ _ z => ⟨z.1, z.2.sx s7 d6.notT nD⟩) b6) ⟨rfl, hpr'.sx s7 d6.notT nD⟩
    rintro H5 ⟨s5, bk, d5, b5⟩
    rw [hul, List.take_length] at b5
    have hx5 := s5 _ _ hx4
    have nx5 := notT_ins hx5
    refine ⟨_, rfl, x, _, dx, _, rfl, hx5, T.cl_Net, T.na_Net_blocks, (by show 4 < 1000; decide), ?_⟩
    rw [fsN_put5]
    have neD : D ≠ x := fun e => by rw [e, hx4] at hD; cases hD
    have x6 : SameX x H5 (upd H5 x (.ins ad.C_Net dx (fsN5 i o l d D))) := sx_put (sx_of (Same.refl _))
    have hx6 : upd H5 x (.ins ad.C_Net dx (fsN5 i o l d D)) x = some (.ins ad.C_Net dx (fsN5 i o l d D)) := upd_same
    have d6 := d5.sx x6 nx5 neD
    have np5 := net_not_prim (CP := ad.C_Primitive) (v := .ref l) hx5 (by kernel_rfl)
    have b6 : BlksAt K ad.C_Primitive (upd H5 x (.ins ad.C_Net dx (fsN5 i o l d D))) bk parts := paired_imp (fun _ _ z => ⟨z.1, z.2.sx x6 nx5 np5⟩) b5
    have x06 : SameX x H (upd H5 x (.ins ad.C_Net dx (fsN5 i o l d D))) := fun b u nb e => x6 b u nb (s5 b u (x4 b u nb e))
    have fD : ∀ b u, H b = some u → b ≠ x → b ≠ D := fun b u e nb => ne_of_none (x4 b u nb e) hD
    revert x6 hx6 d6 b6 x06
    generalize upd H5 x (.ins ad.C_Net dx (fsN5 i o l d D)) = H6
    intro x6 hx6 d6 b6 x06
    obtain ⟨u, hu, mu, fz⟩ := d6.frz
    refine ⟨D, u, hu, mu, fun od => ?_⟩
    obtain ⟨d7, x7⟩ := fz od
    have nD : ∀ dx n i o c t, H6 D ≠ some (.ins ad.C_Primitive dx (fsP n i o c t)) := fun dx n i o c t e => by
      obtain ⟨qs, e1, _⟩ := d6
      rw [e1] at e
      cases e
    have b7 : BlksAt K ad.C_Primitive (upd H6 D (.frz od u)) bk parts := paired_imp (fun _ _ z => ⟨z.1, z.2.sx x7 d6.notT nD⟩) b6
    have hx7 := x7 _ _ neD.symm hx6
    have x07 : SameX x H (upd H6 D (.frz od u)) := fun b u nb e => x7 b u (fD b u e nb) (x06 b u nb e)
    revert d7 x7 b7 hx7 x07
    generalize upd H6 D (.frz od u) = H7
    intro d7 x7 b7 hx7 x07
    have hw7 := TpAll.sx hw x07 nx
    obtain ⟨kvs, hkv, hsk⟩ := wires_kv hw7
    have hkn : (kvs.map (·.1)).Nodup := by
      rw [al_keys (f := fun y : Nt.Wir => kPort y.1) (R := fun v y => Tp K H7 v (dPort y.2)) hsk]
      have := map_nodup (f := kPort) (fun x y e => kPort_inj e) ok.tn
      rwa [List.map_map] at this
    refine ⟨_, rfl, d, ws, kvs, rfl, .inr (knt_sxn hd x07 nx), hkv, hkn, fun sD H8 hsD s8 d8 => ?_⟩
    have hx8 := s8 _ _ hx7
    have nx8 := notT_ins hx8
    refine ⟨_, rfl, x, _, dx, _, rfl, hx8, T.cl_Net, T.na_Net_source_of, (by show 5 < 1000; decide), ?_⟩
    rw [fsN_put6]
    have neS : sD ≠ x := fun e => by rw [e, hx7] at hsD; cases hsD
    have x9 : SameX x H8 (upd H8 x (.ins ad.C_Net dx (fsN6 i o l d D sD))) := sx_put (sx_of (Same.refl _))
    have hx9 : upd H8 x (.ins ad.C_Net dx (fsN6 i o l d D sD)) x = some (.ins ad.C_Net dx (fsN6 i o l d D sD)) := upd_same
    have np8 := net_not_prim (CP := ad.C_Primitive) (v := .ref l) hx8 (by kernel_rfl)
    have x09 : SameX x H (upd H8 x (.ins ad.C_Net dx (fsN6 i o l d D sD))) := fun b u nb e => x9 b u nb (s8 b u (x07 b u nb e))
    have N9 : NetC P w K ad.C_Net ad.C_Primitive (upd H8 x (.ins ad.C_Net dx (fsN6 i o l d D sD))) x ins outs parts wires ⟨dx, i, o, l, d, D, sD, fsN6 i o l d D sD, us, ws, bk, kvs⟩ :=
      ⟨hx9, fsN6_i, fsN6_o, fsN6_l, fsN6_d, fsN6_b, fsN6_s, fun m hm => fsN6_out hm, sqt_sx' x09 nx hi, sqt_sx' x09 nx ho, sqt_sx' x09 nx hl, TpAll.sx hp x09 nx, sqt_sx' x09 nx hd.sqt, TpAll.sx hw x09 nx, (d7.same s8).sx x9 nx8 neD, paired_imp (fun _ _ z => ⟨z.1, (z.2.same s8).sx x9 nx8 np8⟩) b7, d8.sx x9 nx8 neS, paired_imp (fun _ _ z => ⟨z.1, (z.2.same s8).sx x9 nx8⟩) hsk⟩
    revert x9 hx9 x09 N9
    generalize upd H8 x (.ins ad.C_Net dx (fsN6 i o l d D sD)) = H9
    intro x9 hx9 x09 N9
    refine ⟨_, rfl, x, dx, _, rfl, hx9, fsN6_out (by decide +kernel), x, ins, outs, parts, wires, _, rfl, N9, ok, fun a vs ps H10 s10 ha hvs hvt hsq => ?_⟩
    have hx10 := s10 _ _ hx9
    refine ⟨_, rfl, x, _, dx, _, rfl, hx10, T.cl_Net, T.na_Net_sequence, (by show 6 < 1000; decide), ?_⟩
    rw [fsN_put7]
    have x11 : SameX x H10 (upd H10 x (.ins ad.C_Net dx (fsN7 i o l d D sD a))) := sx_put (sx_of (Same.refl _))
    have nea : a ≠ x := fun e => by rw [e, hx9] at ha; cases ha
    have N11 := (N9.same s10).reset x11 upd_same fsN7_i fsN7_o fsN7_l fsN7_d fsN7_b fsN7_s (fun m hm => fsN7_out hm)
    exact k _ _ (fun b u nb e => x11 b u nb (s10 b u (x09 b u nb e))) ⟨N11, a, vs, ps, fsN7_q, x11 _ _ nea hvs, TpAll.sx hvt x11 (notT_ins hx10), hsq⟩
def spNetInit (P : Program) (w : World) (K : PySem.W.Frag) (C CP : Addr) : Sp := spLay P w K C CP
theorem sc_Net_init : FnScope ["self", "inputs", "outputs", "parts", "wires"] ["self", "inputs", "outputs", "parts", "wires"] (defScope s_Net_init) := ⟨rfl, rfl, rfl, by decide +kernel, rfl, by decide +kernel, by decide +kernel⟩
theorem ok_netInit {f : Addr} {fd fdG fdL : FuncData} (F : Fun K "__init__" "Net.__init__" s_Net_init f fd) (T : Txt K w mg ad) (G_are_good_for_net : FnOk P w K mg base CX0 5 ad.f_are_good_for_net fdG ["inputs", "outputs", "parts", "wires"] (spGoodNet K)) (b_are_good_for_net : Binds K fdG ["inputs", "outputs", "parts", "wires"] [])
    (G_Net_lay : FnOk P w K mg base CX0 5 ad.f_Net_lay fdL ["self", "inputs", "outputs", "parts", "wires"] (spLay P w K ad.C_Net ad.C_Primitive)) (b_Net_lay : Binds K fdL ["self", "inputs", "outputs", "parts", "wires"] []) : FnOk P w K mg base CX0 6 f fd ["self", "inputs", "outputs", "parts", "wires"] (spNetInit P w K ad.C_Net ad.C_Primitive) := by
  refine F.ok sc_Net_init (fun vs H Q E h => ?_) (fun cdv A outer s H vs Q E hr h => ?_)
  · obtain ⟨x, dx, i, o, l, d, ins, outs, us, ws, parts, wires, rfl, _⟩ := h
    rfl
  · obtain ⟨x, dx, i, o, l, d, ins, outs, us, ws, parts, wires, rfl, hx, hi, ho, hl, hp, hd, hw, ok, k⟩ := h
    have h16 := ok.p16
    have hul := parts_len hp
    refine ⟨_, (pss_cons (ps_if (PW.pt (pw_or (pt_not (pt_val (pe_call G_are_good_for_net (hr.mono (by decide)) rfl T.g_are_good_for_net T.k_are_good_for_net b_are_good_for_net .nil pass0 (pa_cons (pv 1) (pa_cons (pv 2) (pa_cons (pv 3) (pa_cons (pv 4) pa_nil))))))) (pw_or1 (pt_cmpR op_gt (pe_callB (call_lenK K) (by rfl) T.n_len (by decide +kernel) (pa_cons (pv 3) pa_nil)) (pe_glob (v := .int 48) rfl T.g_MAX_NET ⟨_, rfl⟩) (nomark _))))) (pss_one ps_never) pss_nil)
    (pss_cons (ps_expr (pe_meth (pv 0) T.cl_Net T.m_Net_lay G_Net_lay (hr.mono (by decide)) b_Net_lay .nil pass0 (pa_cons (pv 1) (pa_cons (pv 2) (pa_cons (pv 3) (pa_cons (pv 4) pa_nil))))))
    (pss_one (ps_if (pt_cmpR op_isN (pe_fldK K (pv 0) rfl) pe_non (nomark _)) (pss_one ps_never) pss_nil)))), ?_⟩
    refine ⟨_, rfl, _, rfl, _, rfl, _, rfl, i, o, l, d, ins, outs, us, ws, parts, wires, rfl, hi, ho, hl, hp, hd.sqt, hw, ok, fun H1 s1 => ⟨_, rfl, iteF ?_⟩⟩
    refine ⟨_, rfl, l, _, rfl, .inr (same_sqt s1 hl), _, _, rfl, rfl, _, rfl, ?_⟩
    rw [decide_eq_false (show ¬ (48 : Int) < (us.length : Int) by omega)]
    refine iteF ?_
    walk_at "nx"
    refine ⟨_, rfl, x, dx, [], rfl, s1 _ _ hx, rfl, _, rfl, _, rfl, _, rfl, _, rfl, x, dx, i, o, l, d, ins, outs, us, ws, parts, wires, rfl, s1 _ _ hx, same_sqt s1 hi, same_sqt s1 ho, same_sqt s1 hl, TpAll.same hp s1, hd.same s1, TpAll.same hw s1, ok, fun n H2 s2 N => ?_⟩
    obtain ⟨a, vs, ps, fq, hq, hqt, hsq⟩ := N.q
    refine ⟨_, rfl, x, _, n.dx, n.fs, _, rfl, N.c.hx, T.cl_Net, T.na_Net_sequence, fq, ?_⟩
    refine ⟨rfl, _, rfl, ?_⟩
    rw [decide_eq_false (fun e => by cases e)]
    refine iteF ?_
    walk_at "nx"
    exact k n H2 (fun b u nb e => s2 b u nb (s1 b u e)) N

end
end K82

set_option maxRecDepth 100000
set_option maxHeartbeats 4000000
namespace Nt
open PySem PySem.Spec PyProof.Rows L2 Ly LamX Nd
def hasW (parts : List Part) (p : Pth) (wd : Str) : Bool := parts.any fun x => decide (x.1 = p) && decide (wordT x.2 = wd)
def isDel (parts : List Part) (p : Pth) : Bool := parts.any fun x => decide (x.1 = p) && isD x
theorem hasW_delay (parts : List Part) (p : Pth) : hasW parts p "delay" = isDel parts p := rfl
theorem isDel_iff {parts : List Part} {p : Pth} : isDel parts p = true ↔ ∃ x ∈ parts, x.1 = p ∧ isD x = true := by
  unfold isDel
  rw [List.any_eq_true]
  constructor
  · rintro ⟨x, hx, h⟩
    rw [Bool.and_eq_true, decide_eq_true_iff] at h
    exact ⟨x, hx, h⟩
  · rintro ⟨x, hx, h1, h2⟩
    exact ⟨x, hx, by rw [decide_eq_true h1, h2]; rfl⟩
theorem hasW_part {parts : List Part} (hn : (parts.map (·.1)).Nodup) {x : Part} (hx : x ∈ parts) (wd : Str) : hasW parts x.1 wd = decide (wordT x.2 = wd) := by
  unfold hasW
  by_cases h : wordT x.2 = wd
  · rw [decide_eq_true h, List.any_eq_true]
    exact ⟨x, hx, by rw [decide_eq_true rfl, decide_eq_true h]; rfl⟩
  · rw [decide_eq_false h, List.any_eq_false]
    intro y hy e
    rw [Bool.and_eq_true, decide_eq_true_iff, decide_eq_true_iff] at e
    rw [path_uniq hn hy hx e.1] at e
    exact h e.2
theorem hasW_none {parts : List Part} {p : Pth} (hp : p ∉ parts.map (·.1)) (wd : Str) : hasW parts p wd = false := by
  unfold hasW
  rw [List.any_eq_false]
  intro y hy e
  rw [Bool.and_eq_true, decide_eq_true_iff] at e
  exact hp (e.1 ▸ List.mem_map_of_mem hy)
def constOf (parts : List Part) (p : Pth) : Int := ((parts.find? fun x => decide (x.1 = p)).map fun x => constT x.2).getD 0
theorem constOf_part : ∀ {parts : List Part}, (parts.map (·.1)).Nodup → ∀ {x : Part}, x ∈ parts → constOf parts x.1 = constT x.2
  | [], _, x, hx => (by cases hx)
  | y :: l, hn, x, hx => by
    rw [List.map_cons] at hn
    obtain ⟨h1, h2⟩ := List.nodup_cons.mp hn
    unfold constOf
    rw [List.find?_cons]
    by_cases e : y.1 = x.1
    · rw [decide_eq_true e]
      have : x = y := by
        rcases List.mem_cons.mp hx with h | h
        · exact h
        · exact absurd (e ▸ List.mem_map_of_mem h) h1
      rw [this]
      rfl
    · rw [decide_eq_false e]
      exact constOf_part h2 ((List.mem_cons.mp hx).resolve_left fun z => e (by rw [z]))
theorem delay_ins {x : Part} (hx : TextOk x.2) (hd : isD x = true) : insT x.2 = [("in" : Str)] := by
  have h1 := rowT_of hx
  unfold isD at hd
  rw [of_decide_eq_true hd] at h1
  exact (show ∀ r ∈ portsTab, r.1 = ("delay" : Str) → r.2.1 = [("in" : Str)] by decide +kernel) ("delay", insT x.2, outsT x.2) h1 rfl
theorem delay_in {x : Part} (hx : TextOk x.2) (hd : isD x = true) : ((x.1, "in") : Nt.Prt) ∈ insP x := by
  unfold insP
  rw [delay_ins hx hd]
  exact List.mem_singleton.mpr rfl
section
variable {ins outs : List Str} {parts : List Part} {wires : List Nt.Wir}
theorem del_tgt (ok : NetOk ins outs parts wires) {p : Pth} (h : isDel parts p = true) : ((p, "in") : Nt.Prt) ∈ wires.map (·.1) := by
  obtain ⟨x, hx, rfl, hd⟩ := isDel_iff.mp h
  exact tgt_of ok hx (delay_in (ok.tx x hx) hd)
end
def nxtP (wires : List Nt.Wir) (p : Pth) : Pth := (srcF wires (p, "in")).1
def iterP (wires : List Nt.Wir) (p : Pth) : Nat → Pth
  | 0 => p
  | k + 1 => nxtP wires (iterP wires p k)
def Ring (parts : List Part) (wires : List Nt.Wir) : Prop := ∃ p, ∀ k, isDel parts (iterP wires p k) = true
theorem iter_again {wires : List Nt.Wir} {p : Pth} {i j : Nat} (h : iterP wires p j = iterP wires p i) : ∀ m, iterP wires p (j + m) = iterP wires p (i + m)
  | 0 => h
  | m + 1 => by
    show nxtP wires (iterP wires p (j + m)) = nxtP wires (iterP wires p (i + m))
    rw [iter_again h m]
theorem ring_of {parts : List Part} {wires : List Nt.Wir} {p : Pth} {i j : Nat} (hj : j < i) (h : iterP wires p j = iterP wires p i) (hd : ∀ m, m ≤ i → isDel parts (iterP wires p m) = true) : Ring parts wires := by
  refine ⟨p, fun k => ?_⟩
  induction k using Nat.strongRecOn with
  | ind k ih =>
    by_cases hk : k ≤ i
    · exact hd k hk
    · have e : k = i + (k - i) := by omega
      rw [e, ← iter_again h (k - i)]
      exact ih _ (by omega)
theorem iter_few {parts : List Part} {wires : List Nt.Wir} {p : Pth} {i : Nat} (hd : ∀ m, m < i → isDel parts (iterP wires p m) = true) (hn : ((List.range i).map (iterP wires p)).Nodup) : i ≤ parts.length := by
  have := nodup_len hn (m := parts.map (·.1)) fun q hq => by
    obtain ⟨m, hm, rfl⟩ := List.mem_map.mp hq
    obtain ⟨x, hx, e, _⟩ := isDel_iff.mp (hd m (List.mem_range.mp hm))
    exact e ▸ List.mem_map_of_mem hx
  rwa [List.length_map, List.length_range, List.length_map] at this
theorem no_ring {parts : List Part} {wires : List Nt.Wir} (h : ∀ x ∈ parts, isD x = true → ∃ k, isDel parts (iterP wires x.1 k) = false) : ¬ Ring parts wires := by
  rintro ⟨p, hp⟩
  obtain ⟨x, hx, rfl, hd⟩ := isDel_iff.mp (hp 0)
  obtain ⟨k, hk⟩ := h x hx hd
  have := hp k
  rw [hk] at this
  cases this
def sAt (wires : List Nt.Wir) (s : Nt.Prt) : Nat → Nt.Prt
  | 0 => s
  | k + 1 => srcF wires ((sAt wires s k).1, "in")
theorem sAt_path (wires : List Nt.Wir) (s : Nt.Prt) : ∀ k, (sAt wires s k).1 = iterP wires s.1 k
  | 0 => rfl
  | k + 1 => by
    show (srcF wires ((sAt wires s k).1, "in")).1 = nxtP wires (iterP wires s.1 k)
    rw [sAt_path wires s k]
    rfl
def valsTo (parts : List Part) (wires : List Nt.Wir) (s : Nt.Prt) (n : Nat) : List Int := (List.range n).map fun j => constOf parts (sAt wires s j).1
theorem valsTo_succ (parts : List Part) (wires : List Nt.Wir) (s : Nt.Prt) (n : Nat) : valsTo parts wires s (n + 1) = valsTo parts wires s n ++ [constOf parts (sAt wires s n).1] := by
  unfold valsTo
  rw [List.range_succ, List.map_append]
  rfl
theorem valsTo_len (parts : List Part) (wires : List Nt.Wir) (s : Nt.Prt) (n : Nat) : (valsTo parts wires s n).length = n := by
  unfold valsTo
  rw [List.length_map, List.length_range]
structure EndsAt (parts : List Part) (wires : List Nt.Wir) (s : Nt.Prt) (n : Nat) : Prop where
  del : ∀ j, j < n → isDel parts (sAt wires s j).1 = true
  out : isDel parts (sAt wires s n).1 = false
theorem EndsAt.uniq {parts : List Part} {wires : List Nt.Wir} {s : Nt.Prt} {n m : Nat} (h : EndsAt parts wires s n) (k : EndsAt parts wires s m) : n = m := by
  rcases Nat.lt_trichotomy n m with c | c | c
  · have := k.del n c
    rw [h.out] at this
    cases this
  · exact c
  · have := h.del m c
    rw [k.out] at this
    cases this
/-- a line without a ring is short -/
theorem line_few {parts : List Part} {wires : List Nt.Wir} (h : ¬ Ring parts wires) {s : Nt.Prt} {i : Nat} (hd : ∀ j, j < i → isDel parts (sAt wires s j).1 = true) : i ≤ parts.length := by
  have hd' : ∀ m, m < i → isDel parts (iterP wires s.1 m) = true := fun m hm => by rw [← sAt_path]; exact hd m hm
  refine iter_few hd' ?_
  refine List.pairwise_map.mpr ((List.pairwise_lt_range).imp_of_mem fun {a b} ha hb hlt e => ?_)
  have hb' := List.mem_range.mp hb
  exact h (ring_of hlt e fun m hm => hd' m (by omega))
def linedT (outs : List Str) (parts : List Part) : List Nt.Prt := (tgts outs parts).filter fun t => !isDel parts t.1
theorem firsts_some {parts : List Part} (p : Pth) : (valV (firsts parts) (kPath p)).isSome = isDel parts p := by
  rw [← valV_any]
  unfold firsts isDel
  rw [List.any_map, List.any_filter]
  congr 1
  funext x
  show (isD x && decide (kPath x.1 = kPath p)) = (decide (x.1 = p) && isD x)
  have : decide (kPath x.1 = kPath p) = decide (x.1 = p) := by
    by_cases e : x.1 = p
    · rw [decide_eq_true e, decide_eq_true (by rw [e])]
    · rw [decide_eq_false e, decide_eq_false fun z => e (kPath_inj z)]
  rw [this, Bool.and_comm]
theorem firsts_at {parts : List Part} (hn : (parts.map (·.1)).Nodup) {p : Pth} (h : isDel parts p = true) : valV (firsts parts) (kPath p) = some (.int (constOf parts p)) := by
  obtain ⟨x, hx, rfl, hd⟩ := isDel_iff.mp h
  rw [constOf_part hn hx]
  have key : ∀ l : List Part, (l.map (·.1)).Nodup → x ∈ l → valV ((l.filter isD).map fun x => (kPath x.1, V.int (constT x.2))) (kPath x.1) = some (.int (constT x.2)) := by
    intro l
    induction l with
    | nil => intro _ h; cases h
    | cons y l ih =>
      intro hn hx
      rw [List.map_cons] at hn
      obtain ⟨h1, h2⟩ := List.nodup_cons.mp hn
      by_cases e : y.1 = x.1
      · have exy : x = y := by
          rcases List.mem_cons.mp hx with h | h
          · exact h
          · exact absurd (e ▸ List.mem_map_of_mem h) h1
        subst exy
        rw [List.filter_cons, if_pos hd, List.map_cons]
        exact valV_pos rfl
      · have hx' := (List.mem_cons.mp hx).resolve_left fun z => e (by rw [z])
        cases hy : isD y with
        | false =>
          rw [List.filter_cons, if_neg (by rw [hy]; decide)]
          exact ih h2 hx'
        | true =>
          rw [List.filter_cons, if_pos hy, List.map_cons, valV_neg (fun z => e (kPath_inj z))]
          exact ih h2 hx'
  exact key parts hn hx
def layer (parts : List Part) (wires : List Nt.Wir) : Nat → List Pth
  | 0 => (parts.filter isD).map (·.1)
  | k + 1 => (layer parts wires k).filter fun p => decide (nxtP wires p ∈ layer parts wires k)
theorem layer_mem {parts : List Part} {wires : List Nt.Wir} : ∀ {k : Nat} {p : Pth}, p ∈ layer parts wires k ↔ ∀ j, j ≤ k → isDel parts (iterP wires p j) = true
  | 0, p => by
    show p ∈ (parts.filter isD).map (·.1) ↔ _
    rw [List.mem_map]
    constructor
    · rintro ⟨x, hx, rfl⟩ j hj
      obtain rfl : j = 0 := by omega
      obtain ⟨h1, h2⟩ := List.mem_filter.mp hx
      exact isDel_iff.mpr ⟨x, h1, rfl, h2⟩
    · intro h
      obtain ⟨x, hx, e, hd⟩ := isDel_iff.mp (h 0 (Nat.le_refl _))
      exact ⟨x, List.mem_filter.mpr ⟨hx, hd⟩, e⟩
  | k + 1, p => by
    show p ∈ (layer parts wires k).filter _ ↔ _
    rw [List.mem_filter, decide_eq_true_iff, layer_mem, layer_mem]
    have sh : ∀ j, iterP wires (nxtP wires p) j = iterP wires p (j + 1) := by
      intro j
      induction j with
      | zero => rfl
      | succ j ih =>
        show nxtP wires (iterP wires (nxtP wires p) j) = nxtP wires (iterP wires p (j + 1))
        rw [ih]
    constructor
    · rintro ⟨h1, h2⟩ j hj
      by_cases hk : j ≤ k
      · exact h1 j hk
      · have e : j = (j - 1) + 1 := by omega
        rw [e, ← sh]
        exact h2 _ (by omega)
    · intro h
      exact ⟨fun j hj => h j (by omega), fun j hj => by rw [sh]; exact h _ (by omega)⟩
theorem layer_ring {parts : List Part} {wires : List Nt.Wir} {k : Nat} (h : (layer parts wires (k + 1)).length = (layer parts wires k).length) (hne : layer parts wires k ≠ []) : Ring parts wires := by
  have hs : layer parts wires (k + 1) = layer parts wires k := by
    show (layer parts wires k).filter _ = _
    exact List.filter_eq_self.mpr fun p hp => by
      have := (List.length_filter_eq_length_iff (p := fun p => decide (nxtP wires p ∈ layer parts wires k)) (l := layer parts wires k)).mp h
      exact this p hp
  have hall : ∀ m, layer parts wires (k + m) = layer parts wires k := by
    intro m
    induction m with
    | zero => rfl
    | succ m ih =>
      show (layer parts wires (k + m)).filter (fun p => decide (nxtP wires p ∈ layer parts wires (k + m))) = _
      rw [ih]
      exact hs
  obtain ⟨p, hp⟩ := List.exists_mem_of_ne_nil _ hne
  refine ⟨p, fun j => ?_⟩
  have : p ∈ layer parts wires (k + j) := by rw [hall]; exact hp
  exact layer_mem.mp this j (by omega)
theorem layer_none {parts : List Part} {wires : List Nt.Wir} {k : Nat} (h : layer parts wires k = []) : ¬ Ring parts wires := by
  rintro ⟨p, hp⟩
  have : p ∈ layer parts wires k := layer_mem.mpr fun j _ => hp j
  rw [h] at this
  cases this
end Nt

set_option maxRecDepth 100000
set_option maxHeartbeats 4000000
namespace Ly
open PySem PySem.Spec PyProof.Rows L2
section
variable {X : Cx} {C : Addr} {bmB : List Value} {B newId initId : String}
theorem pmk_own0 {x : Str} {p pos : Pos} (F : ExcBaseFacts B newId initId bmB) (q : PySem.W.excIn X.K C bmB newId = true) (gC : X.mg x = some (.ref C)) (kC : PySem.W.keepIn X.K (.ref C) = true) (r : Raises X (.ref C)) (hg : Gl X x)
    (hdb : (x == ("__debug__" : Str)) = false := by decide) : PMk X (.Call (.Name x p) [] [] pos) (fun _ H Q => Q (.ref C) none H) := by
  intro pins s σ H Q I h
  refine wpAny_Call_Name_kw (ld_glob I hg gC ?_ hdb)
  refine PySem.W.callWith_K0 I.kIn kC ?_
  obtain ⟨bm, N, nm, qn, bs, hdct, sn, sub, ab, col, dd, k0, k1, k2, k3, k5, mN, hC, hN, hni, T⟩ := exc_obj I.kIn q
  refine wpAny_call_exc_subT F T hC hN hni (fun h' e hm => ?_) (Nat.zero_le _)
  exact mk_of I hm r h (I.hok.gone hm.new)
end
end Ly

set_option maxRecDepth 100000
set_option maxHeartbeats 4000000
namespace K82
open PySem L2 Ly Nd Nt Od
local macro_rules | `(tactic| walk_at "nx") => `(tactic| dsimp only [tNext])
section
variable {P : Program} {w : World} {K : PySem.W.Frag} {mg : Str → Option Value} {base : Heap} {ad : Adr}
def spHasWord (P : Program) (w : World) (K : PySem.W.Frag) (C CP : Addr) : Sp := fun vs H Q _ => ∃ (x : Addr) (v : V) (wd : Str) (ins outs : List Str) (parts : List Part) (wires : List Nt.Wir) (n : NetV) (p : Pth), vs = [.ref x, v, .str wd] ∧ NetC P w K C CP H x ins outs parts wires n ∧ (parts.map (·.1)).Nodup ∧ Tp K H v (dTx p) ∧
  ∀ (H' : Hp), Same H H' → Q (.bl (hasW parts p wd)) H'
theorem sc_has_word : FnScope ["net", "path", "word"] ["net", "path", "word"] (defScope s_has_word) := ⟨rfl, rfl, rfl, by decide +kernel, rfl, by decide +kernel, by decide +kernel⟩
theorem ok_hasWord {f : Addr} {fd : FuncData} (F : Fun K "has_word" "has_word" s_has_word f fd) (T : Txt K w mg ad) : FnOk P w K mg base CX0 1 f fd ["net", "path", "word"] (spHasWord P w K ad.C_Net ad.C_Primitive) := by
  refine F.ok sc_has_word (fun vs H Q E h => ?_) (fun cdv A outer s H vs Q E hr h => ?_)
  · obtain ⟨x, v, wd, ins, outs, parts, wires, n, p, rfl, _⟩ := h
    rfl
  · obtain ⟨x, v, wd, ins, outs, parts, wires, n, p, rfl, N, hn, hv, k⟩ := h
    refine ⟨_, (pss_one (ps_ret (pe_and (pe_cmp (pc_dinN P w K (hu9 hr) (pv 1) (pe_fldK K (pv 0) rfl)) rfl) (pe_one (pe_cmpR op_eq (pe_fldK K (pe_dgetN P w K (hu9 hr) (pe_fldK K (pv 0) rfl) (pv 1) (fun _ _ => rfl)) rfl) (pv 2) (nomark _)))))), ?_⟩
    refine ⟨_, rfl, _, rfl, x, ad.C_Net, n.dx, n.fs, _, rfl, N.hx, T.cl_Net, T.na_Net_blocks, N.fb, n.b, n.bk, kPath p, rfl, N.hb.dn, key_path hv, ?_⟩
    by_cases hp : p ∈ parts.map (·.1)
    · obtain ⟨y, hy, rfl⟩ := List.mem_map.mp hp
      obtain ⟨bv, hbv, b, nm, c, rfl, hpt, ez, dx, bi, bo, hbx, _⟩ := blk_at N.bk hn hy
      have e2 : decide (V.str nm = V.str wd) = hasW parts y.1 wd := by
        rw [hasW_part hn hy, blk_word hpt ez]
        by_cases h : nm = wd
        · rw [decide_eq_true (congrArg V.str h), decide_eq_true h]
        · rw [decide_eq_false (fun z => h (V.str.inj z)), decide_eq_false h]
      rw [show (valV n.bk (kPath y.1)).isSome = true by rw [hbv]; rfl]
      refine ⟨_, rfl, iteT ⟨_, rfl, x, ad.C_Net, n.dx, n.fs, _, rfl, N.hx, T.cl_Net, T.na_Net_blocks, N.fb, _, rfl, n.b, n.bk, kPath y.1, _, rfl, N.hb.dn, key_path hv, hbv, b, ad.C_Primitive, dx, _, _, rfl, hbx, T.cl_Primitive, T.na_Primitive_name, fsP_name, _, rfl, rfl, ?_⟩⟩
      rw [e2]
      exact k H (Same.refl H)
    · rw [blk_none N.bk hp]
      refine ⟨_, rfl, iteF ?_⟩
      have := k H (Same.refl H)
      rw [hasW_none hp] at this
      exact this
def spLineTgts (P : Program) (w : World) (K : PySem.W.Frag) (C CP : Addr) : Sp := fun vs H Q _ => ∃ (x : Addr) (ins outs : List Str) (parts : List Part) (wires : List Nt.Wir) (n : NetV), vs = [.ref x] ∧ NetC P w K C CP H x ins outs parts wires n ∧ NetOk ins outs parts wires ∧
  ∀ f ws H', Same H H' → H f = none → H' f = some (.lst ws) → TpAll K H' ws ((linedT outs parts).map dPort) → Q (.ref f) H'
theorem sc_line_targets : FnScope ["net", "target"] ["net"] (defScope s_line_targets) := ⟨rfl, rfl, rfl, by decide +kernel, rfl, by decide +kernel, by decide +kernel⟩
theorem ok_lineTgts {f : Addr} {fd fdT fdW : FuncData} (F : Fun K "line_targets" "line_targets" s_line_targets f fd) (T : Txt K w mg ad) (G_targets_of : FnOk P w K mg base CX0 2 ad.f_targets_of fdT ["outputs", "parts"] (spTgtsOf K)) (b_targets_of : Binds K fdT ["outputs", "parts"] [])
    (G_has_word : FnOk P w K mg base CX0 1 ad.f_has_word fdW ["net", "path", "word"] (spHasWord P w K ad.C_Net ad.C_Primitive)) (b_has_word : Binds K fdW ["net", "path", "word"] []) : FnOk P w K mg base CX0 3 f fd ["net"] (spLineTgts P w K ad.C_Net ad.C_Primitive) := by
  refine F.ok sc_line_targets (fun vs H Q E h => ?_) (fun cdv A outer s H vs Q E hr h => ?_)
  · obtain ⟨x, ins, outs, parts, wires, n, rfl, _⟩ := h
    rfl
  · obtain ⟨x, ins, outs, parts, wires, n, rfl, N, ok, k⟩ := h
    refine ⟨_, (pss_one (ps_ret (pe_lc (own := [("target", 1)]) rfl sc_line_targets.nd (pi_listK K (pe_call G_targets_of (hr.mono (by decide)) rfl T.g_targets_of T.k_targets_of b_targets_of .nil pass0 (pa_cons (pe_fldK K (pv 0) rfl) (pa_cons (pe_fldK K (pv 0) rfl) pa_nil)))) (blkOk_by (own := [("target", 1)]) (N := ["net", "target"]) (sc := defScope s_line_targets) (by decide +kernel)) (fun _ _ _ _ _ => (pg_name (i := 1) sc_line_targets.nd rfl (Or.inl rfl))) (fun _ _ _ _ _ => (pts_one (pt_not (pt_val (pe_call G_has_word (hr.mono (by decide)) rfl T.g_has_word T.k_has_word b_has_word .nil pass0 (pa_cons (pv 0) (pa_cons (pe_ix (ix_tupK K) (pv 1) pe_int (fun _ _ => rfl)) (pa_cons pe_str pa_nil)))))))) (fun _ _ _ _ _ => (pv 1))))), ?_⟩
    refine ⟨_, rfl, x, ad.C_Net, n.dx, n.fs, _, rfl, N.hx, T.cl_Net, T.na_Net_outputs, N.fo, _, rfl, x, ad.C_Net, n.dx, n.fs, _, rfl, N.hx, T.cl_Net, T.na_Net_parts, N.fp, n.o, n.l, outs, n.us, parts, rfl, N.ho, N.hl, N.hp, ok.tx, ok.p16, ok.o8, fun f ws H1 s1 hf0 hf hft => ?_⟩
    have htl := tgts_len (outs := outs) ok.tx
    have h16 := ok.p16
    have h8 := ok.o8
    have hwl : ws.length = (tgts outs parts).length := by
      have := TpAll.len hft
      rwa [List.length_map] at this
    refine ⟨f, rfl, ⟨_, SqL.of hf⟩, fun D hD => run_it (walk_list (K := K) (a := f) (xs := ws)) (fun i H' => Same H1 H' ∧ ∃ rs, H' D = some (.lst rs) ∧ TpAll K H' rs ((((tgts outs parts).take i).filter fun t => !isDel parts t.1).map dPort)) ⟨same_new hD, [], upd_same, .nil⟩ (fun i H' _ h => SqL.of (h.1 _ _ hf)) ?_ ?_⟩
    · rintro i y H2 H' hi ⟨s2, rs, hrs, hrt⟩ ⟨rfl, hy⟩
      obtain ⟨d, hd, htp⟩ := TpAll.get hft hy
      rw [List.getElem?_map] at hd
      obtain ⟨t, ht, rfl⟩ := Option.map_eq_some_iff.mp hd
      obtain ⟨a, u, rfl, ha, hu⟩ := port_inv htp
      have es := filter_succ (fun t : Nt.Prt => !isDel parts t.1) ht
      have hrl : rs.length ≤ 60 := by
        have h1 := TpAll.len hrt
        rw [List.length_map] at h1
        have h2 : (((tgts outs parts).take i).filter fun t => !isDel parts t.1).length ≤ ((tgts outs parts).take i).length := List.length_filter_le _ _
        have h3 : ((tgts outs parts).take i).length ≤ (tgts outs parts).length := List.length_take_le' _ _
        omega
      dsimp only [gName]
      refine ⟨rfl, ?_⟩
      refine ⟨_, rfl, _, rfl, a, _, _, _, rfl, rfl, same_sqt s2 ha, atI_nat (j := 0) rfl, x, u, "delay", ins, outs, parts, wires, n, t.1, rfl, N.same (s1.trans s2), ok.pn, hu.same s2, fun H3 s3 => ⟨_, rfl, ?_⟩⟩
      rw [hasW_delay, es]
      cases hv : isDel parts t.1 with
      | true => exact iteF ⟨s2.trans s3, rs, s3 _ _ hrs, by simpa using TpAll.same hrt s3⟩
      | false =>
        refine iteT ⟨_, rfl, rs, s3 _ _ hrs, szt (by omega), same_mut (s2.trans s3) hD, _, upd_same, ?_⟩
        rw [if_pos (by decide), List.map_append]
        exact TpAll.sx (TpAll.snoc (TpAll.same hrt s3) (htp.same (s2.trans s3))) (sx_put (sx_of (Same.refl _))) (notT_lst (s3 _ _ hrs))
    · rintro H2 ⟨s2, rs, hrs, hrt⟩
      rw [hwl, List.take_length] at hrt
      have hDn : H D = none := s1.free hD
      exact k D rs H2 (s1.trans s2) hDn hrs hrt
def spRings (P : Program) (w : World) (K : PySem.W.Frag) (C CP CR : Addr) : Sp := fun vs H Q E => ∃ (x : Addr) (ins outs : List Str) (parts : List Part) (wires : List Nt.Wir) (n : NetV), vs = [.ref x] ∧ NetC P w K C CP H x ins outs parts wires n ∧ NetOk ins outs parts wires ∧
  (¬ Ring parts wires → ∀ H', Same H H' → Q .non H') ∧ (Ring parts wires → ∀ H', Same H H' → E (.ref CR) none H')
/-- the keys that are seen -/
def SeenK (wires : List Nt.Wir) (p : Pth) (i : Nat) (kvs : List (NK × V)) : Prop := (∀ q, (valV kvs (kPath q)).isSome = true ↔ ∃ m, m < i ∧ iterP wires p m = q) ∧ kvs.length ≤ i
theorem seen_put {wires : List Nt.Wir} {p : Pth} {i : Nat} {kvs : List (NK × V)} (h : SeenK wires p i kvs) (v : V) : SeenK wires p (i + 1) (putK kvs (kPath (iterP wires p i)) v) := by
  refine ⟨fun q => ?_, ?_⟩
  · rw [valV_put]
    by_cases e : kPath q = kPath (iterP wires p i)
    · rw [if_pos e]
      exact ⟨fun _ => ⟨i, Nat.lt_succ_self _, (kPath_inj e).symm⟩, fun _ => rfl⟩
    · rw [if_neg e, h.1 q]
      have e : q ≠ iterP wires p i := fun z => e (by rw [z])
      constructor
      · rintro ⟨m, hm, r⟩
        exact ⟨m, by omega, r⟩
      · rintro ⟨m, hm, r⟩
        refine ⟨m, ?_, r⟩
        rcases Nat.lt_or_ge m i with c | c
        · exact c
        · obtain rfl : m = i := by omega
          exact absurd r.symm e
  · have := length_putK kvs (kPath (iterP wires p i)) v
    have := h.2
    omega
def RingW (P : Program) (w : World) (K : PySem.W.Frag) (H1 : Hp) (parts : List Part) (wires : List Nt.Wir) (x D : Addr) (p : Pth) (m : Nat) (σ : L2.St) (H' : Hp) : Prop := ∃ (j : Nat) (kvs : List (NK × V)) (v : V), m = 17 - j ∧ σ = [some (.ref x), some v, some (.ref D)] ∧ Same H1 H' ∧ DNm P w K H' D kvs ∧ SeenK wires p j kvs ∧
  Tp K H' v (dTx (iterP wires p j)) ∧ (∀ m, m < j → isDel parts (iterP wires p m) = true) ∧ ((List.range j).map (iterP wires p)).Nodup
theorem sc_check_rings : FnScope ["net", "path", "seen"] ["net"] (defScope s_check_rings) := ⟨rfl, rfl, rfl, by decide +kernel, rfl, by decide +kernel, by decide +kernel⟩
theorem ok_rings {f : Addr} {fd fdF fdW : FuncData} (F : Fun K "check_rings" "check_rings" s_check_rings f fd) (T : Txt K w mg ad) (G_Net_first_state : FnOk P w K mg base CX0 1 ad.f_Net_first_state fdF ["self"] (spFirstSt P w K ad.C_Net ad.C_Primitive)) (b_Net_first_state : Binds K fdF ["self"] [])
    (G_has_word : FnOk P w K mg base CX0 1 ad.f_has_word fdW ["net", "path", "word"] (spHasWord P w K ad.C_Net ad.C_Primitive)) (b_has_word : Binds K fdW ["net", "path", "word"] []) : FnOk P w K mg base (L2.CX P w) 2 f fd ["net"] (spRings P w K ad.C_Net ad.C_Primitive ad.C_DelayRing) := by
  refine F.okX sc_check_rings (fun vs H Q E h => ?_) (fun cdv A outer s H vs Q E hr h => ?_)
  · obtain ⟨x, ins, outs, parts, wires, n, rfl, _⟩ := h
    rfl
  · obtain ⟨x, ins, outs, parts, wires, n, rfl, N, ok, kno, kyes⟩ := h
    refine ⟨_, (pss_one (ps_for (passes_of rfl) rfl (pi_keysN P w (pe_meth0 (pv 0) T.cl_Net T.m_Net_first_state G_Net_first_state (hr.mono (by decide)) b_Net_first_state .nil pass0)) (pg_name (i := 1) sc_check_rings.nd rfl (Or.inl rfl))
    (pss_cons (ps_set (i := 2) sc_check_rings.nd rfl (Or.inl rfl) (pe_dnewN P w K))
    (pss_one (ps_while (passes_of rfl) (pt_val (pe_call G_has_word (hr.mono (by decide)) rfl T.g_has_word T.k_has_word b_has_word .nil pass0 (pa_cons (pv 0) (pa_cons (pv 1) (pa_cons pe_str pa_nil)))))
    (pss_cons (ps_if (pt_cmp (pc_dinN P w K (hu9 hr) (pv 1) (pv 2))) (pss_one (ps_raise rfl (takes_of rfl rfl rfl rfl) (pmk_own0 PySem.F.excBase_ValueError T.xq_DelayRing T.g_DelayRing T.xk_DelayRing (raises_own T.xe_DelayRing T.xt_DelayRing) rfl))) pss_nil)
    (pss_cons (ps_dputN P w K (hu9 hr) (pv 2) (pv 1) pe_bl rfl)
    (pss_one (ps_set (i := 1) sc_check_rings.nd rfl (Or.inl rfl) (pe_ix (ix_tupK K) (pe_dgetN P w K (hu9 hr) (pe_fldK K (pv 0) rfl) (pe_tupF (pa_cons (pv 1) (pa_cons pe_str pa_nil))) (fun _ _ => rfl)) pe_int (fun _ _ => rfl))))))))))), ?_⟩
    have h16 := ok.p16
    refine ⟨_, rfl, x, n.dx, n.fs, rfl, N.hx, N.fm "first_state" (by decide +kernel), x, ins, outs, parts, wires, n, rfl, N, ok.p16, ok.pn, fun d H1 s1 hd0 hdf => ?_⟩
    obtain ⟨ob, qs, hbo, eqs, kqs⟩ := hdf
    refine ⟨d, ob, qs, rfl, hbo, for_it walk_keysN (fun i σ H' => Same H1 H' ∧ (∃ x1 x2 : Option V, σ = [some (.ref x), x1, x2]) ∧ ∀ y ∈ (parts.filter isD).take i, ∃ k, isDel parts (iterP wires y.1 k) = false) ⟨Same.refl _, ⟨_, _, rfl⟩, fun y hy => (by simp at hy)⟩ (fun i σ H' _ h => h.1 _ _ hbo) ?_ ?_⟩
    · rintro i y σ H2 H' hi ⟨s2, ⟨x1, x2, rfl⟩, hdone⟩ ⟨rfl, q, hq, rfl⟩
      dsimp only [gName]
      have hqf : (firsts parts)[i]? = some (q.1, q.2.2) := by
        rw [← eqs]
        unfold pairsN
        rw [List.getElem?_map, hq]
        rfl
      unfold firsts at hqf
      rw [List.getElem?_map] at hqf
      obtain ⟨z, hz, ez⟩ := Option.map_eq_some_iff.mp hqf
      have hk := kqs.1 q (List.mem_of_getElem? hq)
      rw [← (Prod.mk.inj ez).1] at hk
      have htp := (tp_key hk).same s2
      refine fun D H3 hD s3 d3 => ?_
      dsimp only [gName]
      have hD1 := s2.free hD
      have hW : RingW P w K H1 parts wires x D z.1 17 [some (.ref x), some (.ref q.2.1), some (.ref D)] H3 := ⟨0, [], _, rfl, rfl, s2.trans s3, d3, ⟨fun q => ⟨fun h => (by simp [valV] at h), fun ⟨m, hm, _⟩ => absurd hm (Nat.not_lt_zero _)⟩, Nat.le_refl _⟩, htp.same s3, fun m hm => absurd hm (Nat.not_lt_zero _), List.nodup_nil⟩
      refine ⟨RingW P w K H1 parts wires x D z.1, ⟨_, hW⟩, ?_⟩
      rintro m σ H4 ⟨j, kvs, v, rfl, rfl, s4, d4, sk, hv, hdel, hnd⟩
      have hj := iter_few hdel hnd
      have N4 := N.same (s1.trans s4)
      refine ⟨_, rfl, _, rfl, x, v, "delay", ins, outs, parts, wires, n, iterP wires z.1 j, rfl, N4, ok.pn, hv, fun H5 s5 => ⟨_, rfl, ?_⟩⟩
      rw [hasW_delay]
      cases hd : isDel parts (iterP wires z.1 j) with
      | false =>
        refine iteF ⟨s4.trans s5, ⟨_, _, rfl⟩, fun y hy => ?_⟩
        rw [List.take_add_one, hz] at hy
        rcases List.mem_append.mp hy with h | h
        · exact hdone y h
        · rw [List.mem_singleton.mp h]
          exact ⟨j, hd⟩
      | true =>
        refine iteT ⟨fun σ' H' => ∃ m', m' < 17 - j ∧ RingW P w K H1 parts wires x D z.1 m' σ' H', fun σ' H' h => h, ?_⟩
        have s45 := s4.trans s5
        refine ⟨_, rfl, _, rfl, D, kvs, kPath (iterP wires z.1 j), rfl, (d4.same s5).dn, key_path (hv.same s5), _, rfl, ?_⟩
        cases hs : (valV kvs (kPath (iterP wires z.1 j))).isSome with
        | true =>
          obtain ⟨m, hm, e⟩ := (sk.1 _).mp hs
          exact iteT (kyes (ring_of hm e fun m' hm' => by
            rcases Nat.lt_or_ge m' j with c | c
            · exact hdel m' c
            · obtain rfl : m' = j := by omega
              exact hd) H5 (s1.trans s45))
        | false =>
          refine iteF ?_
          walk_at "nx"
          have hlen := sk.2
          refine ⟨_, rfl, _, rfl, D, kvs, kPath (iterP wires z.1 j), rfl, d4.same s5, key_path (hv.same s5), Nat.lt_of_le_of_lt (show kvs.length ≤ 16 by omega) (by rw [sizeLine_eq]; decide), fun H6 s6 d6 => ?_⟩
          have s16 : Same H1 H6 := fun b u e => s6 b u (ne_of_none e hD1) (s45 b u e)
          have N6 := N.same (s1.trans s16)
          have hv6 := (hv.same s5).sx s6 (d4.same s5).notT
          obtain ⟨sv, hsv, hst⟩ := src_at N6.sk ok.tn (del_tgt ok hd)
          obtain ⟨sa, su, rfl, hsa, hsu⟩ := port_inv hst
          refine ⟨_, rfl, x, ad.C_Net, n.dx, n.fs, _, rfl, N6.hx, T.cl_Net, T.na_Net_source_of, N6.fg, _, rfl, szl (show 2 ≤ 100000 by decide), fun c1 G7 u7 k7 => ⟨n.s, n.sk, kPort (iterP wires z.1 j, "in"), _, rfl, (N6.hs.same u7).dn, key_port (tp_port k7.sqt (hv6.same u7)), hsv, ?_⟩⟩
          refine ⟨sa, _, _, _, rfl, rfl, same_sqt u7 hsa, atI_nat (j := 0) rfl, ?_⟩
          dsimp only [gName]
          refine ⟨17 - (j + 1), by omega, j + 1, _, su, rfl, rfl, s16.trans u7, d6.same u7, seen_put sk _, hsu.same u7, fun m hm => ?_, ?_⟩
          · rcases Nat.lt_or_ge m j with c | c
            · exact hdel m c
            · obtain rfl : m = j := by omega
              exact hd
          · rw [List.range_succ, List.map_append]
            refine List.nodup_append.mpr ⟨hnd, List.nodup_cons.mpr ⟨by simp, List.nodup_nil⟩, fun a ha b hb e => ?_⟩
            rw [List.map_cons, List.map_nil] at hb
            rw [List.mem_singleton.mp hb] at e
            obtain ⟨m, hm, em⟩ := List.mem_map.mp ha
            have : (valV kvs (kPath (iterP wires z.1 j))).isSome = true := (sk.1 _).mpr ⟨m, List.mem_range.mp hm, em.trans e⟩
            rw [hs] at this
            cases this
    · rintro σ H2 ⟨s2, _, hdone⟩
      have hql : qs.length = (parts.filter isD).length := by
        have := congrArg List.length eqs
        unfold pairsN firsts at this
        rwa [List.length_map, List.length_map] at this
      rw [hql, List.take_length] at hdone
      exact kno (no_ring fun y hy hd => hdone y (List.mem_filter.mpr ⟨hy, hd⟩)) H2 (s1.trans s2)
def LineW (K : PySem.W.Frag) (H : Hp) (parts : List Part) (wires : List Nt.Wir) (x : Addr) (v : V) (vl : Addr) (s0 : Nt.Prt) (m : Nat) (σ : L2.St) (H' : Hp) : Prop := ∃ (i : Nat) (u : V), m = 17 - i ∧ σ = [some (.ref x), some v, some (.ref vl), some u] ∧ Same H H' ∧ H' vl = some (.lst ((valsTo parts wires s0 i).map V.int)) ∧
  Tp K H' u (dPort (sAt wires s0 i)) ∧ ∀ j, j < i → isDel parts (sAt wires s0 j).1 = true
def spLineAt (P : Program) (w : World) (K : PySem.W.Frag) (C CP : Addr) : Sp := fun vs H Q _ => ∃ (x : Addr) (v : V) (ins outs : List Str) (parts : List Part) (wires : List Nt.Wir) (n : NetV) (t : Nt.Prt), vs = [.ref x, v] ∧ NetC P w K C CP H x ins outs parts wires n ∧ NetOk ins outs parts wires ∧ ¬ Ring parts wires ∧ t ∈ tgts outs parts ∧ Tp K H v (dPort t) ∧
  ∀ (k : Nat) (a l : Addr) (u : V) (H' : Hp), Same H H' → H l = none → KnT H' a [u, .ref l] → Tp K H' u (dPort (sAt wires (srcF wires t) k)) → H' l = some (.lst ((valsTo parts wires (srcF wires t) k).map V.int)) → EndsAt parts wires (srcF wires t) k → Q (.ref a) H'
theorem sc_line_at : FnScope ["net", "target", "values", "source"] ["net", "target"] (defScope s_line_at) := ⟨rfl, rfl, rfl, by decide +kernel, rfl, by decide +kernel, by decide +kernel⟩
theorem ok_lineAt {f : Addr} {fd fdW : FuncData} (F : Fun K "line_at" "line_at" s_line_at f fd) (T : Txt K w mg ad) (G_has_word : FnOk P w K mg base CX0 1 ad.f_has_word fdW ["net", "path", "word"] (spHasWord P w K ad.C_Net ad.C_Primitive)) (b_has_word : Binds K fdW ["net", "path", "word"] []) :
    FnOk P w K mg base CX0 2 f fd ["net", "target"] (spLineAt P w K ad.C_Net ad.C_Primitive) := by
  refine F.ok sc_line_at (fun vs H Q E h => ?_) (fun cdv A outer s H vs Q E hr h => ?_)
  · obtain ⟨x, v, ins, outs, parts, wires, n, t, rfl, _⟩ := h
    rfl
  · obtain ⟨x, v, ins, outs, parts, wires, n, t, rfl, N, ok, hring, ht, hv, k⟩ := h
    refine ⟨_, (pss_cons (ps_par (i := 2) (j := 3) (by rfl) sc_line_at.nd rfl rfl (by decide) rfl rfl (pa_cons (pe_lst pa_nil) (pa_cons (pe_dgetN P w K (hu9 hr) (pe_fldK K (pv 0) rfl) (pv 1) (fun _ _ => rfl)) pa_nil)) (by rfl))
    (pss_cons (ps_while PassesOwn.never (pt_val (pe_call G_has_word (hr.mono (by decide)) rfl T.g_has_word T.k_has_word b_has_word .nil pass0 (pa_cons (pv 0) (pa_cons (pe_ix (ix_tupK K) (pv 3) pe_int (fun _ _ => rfl)) (pa_cons pe_str pa_nil)))))
    (pss_cons (ps_expr (pe_bm PySem.F.plainAttrs_list PySem.F.slot_list_append PySem.F.type_list_append mt_append (pv 2) (pa_cons (pe_fldK K (pe_dgetN P w K (hu9 hr) (pe_fldK K (pv 0) rfl) (pe_ix (ix_tupK K) (pv 3) pe_int (fun _ _ => rfl)) (fun _ _ => rfl)) rfl) pa_nil)))
    (pss_one (ps_set (i := 3) sc_line_at.nd rfl (Or.inl rfl) (pe_dgetN P w K (hu9 hr) (pe_fldK K (pv 0) rfl) (pe_tupF (pa_cons (pe_ix (ix_tupK K) (pv 3) pe_int (fun _ _ => rfl)) (pa_cons pe_str pa_nil))) (fun _ _ => rfl))))))
    (pss_one (ps_ret (pe_tupF (pa_cons (pv 3) (pa_cons (pv 2) pa_nil))))))), ?_⟩
    have h16 := ok.p16
    have htw : t ∈ wires.map (·.1) := by rw [ok.wt]; exact ht
    refine ⟨szl (Nat.zero_le _), fun vl hvl => ?_⟩
    have s1 := same_new (o := .lst []) hvl
    have N1 := N.same s1
    obtain ⟨sv, hsv, hst⟩ := src_at N1.sk ok.tn htw
    refine ⟨_, rfl, x, ad.C_Net, n.dx, n.fs, _, rfl, N1.hx, T.cl_Net, T.na_Net_source_of, N1.fg, _, rfl, n.s, n.sk, kPort t, _, rfl, N1.hs.dn, key_port (hv.same s1), hsv, ?_⟩
    refine ⟨_, _, rfl, ?_⟩
    dsimp only
    refine ⟨LineW K H parts wires x v vl (srcF wires t), ⟨_, 0, sv, rfl, rfl, s1, upd_same, hst, fun j hj => absurd hj (Nat.not_lt_zero _)⟩, ?_⟩
    rintro m σ H2 ⟨i, u, rfl, rfl, s2, hl2, hu, hdel⟩
    have hi := line_few hring hdel
    obtain ⟨sa, su, rfl, hsa, hsu⟩ := port_inv hu
    refine ⟨_, rfl, _, rfl, sa, _, _, _, rfl, rfl, hsa, atI_nat (j := 0) rfl, x, su, "delay", ins, outs, parts, wires, n, (sAt wires (srcF wires t) i).1, rfl, N.same s2, ok.pn, hsu, fun H3 s3 => ⟨_, rfl, ?_⟩⟩
    rw [hasW_delay]
    have N3 := N.same (s2.trans s3)
    cases hd : isDel parts (sAt wires (srcF wires t) i).1 with
    | false =>
      refine iteF ⟨_, rfl, _, rfl, szl (show 2 ≤ 100000 by decide), fun c G u4 k4 => ?_⟩
      exact k i c vl (.ref sa) G ((s2.trans s3).trans u4) hvl k4 (hu.same (s3.trans u4)) (u4 _ _ (s3 _ _ hl2)) ⟨hdel, hd⟩
    | true =>
      refine iteT ⟨fun σ' H' => ∃ m', m' < 17 - i ∧ LineW K H parts wires x v vl (srcF wires t) m' σ' H', fun σ' H' h => h, ?_⟩
      obtain ⟨y, hy, ey, hyd⟩ := isDel_iff.mp hd
      have hsu3 := hsu.same s3
      rw [← ey] at hsu3
      obtain ⟨bv, hbv, b, nm, c, rfl, hpt, ez, dx, bi, bo, hbx, _⟩ := blk_at N3.bk ok.pn hy
      have hl3 := s3 _ _ hl2
      refine ⟨_, rfl, .inl ⟨rfl, _, SqL.of hl3⟩, _, rfl, x, ad.C_Net, n.dx, n.fs, _, rfl, N3.hx, T.cl_Net, T.na_Net_blocks, N3.fb, _, rfl, sa, _, _, _, rfl, rfl, same_sqt s3 hsa, atI_nat (j := 0) rfl, n.b, n.bk, kPath y.1, _, rfl, N3.hb.dn, key_path hsu3, hbv, b, ad.C_Primitive, dx, _, _, rfl, hbx, T.cl_Primitive, T.na_Primitive_constant, fsP_const, vl, _, _, rfl, rfl, hl3, szt (by rw [List.length_map, valsTo_len]; omega), ?_⟩
      have x4 : SameX vl H3 (upd H3 vl (.lst ((valsTo parts wires (srcF wires t) i).map V.int ++ [optV c]))) := sx_put (sx_of (Same.refl _))
      have s4 : Same H (upd H3 vl (.lst ((valsTo parts wires (srcF wires t) i).map V.int ++ [optV c]))) := same_mut (s2.trans s3) hvl
      have hl4 : upd H3 vl (.lst ((valsTo parts wires (srcF wires t) i).map V.int ++ [optV c])) vl = some (.lst ((valsTo parts wires (srcF wires t) (i + 1)).map V.int)) := by
        rw [upd_same, valsTo_succ, List.map_append]
        have e1 : isD y = true := hyd
        unfold isD at e1
        have e2 := of_decide_eq_true e1
        rw [blk_word hpt ez] at e2
        rw [blk_delay hpt ez e2, ← ey, constOf_part ok.pn hy]
        rfl
      have hsa4 := sqt_sx' x4 (notT_lst hl3) (same_sqt s3 hsa)
      have hsu4 := (hsu.same s3).sx x4 (notT_lst hl3)
      generalize upd H3 vl (.lst ((valsTo parts wires (srcF wires t) i).map V.int ++ [optV c])) = H4 at x4 s4 hl4 hsa4 hsu4
      have N4 := N.same s4
      obtain ⟨sv, hsv, hst⟩ := src_at N4.sk ok.tn (del_tgt ok hd)
      refine ⟨_, rfl, x, ad.C_Net, n.dx, n.fs, _, rfl, N4.hx, T.cl_Net, T.na_Net_source_of, N4.fg, _, rfl, sa, _, _, _, rfl, rfl, hsa4, atI_nat (j := 0) rfl, szl (show 2 ≤ 100000 by decide), fun c1 G7 u7 k7 => ⟨n.s, n.sk, kPort ((sAt wires (srcF wires t) i).1, "in"), _, rfl, (N4.hs.same u7).dn, key_port (tp_port k7.sqt (hsu4.same u7)), hsv, ?_⟩⟩
      dsimp only [gName]
      refine ⟨17 - (i + 1), by omega, i + 1, sv, rfl, rfl, s4.trans u7, u7 _ _ hl4, hst.same u7, fun j hj => ?_⟩
      rcases Nat.lt_or_ge j i with c | c
      · exact hdel j c
      · obtain rfl : j = i := by omega
        exact hd

end
end K82

set_option maxRecDepth 100000
set_option maxHeartbeats 4000000
namespace Od
open PySem PySem.Spec PyProof.Rows L2 Ly
abbrev SgOk (x : Str) : Prop := x.cps.toList.all (fun c => decide (c < 1114112)) = true
def kvI : List (Key × V) := [(.inr "i", .int 1)]
mutual
inductive Dq (p : Addr → Prop) (H : Hp) : Bool → V → PyData → Prop
  | non (b : Bool) : Dq p H b .non .none
  | bl (b c : Bool) : Dq p H b (.bl c) (.bool c)
  | int (b : Bool) (i : Int) : Dq p H b (.int i) (.int i)
  | str (b : Bool) (x : Str) : SgOk x → Dq p H b (.str x) (.str x)
  | lst {a : Addr} {xs : List V} {ds : List PyData} : H a = some (.lst xs) → ¬ p a → DqAll p H true xs ds → Dq p H true (.ref a) (.list ds)
  | tup {b : Bool} {a : Addr} {xs : List V} {ds : List PyData} : KnT H a xs → DqAll p H b xs ds → Dq p H b (.ref a) (.tuple ds)
  | d0 {a : Addr} : H a = some (.dK []) → Dq p H false (.ref a) (.dict [])
  | d1 {a : Addr} : H a = some (.dK kvI) → Dq p H false (.ref a) (.dict [(.str "i", .int 1)])
inductive DqAll (p : Addr → Prop) (H : Hp) : Bool → List V → List PyData → Prop
  | nil (b : Bool) : DqAll p H b [] []
  | cons {b : Bool} {v : V} {vs : List V} {d : PyData} {ds : List PyData} : Dq p H b v d → DqAll p H b vs ds → DqAll p H b (v :: vs) (d :: ds)
end
theorem knt_sx {p : Addr} {H H' : Hp} {a : Addr} {xs : List V} {bs : List V} (h : KnT H a xs) (s : SameX p H H') (hp : H p = some (.lst bs)) : KnT H' a xs := by
  obtain ⟨ob, h1, h2⟩ := h
  refine ⟨ob, s _ _ (fun e => ?_) h1, h2⟩
  rw [e, hp] at h1
  cases h1
mutual
theorem Dq.sx {S : Addr → Prop} {p : Addr} {H H' : Hp} {bs : List V} (s : SameX p H H') (hp : H p = some (.lst bs)) (hS : S p) : ∀ {b : Bool} {d : PyData} {v : V}, Dq S H b v d → Dq S H' b v d
  | _, _, _, .non b => .non b
  | _, _, _, .bl b c => .bl b c
  | _, _, _, .int b i => .int b i
  | _, _, _, .str b x h => .str b x h
  | _, _, _, .lst h1 n h2 => .lst (s _ _ (fun e => n (by rw [e]; exact hS)) h1) n (DqAll.sx s hp hS h2)
  | _, _, _, .tup h1 h2 => .tup (knt_sx h1 s hp) (DqAll.sx s hp hS h2)
  | _, _, _, .d0 h => .d0 (s _ _ (fun e => by rw [e, hp] at h; cases h) h)
  | _, _, _, .d1 h => .d1 (s _ _ (fun e => by rw [e, hp] at h; cases h) h)
theorem DqAll.sx {S : Addr → Prop} {p : Addr} {H H' : Hp} {bs : List V} (s : SameX p H H') (hp : H p = some (.lst bs)) (hS : S p) : ∀ {b : Bool} {ds : List PyData} {vs : List V}, DqAll S H b vs ds → DqAll S H' b vs ds
  | _, _, _, .nil b => .nil b
  | _, _, _, .cons h1 h2 => .cons (Dq.sx s hp hS h1) (DqAll.sx s hp hS h2)
end
mutual
theorem Dq.weak {S S' : Addr → Prop} {H : Hp} (f : ∀ q, S' q → S q) : ∀ {b : Bool} {d : PyData} {v : V}, Dq S H b v d → Dq S' H b v d
  | _, _, _, .non b => .non b
  | _, _, _, .bl b c => .bl b c
  | _, _, _, .int b i => .int b i
  | _, _, _, .str b x h => .str b x h
  | _, _, _, .lst h1 n h2 => .lst h1 (fun z => n (f _ z)) (DqAll.weak f h2)
  | _, _, _, .tup h1 h2 => .tup h1 (DqAll.weak f h2)
  | _, _, _, .d0 h => .d0 h
  | _, _, _, .d1 h => .d1 h
theorem DqAll.weak {S S' : Addr → Prop} {H : Hp} (f : ∀ q, S' q → S q) : ∀ {b : Bool} {ds : List PyData} {vs : List V}, DqAll S H b vs ds → DqAll S' H b vs ds
  | _, _, _, .nil b => .nil b
  | _, _, _, .cons h1 h2 => .cons (Dq.weak f h1) (DqAll.weak f h2)
end
mutual
theorem Dq.same {p : Addr → Prop} {H H' : Hp} (s : Same H H') : ∀ {b : Bool} {d : PyData} {v : V}, Dq p H b v d → Dq p H' b v d
  | _, _, _, .non b => .non b
  | _, _, _, .bl b c => .bl b c
  | _, _, _, .int b i => .int b i
  | _, _, _, .str b x h => .str b x h
  | _, _, _, .lst h1 n h2 => .lst (s _ _ h1) n (DqAll.same s h2)
  | _, _, _, .tup h1 h2 => .tup (h1.same s) (DqAll.same s h2)
  | _, _, _, .d0 h => .d0 (s _ _ h)
  | _, _, _, .d1 h => .d1 (s _ _ h)
theorem DqAll.same {p : Addr → Prop} {H H' : Hp} (s : Same H H') : ∀ {b : Bool} {ds : List PyData} {vs : List V}, DqAll p H b vs ds → DqAll p H' b vs ds
  | _, _, _, .nil b => .nil b
  | _, _, _, .cons h1 h2 => .cons (Dq.same s h1) (DqAll.same s h2)
end
theorem DqAll.len {p : Addr → Prop} {H : Hp} : ∀ {b : Bool} {vs : List V} {ds : List PyData}, DqAll p H b vs ds → vs.length = ds.length
  | _, _, _, .nil _ => rfl
  | _, _, _, .cons _ h => by rw [List.length_cons, List.length_cons, DqAll.len h]
theorem DqAll.get {p : Addr → Prop} {H : Hp} : ∀ {b : Bool} {vs : List V} {ds : List PyData}, DqAll p H b vs ds → ∀ {i : Nat} {v : V}, vs[i]? = some v → ∃ d, ds[i]? = some d ∧ Dq p H b v d
  | _, _, _, .cons h1 h2, 0, v, e => ⟨_, rfl, by cases e; exact h1⟩
  | _, _, _, .cons h1 h2, i + 1, v, e => DqAll.get h2 e
theorem DqAll.mem {p : Addr → Prop} {H : Hp} {b : Bool} {vs : List V} {ds : List PyData} (h : DqAll p H b vs ds) {v : V} (hv : v ∈ vs) : ∃ d, d ∈ ds ∧ Dq p H b v d := by
  obtain ⟨i, e⟩ := List.mem_iff_getElem?.mp hv
  obtain ⟨d, h1, h2⟩ := h.get e
  exact ⟨d, List.mem_of_getElem? h1, h2⟩
theorem DqAll.app {p : Addr → Prop} {H : Hp} : ∀ {b : Bool} {vs ws : List V} {ds es : List PyData}, DqAll p H b vs ds → DqAll p H b ws es → DqAll p H b (vs ++ ws) (ds ++ es)
  | _, _, _, _, _, .nil _, h => h
  | _, _, _, _, _, .cons h1 h2, h => .cons h1 (DqAll.app h2 h)
theorem DqAll.take {p : Addr → Prop} {H : Hp} : ∀ (n : Nat) {b : Bool} {vs : List V} {ds : List PyData}, DqAll p H b vs ds → DqAll p H b (vs.take n) (ds.take n)
  | 0, _, _, _, _ => .nil _
  | _ + 1, _, _, _, .nil _ => .nil _
  | n + 1, _, _, _, .cons h1 h2 => .cons h1 (DqAll.take n h2)
theorem DqAll.drop {p : Addr → Prop} {H : Hp} : ∀ (n : Nat) {b : Bool} {vs : List V} {ds : List PyData}, DqAll p H b vs ds → DqAll p H b (vs.drop n) (ds.drop n)
  | 0, _, _, _, h => h
  | _ + 1, _, _, _, .nil _ => .nil _
  | n + 1, _, _, _, .cons _ h2 => DqAll.drop n h2
theorem DqAll.rev {p : Addr → Prop} {H : Hp} : ∀ {b : Bool} {vs : List V} {ds : List PyData}, DqAll p H b vs ds → DqAll p H b vs.reverse ds.reverse
  | _, _, _, .nil _ => .nil _
  | _, _, _, .cons h1 h2 => by
    rw [List.reverse_cons, List.reverse_cons]
    exact (DqAll.rev h2).app (.cons h1 (.nil _))
theorem DqAll.set {p : Addr → Prop} {H : Hp} : ∀ (i : Nat) {b : Bool} {vs : List V} {ds : List PyData} {v : V} {d : PyData}, DqAll p H b vs ds → Dq p H b v d → DqAll p H b (vs.set i v) (ds.set i d)
  | _, _, _, _, _, _, .nil _, _ => .nil _
  | 0, _, _, _, _, _, .cons _ h2, h => .cons h h2
  | i + 1, _, _, _, _, _, .cons h1 h2, h => .cons h1 (DqAll.set i h2 h)
theorem DqAll.names {p : Addr → Prop} {H : Hp} : ∀ {b : Bool} {vs : List V} {ns : List Str}, DqAll p H b vs (ns.map .str) → vs = ns.map V.str
  | _, [], [], _ => rfl
  | _, v :: vs, n :: ns, .cons h1 h2 => by
    cases h1
    rw [DqAll.names h2]
    rfl
def tyD : PyData → Value
  | .none => .type "NoneType"
  | .bool _ => .type "bool"
  | .int _ => .type "int"
  | .str _ => .type "str"
  | .list _ => .type "list"
  | .tuple _ => .type "tuple"
  | .dict _ => .type "dict"
theorem _root_.Ly.KnT.ty {K : PySem.W.Frag} {H : Hp} {a : Addr} {xs : List V} (h : KnT H a xs) : TyX K H (.ref a) (.type "tuple") := let ⟨_, h1, _⟩ := h; .fTuple h1
theorem Dq.ty {K : PySem.W.Frag} {p : Addr → Prop} {H : Hp} {b : Bool} {v : V} {d : PyData} (h : Dq p H b v d) : TyX K H v (tyD d) := by
  cases h with
  | non => exact .base .non
  | bl _ c => exact .base (.bl c)
  | int _ i => exact .base (.int i)
  | str _ x _ => exact .base (.str x)
  | lst h1 _ _ => exact .base (.lst h1)
  | tup h1 _ => exact h1.ty
  | d0 h => exact .base (.dK h)
  | d1 h => exact .base (.dK h)
section
variable {X : Cx} {pins : List (Addr × Obj)} {σ : L2.St} {H : Hp} {s : Shared} {p : Addr → Prop}
theorem dk_reads {a : Addr} {kvs : List (Key × V)} (I : Inv X pins σ H s) (h : H a = some (.dK kvs)) : (a == sysModules) = false ∧ ∃ (vs : List (Key × Value)) (o : Obj) (es : Array DictEntry) (ep : Nat), KV kvs vs ∧ s.heap.get? a = some o ∧ o.cls = .type "dict" ∧ o.data = .dict es ep ∧ Pairs (mixKind X.prog X.w) es.toList vs := by
  obtain ⟨_, hm, vs, r, o, es, ep, h1, h2, h3, _, h5, _⟩ := dk_of I.hok h
  exact ⟨hm, vs, o, es, ep, r, h1, h2.1, h3, h5⟩
mutual
theorem Dq.reads (I : Inv X pins σ H s) : ∀ (b : Bool) (d : PyData) (v : V) (u : Value), Dq p H b v d → RelV v u → ∃ as, Reads s.heap u d as ∧ (b = false → sysModules ∉ as) ∧ (b = true → d.hasDict = false)
  | _, .none, _, _, h, r => by
    cases h
    cases r
    exact ⟨_, Reads.none, fun _ h => (by cases h), fun _ => rfl⟩
  | _, .bool c, _, _, h, r => by
    cases h
    cases r
    exact ⟨_, Reads.bool c, fun _ h => (by cases h), fun _ => rfl⟩
  | _, .int i, _, _, h, r => by
    cases h
    obtain ⟨t, rfl⟩ := r
    exact ⟨_, Reads.int i t, fun _ h => (by cases h), fun _ => rfl⟩
  | _, .str x, _, _, h, r => by
    cases h
    obtain ⟨t, rfl⟩ := r
    exact ⟨_, Reads.str x t, fun _ h => (by cases h), fun _ => rfl⟩
  | _, .list ds, _, _, h, r => by
    cases h with
    | lst hs hn ha =>
      cases r
      obtain ⟨its, rv, ⟨o, n, ho, hc, _, hd⟩, _⟩ := I.list (SqL.of hs)
      obtain ⟨as, hr, h1, h2⟩ := Dq.readsAll I _ ds _ its ha rv
      exact ⟨_, Reads.list ho hc hd hr, fun z => (by cases z), fun _ => h2 rfl⟩
  | b, .tuple ds, _, _, h, r => by
    cases h with
    | tup hs ha =>
      cases r
      obtain ⟨its, rv, ⟨o, ho, hc, n, hd⟩, _⟩ := I.tuple hs.sqt
      obtain ⟨as, hr, h1, h2⟩ := Dq.readsAll I b ds _ its ha rv
      exact ⟨_, Reads.tuple ho hc hd hr, h1, h2⟩
  | _, .dict kvs, _, _, h, r => by
    cases h with
    | d0 h =>
      cases r
      obtain ⟨hm, vs, o, es, ep, rk, h1, h2, h3, h4⟩ := dk_reads I h
      cases rk
      have e : es.toList = [] := by
        generalize es.toList = l at h4
        cases h4
        rfl
      refine ⟨_, Reads.dict (kvs := []) (as := []) (bs := []) h1 h2 h3 (by rw [e]; exact .nil) (by rw [e]; exact .nil), fun _ hz => ?_, fun z => (by cases z)⟩
      simp at hz
      rw [hz] at hm
      exact absurd hm (by simp)
    | d1 h =>
      cases r
      obtain ⟨hm, vs, o, es, ep, rk, h1, h2, h3, h4⟩ := dk_reads I h
      cases rk with
      | @cons q1 q2 _ _ rq rt =>
      cases rt
      obtain ⟨rq1, rq2⟩ := rq
      obtain ⟨k, e1, e2, e3⟩ : ∃ k : DictEntry, es.toList = [k] ∧ keyIs q2.1 k.key = true ∧ k.val = q2.2 := by
        generalize es.toList = l at h4
        cases h4 with
        | cons z1 z2 z3 =>
          cases z3
          exact ⟨_, rfl, z1, z2⟩
      rw [← rq1] at e2
      rcases keyIs_shape e2 with ⟨i, t, z, _⟩ | ⟨x, t, z, hk⟩
      · cases z
      cases z
      obtain ⟨u, hu⟩ := rq2
      rw [hu] at e3
      refine ⟨_, Reads.dict (kvs := [(.str "i", .int 1)]) (as := []) (bs := []) h1 h2 h3 (by rw [e1]; show ReadsAll _ [k.key] _ _; rw [hk]; exact .cons (as := []) (bs := []) (.str _ _) .nil) (by rw [e1]; show ReadsAll _ [k.val] _ _; rw [e3]; exact .cons (as := []) (bs := []) (.int _ _) .nil), fun _ hz => ?_, fun z => (by cases z)⟩
      simp at hz
      rw [hz] at hm
      exact absurd hm (by simp)
theorem Dq.readsAll (I : Inv X pins σ H s) : ∀ (b : Bool) (ds : List PyData) (vs : List V) (us : List Value), DqAll p H b vs ds → Vals vs us → ∃ as, ReadsAll s.heap us ds as ∧ (b = false → sysModules ∉ as) ∧ (b = true → PyData.hasDictAll ds = false)
  | _, [], _, _, h, r => by
    cases h
    cases r
    exact ⟨_, ReadsAll.nil, fun _ h => (by cases h), fun _ => rfl⟩
  | b, d :: ds, _, _, h, r => by
    cases h with
    | cons h1 h2 =>
      cases r with
      | cons r1 r2 =>
        obtain ⟨as, q1, n1, k1⟩ := Dq.reads I b d _ _ h1 r1
        obtain ⟨bs, q2, n2, k2⟩ := Dq.readsAll I b ds _ _ h2 r2
        refine ⟨_, ReadsAll.cons q1 q2, fun z hm => (List.mem_append.mp hm).elim (n1 z) (n2 z), fun z => ?_⟩
        simp only [PyData.hasDictAll, k1 z, k2 z, Bool.or_self]
end
end
/-- showable, of depth n and weight w at most -/
structure Rq (n w : Nat) (d : PyData) : Prop where
  sh : d.showable = true
  dp : d.depth ≤ n
  lv : d.leavesShort 13 = true
  wt : d.weight ≤ w
end Od

set_option maxRecDepth 100000
set_option maxHeartbeats 4000000
namespace Oz
open PySem PySem.SeqAt PySem.MeetsSeq PySem.AutoSeq1
theorem tup_no_dict (l b : Addr) (items : Array Value) (es : Array DictEntry) (n n2 : Nat) (dd dd2 : Option Addr) (sl sl2 : Array (Option Value)) :
    Meets (Builtin.«tuple.__eq__» ⟨[.ref l, .ref b], []⟩) (fun _ R s => s.heap.get? l = some { cls := .type "tuple", dict := dd, data := .seq items n, slots := sl } ∧ s.heap.get? b = some { cls := .type "dict", dict := dd2, data := .dict es n2, slots := sl2 } ∧ R (.ok (.ret .notImplemented)) s) :=
  .of_wp fun prog w A R s h => by obtain ⟨hp, g, d, tk, os⟩ := s; obtain ⟨hl, hb, h⟩ := h; have f1 := F.sub_dict_tuple; wp_walk using wpAny_loadPart' hl, wpAny_loadPart' hb; exact ⟨_, rfl, h⟩
theorem dict_no_tup (l b : Addr) (items : Array Value) (es : Array DictEntry) (n n2 : Nat) (dd dd2 : Option Addr) (sl sl2 : Array (Option Value)) :
    Meets (Builtin.«dict.__eq__» ⟨[.ref b, .ref l], []⟩) (fun _ R s => s.heap.get? l = some { cls := .type "tuple", dict := dd, data := .seq items n, slots := sl } ∧ s.heap.get? b = some { cls := .type "dict", dict := dd2, data := .dict es n2, slots := sl2 } ∧ R (.ok (.ret .notImplemented)) s) :=
  .of_wp fun prog w A R s h => by obtain ⟨hp, g, d, tk, os⟩ := s; obtain ⟨hl, hb, h⟩ := h; have f1 := F.sub_tuple_dict; wp_walk using wpAny_loadPart' hl, wpAny_loadPart' hb; exact ⟨_, rfl, h⟩
theorem str_no_dict (x : Str) (u : Tok) (b : Addr) (es : Array DictEntry) (n2 : Nat) (dd2 : Option Addr) (sl2 : Array (Option Value)) :
    Meets (Builtin.«str.__eq__» ⟨[.str x u, .ref b], []⟩) (fun _ R s => s.heap.get? b = some { cls := .type "dict", dict := dd2, data := .dict es n2, slots := sl2 } ∧ R (.ok (.ret .notImplemented)) s) :=
  .of_wp fun prog w A R s h => by obtain ⟨hp, g, d, tk, os⟩ := s; obtain ⟨hb, h⟩ := h; wp_walk using wpAny_loadPart' hb, wpAny_load hb; exact ⟨_, rfl, h⟩
theorem dict_no_str (x : Str) (u : Tok) (b : Addr) (es : Array DictEntry) (n2 : Nat) (dd2 : Option Addr) (sl2 : Array (Option Value)) :
    Meets (Builtin.«dict.__eq__» ⟨[.ref b, .str x u], []⟩) (fun _ R s => s.heap.get? b = some { cls := .type "dict", dict := dd2, data := .dict es n2, slots := sl2 } ∧ R (.ok (.ret .notImplemented)) s) :=
  .of_wp fun prog w A R s h => by obtain ⟨hp, g, d, tk, os⟩ := s; obtain ⟨hb, h⟩ := h; have f1 := F.sub_str_dict; wp_walk using wpAny_loadPart' hb; exact ⟨_, rfl, h⟩
/-- at l stands a dict -/
def DictAt (h : Heap) (b : Addr) : Prop := ∃ o es n, h.get? b = some o ∧ o.cls = .type "dict" ∧ o.data = .dict es n
section
variable {A : Around} {s : Shared}
theorem tup_ne_dict {l b : Addr} {items : Array Value} (hl : s.heap.IsTuple l items) (hb : DictAt s.heap b) : l ≠ b := fun e => by
  subst e
  obtain ⟨o, ho, hc, _⟩ := hl
  obtain ⟨o2, _, _, ho2, hc2, _⟩ := hb
  rw [ho] at ho2
  cases ho2
  rw [hc] at hc2
  exact absurd hc2 (by simp)
theorem rc_tup_dict {l b : Addr} {items : Array Value} (hl : s.heap.IsTuple l items) (hb : DictAt s.heap b) (hu : A.units < cLine) : RcAt A s (.ref l) (.ref b) false := fun prog w E Q h => by
  have hne := tup_ne_dict hl hb
  obtain ⟨⟨cls, dd, data, sl⟩, ho, hc, n, hd⟩ := id hl
  obtain ⟨⟨cls2, dd2, data2, sl2⟩, es, n2, ho2, hc2, hd2⟩ := id hb
  simp only at hc hd hc2 hd2
  subst hc hd hc2 hd2
  exact (rc_eq_decline_or (k := false) ⟨_, ho, rfl⟩ ⟨_, ho2, rfl⟩ (by decide) F.sub_dict_tuple F.slot_tuple_eq F.slot_dict_eq_refl
    (fun _ hq => call_meets F.slot_tuple_eq ⟨_, ho, rfl⟩ F.entry_tuple_eq (F.args_tuple_eq_2 _ _) (tup_no_dict l b items es n n2 dd dd2 sl sl2) ⟨ho, ho2, hq⟩)
    (fun _ hq => call_meets F.slot_dict_eq_refl ⟨_, ho2, rfl⟩ F.entry_dict_eq (F.args_dict_eq_2 _ _) (dict_no_tup l b items es n n2 dd dd2 sl sl2) ⟨ho, ho2, hq⟩)
    (fun _ hq => wpAny_isSame_ref_other' hne ho ho2 (by simp) hq) (.inr hu) h)
theorem eq_tup_dict {l b : Addr} {items : Array Value} (hl : s.heap.IsTuple l items) (hb : DictAt s.heap b) (hu : A.units < cLine) : EqAt A s (.ref l) (.ref b) false := .of_refs (tup_ne_dict hl hb) (rc_tup_dict hl hb hu)
theorem rc_str_dict {b : Addr} (x : Str) (u : Tok) (hb : DictAt s.heap b) (hu : A.units < cLine) : RcAt A s (.str x u) (.ref b) false := fun prog w E Q h => by
  obtain ⟨⟨cls2, dd2, data2, sl2⟩, es, n2, ho2, hc2, hd2⟩ := id hb
  simp only at hc2 hd2
  subst hc2 hd2
  exact rc_eq_decline_or (k := false) (typeIs_str s x u) ⟨_, ho2, rfl⟩ (by decide) F.sub_dict_str F.slot_str_eq F.slot_dict_eq_refl
    (fun _ hq => call_meets F.slot_str_eq (typeIs_str s x u) F.entry_str_eq (F.args_str_eq_2 _ _) (str_no_dict x u b es n2 dd2 sl2) ⟨ho2, hq⟩)
    (fun _ hq => call_meets F.slot_dict_eq_refl ⟨_, ho2, rfl⟩ F.entry_dict_eq (F.args_dict_eq_2 _ _) (dict_no_str x u b es n2 dd2 sl2) ⟨ho2, hq⟩)
    (fun _ hq => wpAny_of_eq (rfl : isSame (.str x u) (.ref b) = pure false) hq) (.inr hu) h
theorem eq_str_dict {b : Addr} (x : Str) (u : Tok) (hb : DictAt s.heap b) (hu : A.units < cLine) : EqAt A s (.str x u) (.ref b) false := fun prog w E Q h => by
  unfold eqBool
  refine wpAny_holding ?_
  refine wpAny_ite_split (fun hab => absurd (eq_of_beq hab) nofun) (fun _ => ?_)
  exact wpAny_bind (rc_str_dict x u hb hu prog w E _ (wpAny_truthy_bool h))
end
mutual
/-- texts and tuples alone -/
def tt : PyData → Bool
  | .str _ => true
  | .tuple xs => ttAll xs
  | _ => false
def ttAll : List PyData → Bool
  | [] => true
  | x :: xs => tt x && ttAll xs
end
mutual
theorem eq_odd : ∀ (da db : PyData) (A : Around) (s : Shared) (a b : Value) (as bs : List Addr), Reads s.heap a da as → Reads s.heap b db bs → tt da = true → da.canLay0 = true → A.units + da.depth < cLine → EqAt A s a b (PyData.eqv da db)
  | .str x, _, A, s, _, _, _, _, ra, rb, _, _, hu => by
    have hu' : A.units < cLine := Nat.lt_of_le_of_lt (Nat.le_add_right _ _) hu
    cases ra with
    | str _ t =>
      cases rb with
      | none => exact EqAt.str_none x t
      | bool y => exact EqAt.str_bool x t y
      | int y u => exact EqAt.str_int x t y u
      | str y u => exact EqAt.str_str x t y u
      | list k1 k2 k3 k4 => exact EqAt.str_list x t ⟨_, k1, k2, _, k3⟩ hu'
      | tuple k1 k2 k3 k4 => exact EqAt.str_tuple x t ⟨_, k1, k2, _, k3⟩ hu'
      | dict k1 k2 k3 k4 k5 => exact eq_str_dict x t ⟨_, _, _, k1, k2, k3⟩ hu'
  | .tuple xs, db, A, s, _, _, _, _, ra, rb, ha, hc, hu => by
    have hu' : A.units < cLine := Nat.lt_of_le_of_lt (Nat.le_add_right _ _) hu
    cases ra with
    | @tuple l o vs n _ as₁ h1 h2 h3 h4 =>
      have hl : s.heap.IsTuple l vs := ⟨_, h1, h2, _, h3⟩
      cases rb with
      | none => exact EqAt.tuple_none hl hu'
      | bool y => exact EqAt.tuple_bool y hl hu'
      | int y u => exact EqAt.tuple_int y u hl hu'
      | str y u => exact EqAt.tuple_str y u hl hu'
      | list k1 k2 k3 k4 => exact EqAt.tuple_list hl ⟨_, k1, k2, _, k3⟩ hu'
      | dict k1 k2 k3 k4 k5 => exact eq_tup_dict hl ⟨_, _, _, k1, k2, k3⟩ hu'
      | @tuple l' o' vs' n' ys bs₁ k1 k2 k3 k4 =>
        have hl' : s.heap.IsTuple l' vs' := ⟨_, k1, k2, _, k3⟩
        have n1 : vs.size = xs.length := by simpa using ReadsAll.length _ _ _ h4
        have n2 : vs'.size = ys.length := by simpa using ReadsAll.length _ _ _ k4
        show EqAt A s (.ref l) (.ref l') (PyData.eqvAll xs ys)
        by_cases hll : l = l'
        · subst hll
          have e : PyData.tuple xs = PyData.tuple ys := Reads.unique (.tuple xs) (.tuple ys) _ _ _ hc (.tuple h1 h2 h3 h4) (.tuple k1 k2 k3 k4)
          injection e with e
          subst e
          rw [eqvAll_refl xs hc]
          exact EqAt.same _
        · rw [← eqvAll_eq xs ys, ← n1, ← n2]
          refine EqAt.of_refs hll (RcAt.tuples hl hl' hu' fun j j1 j2 => ?_)
          have hu2 : A.in1.units + PyData.depthAll xs < cLine := by
            have e : (PyData.tuple xs).depth = PyData.depthAll xs + 1 := by simp [PyData.depth]
            rw [e] at hu
            rw [Around.in1_units]
            omega
          have := eq_oddAll xs ys A.in1 s vs.toList vs'.toList _ _ h4 k4 ha hc hu2 j (by simpa using j1) (by simpa using j2)
          simpa using this
  | .none, _, _, _, _, _, _, _, _, _, ha, _, _ => nomatch ha
  | .bool _, _, _, _, _, _, _, _, _, _, ha, _, _ => nomatch ha
  | .int _, _, _, _, _, _, _, _, _, _, ha, _, _ => nomatch ha
  | .list _, _, _, _, _, _, _, _, _, _, ha, _, _ => nomatch ha
  | .dict _, _, _, _, _, _, _, _, _, _, ha, _, _ => nomatch ha
theorem eq_oddAll : ∀ (xs ys : List PyData) (A : Around) (s : Shared) (vs ws : List Value) (as bs : List Addr), ReadsAll s.heap vs xs as → ReadsAll s.heap ws ys bs → ttAll xs = true → PyData.canLayAll0 xs = true →
    A.units + PyData.depthAll xs < cLine → ∀ j (h1 : j < vs.length) (h2 : j < ws.length), EqAt A s vs[j] ws[j] (pairEq xs ys j)
  | [], _, _, _, _, _, _, _, ra, _, _, _, _, j, h1, _ => by cases ra; exact absurd h1 (Nat.not_lt_zero _)
  | _ :: _, [], _, _, _, _, _, _, _, rb, _, _, _, j, _, h2 => by cases rb; exact absurd h2 (Nat.not_lt_zero _)
  | x :: xs, y :: ys, A, s, _, _, _, _, ra, rb, ha, hc, hu, j, h1, h2 => by
    have ha' : tt x = true ∧ ttAll xs = true := by simpa [ttAll] using ha
    have hc' : x.canLay0 = true ∧ PyData.canLayAll0 xs = true := by simpa [PyData.canLayAll0] using hc
    have hd : A.units + max x.depth (PyData.depthAll xs) < cLine := by simpa [PyData.depthAll] using hu
    cases ra with
    | cons r rs =>
      cases rb with
      | cons r' rs' =>
        cases j with
        | zero => exact eq_odd x y A s _ _ _ _ r r' ha'.1 hc'.1 (Nat.lt_of_le_of_lt (Nat.add_le_add_left (Nat.le_max_left _ _) _) hd)
        | succ j => exact eq_oddAll xs ys A s _ _ _ _ rs rs' ha'.2 hc'.2 (Nat.lt_of_le_of_lt (Nat.add_le_add_left (Nat.le_max_right _ _) _) hd) j (Nat.lt_of_succ_lt_succ h1) (Nat.lt_of_succ_lt_succ h2)
end
open PyProof.Rows L2 Ly Nd Nt
theorem tt_strs : ∀ l : List Str, ttAll (l.map .str) = true
  | [] => rfl
  | x :: l => by
    show (tt (.str x) && ttAll (l.map .str)) = true
    rw [tt_strs l]
    rfl
theorem tt_port (q : Nt.Prt) : tt (dPort q) = true := by
  show (ttAll (q.1.map .str) && (true && true)) = true
  rw [tt_strs]
  rfl
abbrev SgOk (x : Str) : Prop := x.cps.toList.all (fun c => decide (c < 1114112)) = true
mutual
inductive Dz (K : PySem.W.Frag) (p : Addr → Prop) (H : Hp) : V → PyData → Prop
  | non : Dz K p H .non .none
  | int (i : Int) : Dz K p H (.int i) (.int i)
  | str (x : Str) : Dz K p H (.str x) (.str x)
  | lst {a : Addr} {xs : List V} {ds : List PyData} : H a = some (.lst xs) → ¬ p a → a ≠ sysModules → DzAll K p H xs ds → Dz K p H (.ref a) (.list ds)
  | tup {a : Addr} {xs : List V} {ds : List PyData} : SqT K H a xs → DzAll K p H xs ds → Dz K p H (.ref a) (.tuple ds)
  | d0 {a : Addr} : H a = some (.dK []) → Dz K p H (.ref a) (.dict [])
inductive DzAll (K : PySem.W.Frag) (p : Addr → Prop) (H : Hp) : List V → List PyData → Prop
  | nil : DzAll K p H [] []
  | cons {v : V} {vs : List V} {d : PyData} {ds : List PyData} : Dz K p H v d → DzAll K p H vs ds → DzAll K p H (v :: vs) (d :: ds)
end
section
variable {K : PySem.W.Frag} {p : Addr → Prop} {H H' : Hp}
mutual
theorem Dz.sx {q : Addr} {bs : List V} (s : SameX q H H') (hq : H q = some (.lst bs)) (hp : p q) : ∀ {d : PyData} {v : V}, Dz K p H v d → Dz K p H' v d
  | _, _, .non => .non
  | _, _, .int i => .int i
  | _, _, .str x => .str x
  | _, _, .lst h1 n m h2 => .lst (s _ _ (fun e => n (by rw [e]; exact hp)) h1) n m (DzAll.sx s hq hp h2)
  | _, _, .tup h1 h2 => .tup (sqt_sx' s (notT_lst hq) h1) (DzAll.sx s hq hp h2)
  | _, _, .d0 h => .d0 (s _ _ (fun e => by rw [e, hq] at h; cases h) h)
theorem DzAll.sx {q : Addr} {bs : List V} (s : SameX q H H') (hq : H q = some (.lst bs)) (hp : p q) : ∀ {ds : List PyData} {vs : List V}, DzAll K p H vs ds → DzAll K p H' vs ds
  | _, _, .nil => .nil
  | _, _, .cons h1 h2 => .cons (Dz.sx s hq hp h1) (DzAll.sx s hq hp h2)
end
mutual
theorem Dz.same (s : Same H H') : ∀ {d : PyData} {v : V}, Dz K p H v d → Dz K p H' v d
  | _, _, .non => .non
  | _, _, .int i => .int i
  | _, _, .str x => .str x
  | _, _, .lst h1 n m h2 => .lst (s _ _ h1) n m (DzAll.same s h2)
  | _, _, .tup h1 h2 => .tup (same_sqt s h1) (DzAll.same s h2)
  | _, _, .d0 h => .d0 (s _ _ h)
theorem DzAll.same (s : Same H H') : ∀ {ds : List PyData} {vs : List V}, DzAll K p H vs ds → DzAll K p H' vs ds
  | _, _, .nil => .nil
  | _, _, .cons h1 h2 => .cons (Dz.same s h1) (DzAll.same s h2)
end
mutual
theorem Tp.dz : ∀ {d : PyData} {v : V}, Tp K H v d → Dz K p H v d
  | _, _, .non => .non
  | _, _, .int i => .int i
  | _, _, .str x => .str x
  | _, _, .tup h hs => .tup h (TpAll.dz hs)
theorem TpAll.dz : ∀ {ds : List PyData} {vs : List V}, TpAll K H vs ds → DzAll K p H vs ds
  | _, _, .nil => .nil
  | _, _, .cons h t => .cons (Tp.dz h) (TpAll.dz t)
end
theorem DzAll.app : ∀ {vs ws : List V} {ds es : List PyData}, DzAll K p H vs ds → DzAll K p H ws es → DzAll K p H (vs ++ ws) (ds ++ es)
  | _, _, _, _, .nil, h => h
  | _, _, _, _, .cons h1 h2, h => .cons h1 (DzAll.app h2 h)
theorem DzAll.len : ∀ {vs : List V} {ds : List PyData}, DzAll K p H vs ds → vs.length = ds.length
  | _, _, .nil => rfl
  | _, _, .cons _ h => by rw [List.length_cons, List.length_cons, DzAll.len h]
theorem DzAll.get : ∀ {vs : List V} {ds : List PyData}, DzAll K p H vs ds → ∀ {i : Nat} {v : V}, vs[i]? = some v → ∃ d, ds[i]? = some d ∧ Dz K p H v d
  | _, _, .cons h1 h2, 0, v, e => ⟨_, rfl, by cases e; exact h1⟩
  | _, _, .cons h1 h2, i + 1, v, e => DzAll.get h2 e
end
section
variable {X : Cx} {pins : List (Addr × Obj)} {σ : L2.St} {H : Hp} {s : Shared} {p : Addr → Prop}
mutual
theorem Dz.reads (I : Inv X pins σ H s) : ∀ (d : PyData) (v : V) (u : Value), Dz X.K p H v d → RelV v u → ∃ as, Reads s.heap u d as ∧ sysModules ∉ as
  | .none, _, _, h, r => by
    cases h
    cases r
    exact ⟨_, Reads.none, fun h => (by cases h)⟩
  | .bool c, _, _, h, r => by cases h
  | .int i, _, _, h, r => by
    cases h
    obtain ⟨t, rfl⟩ := r
    exact ⟨_, Reads.int i t, fun h => (by cases h)⟩
  | .str x, _, _, h, r => by
    cases h
    obtain ⟨t, rfl⟩ := r
    exact ⟨_, Reads.str x t, fun h => (by cases h)⟩
  | .list ds, _, _, h, r => by
    cases h with
    | lst hs hn hm ha =>
      cases r
      obtain ⟨its, rv, ⟨o, n, ho, hc, _, hd⟩, _⟩ := I.list (SqL.of hs)
      obtain ⟨as, hr, h1⟩ := Dz.readsAll I ds _ its ha rv
      refine ⟨_, Reads.list ho hc hd hr, fun hz => ?_⟩
      rcases List.mem_cons.mp hz with e | hz
      · exact hm e.symm
      · exact h1 hz
  | .tuple ds, _, _, h, r => by
    cases h with
    | tup hs ha =>
      cases r
      obtain ⟨its, rv, ⟨o, ho, hc, n, hd⟩, _⟩ := I.tuple hs
      obtain ⟨as, hr, h1⟩ := Dz.readsAll I ds _ its ha rv
      exact ⟨_, Reads.tuple ho hc hd hr, h1⟩
  | .dict kvs, _, _, h, r => by
    cases h with
    | d0 h =>
      cases r
      obtain ⟨hm, vs, o, es, ep, rk, h1, h2, h3, h4⟩ := Od.dk_reads I h
      cases rk
      have e : es.toList = [] := by
        generalize es.toList = l at h4
        cases h4
        rfl
      refine ⟨_, Reads.dict (kvs := []) (as := []) (bs := []) h1 h2 h3 (by rw [e]; exact .nil) (by rw [e]; exact .nil), fun hz => ?_⟩
      simp at hz
      rw [hz] at hm
      exact absurd hm (by simp)
theorem Dz.readsAll (I : Inv X pins σ H s) : ∀ (ds : List PyData) (vs : List V) (us : List Value), DzAll X.K p H vs ds → Vals vs us → ∃ as, ReadsAll s.heap us ds as ∧ sysModules ∉ as
  | [], _, _, h, r => by
    cases h
    cases r
    exact ⟨_, ReadsAll.nil, fun h => (by cases h)⟩
  | d :: ds, _, _, h, r => by
    cases h with
    | cons h1 h2 =>
      cases r with
      | cons r1 r2 =>
        obtain ⟨as, q1, n1⟩ := Dz.reads I d _ _ h1 r1
        obtain ⟨bs, q2, n2⟩ := Dz.readsAll I ds _ _ h2 r2
        exact ⟨_, ReadsAll.cons q1 q2, fun hm => (List.mem_append.mp hm).elim n1 n2⟩
end
end
def rReprZ (K : PySem.W.Frag) : List V → Hp → VK → Prop := fun xs H Q => ∃ p v d, xs = [v] ∧ Dz K p H v d ∧ Od.Rq 60 (2 ^ 20) d ∧ Q (.str d.shown) H
theorem call_reprZ {X : Cx} (K : PySem.W.Frag) (hg : Idle X.A) (hu : X.A.units + 64 < cLine) (hK : X.K = K := by rfl) : CallR X (.builtin "repr") (rReprZ K) := by
  subst hK
  intro pins s σ H xs us Q I r h
  obtain ⟨p, v, d, rfl, hd, ⟨hs, hdp, hl, hw⟩, q⟩ := h
  have hz : d.shown.length ≤ sizeLine := PyData.shown_fits (B := 13) (by decide) (by decide) hl hw
  obtain ⟨u, rfl, ru⟩ := vals1 r
  obtain ⟨as, rd, h1⟩ := Dz.reads I d v u hd ru
  have fin : ∀ a, u = .ref a → wpAny (model X.prog X.w) X.A (call (.builtin "repr") [u]) (EP X pins σ Q) X.xe s := by
    rintro a rfl
    refine PySem.repr_of_reads' rd hs (fun _ => h1) hg (by omega) (fun _ _ e => e) (fun h' u tk hk => ?_) hz
    exact ⟨.str d.shown, H, I.kept (t' := tk) hk, ⟨_, rfl⟩, q⟩
  cases hd with
  | non =>
    cases ru
    exact PySem.P.repr_of_none ⟨.str "None", H, I.tok _, ⟨_, rfl⟩, q⟩
  | int i =>
    obtain ⟨t, rfl⟩ := ru
    exact PySem.P.repr_of_int (of_decide_eq_true hs) ⟨.str (toString i), H, I.tok _, ⟨_, rfl⟩, q⟩
  | str x =>
    obtain ⟨t, rfl⟩ := ru
    exact PySem.P.repr_of_str ⟨.str (reprText x), H, I.tok _, ⟨_, rfl⟩, q⟩ hz
  | lst hq _ _ ha => exact fin _ ru
  | tup hq ha => exact fin _ ru
  | d0 _ => exact fin _ ru
theorem reads_port {h : Heap} : ∀ (ps : List Nt.Prt) (l : List Value) (as : List Addr), ReadsAll h l (ps.map dPort) as → ∀ y ∈ l, ∃ q ∈ ps, ∃ cs, Reads h y (dPort q) cs
  | [], _, _, r, y, hy => by cases r; cases hy
  | q :: ps, _, _, r, y, hy => by
    cases r with
    | cons r1 r2 =>
      rcases List.mem_cons.mp hy with rfl | hy
      · exact ⟨q, List.mem_cons_self, _, r1⟩
      · obtain ⟨q', hq, cs, ry⟩ := reads_port ps _ _ r2 y hy
        exact ⟨q', List.mem_cons_of_mem _ hq, cs, ry⟩
/-- one not in ports -/
def rNotInZ (K : PySem.W.Frag) : R2 := fun x y H Q => ∃ p d a ws, ∃ ps : List Nt.Prt, Dz K p H x d ∧ y = .ref a ∧ SqL K H a ws ∧ TpAll K H ws (ps.map dPort) ∧ (∀ q ∈ ps, OkP q) ∧ Q (.bl (!ps.any fun q => PyData.eqv (dPort q) d)) H
/-- what a list of odd data and ports answers -/
abbrev inP (ps : List Nt.Prt) (d : PyData) : Bool := ps.any fun q => PyData.eqv (dPort q) d
theorem op_notInZ {X : Cx} (K : PySem.W.Frag) (hu : X.A.units + 65 < cLine) (hK : X.K = K := by rfl) : OpR X (compareOp .NotIn) (rNotInZ K) := by
  subst hK
  intro pins s σ H x y v u Q I rx ry h
  obtain ⟨p, d, a, ws, ps, hd, rfl, hl, ht, hp, q⟩ := h
  obtain ⟨as, r1, _⟩ := Dz.reads I d x v hd rx
  obtain ⟨bs, r2⟩ := Dp.reads I (.list (ps.map dPort)) (.ref a) u (.lst hl ht.dp) ry
  obtain rfl : u = Value.ref a := ry
  cases r2 with
  | list h1 h2 h3 h4 =>
    have hxs : PyData.canLayAll0 (ps.map dPort) = true := (shp_list (f := dPort) (k := 2) (by decide) fun q hq => shp_port0 (hp q hq)).1
    refine notIn_listAt (fun y => PyData.eqv (readOf s.heap y) d) ⟨_, h1, h2, _, h3⟩ (fun y hy => ?_) ?_
    · have key := reads_port ps _ _ h4 y (Array.mem_toList_iff.mpr hy)
      obtain ⟨q, hq, cs, ry⟩ := key
      have hc := shp_port0 (hp q hq)
      rw [readOf_eq hc.1 ry]
      refine eq_odd (dPort q) d X.A.in1 s y v _ _ ry r1 (tt_port q) hc.1 ?_
      have := hc.2
      rw [Around.in1_units]
      omega
    · rw [any_by_data h4 hxs, List.any_map]
      exact ⟨.bl _, H, I, rfl, q⟩
/-- a new list is not the table of modules -/
def tLstZ (t : TA) : TE := fun σ H Q => t σ H fun xs H1 => xs.length ≤ sizeLine ∧ ∀ l, H1 l = none → l ≠ sysModules → Q (.ref l) (upd H1 l (.lst xs))
theorem pe_lstZ {X : Cx} {es : List Expr} {pos : Pos} {t : TA} (h : PA X es t) : PE X (.List es pos) (tLstZ t) := by
  refine ⟨fun pins s σ H Q I hq => ?_⟩
  refine wpAny_List_spliced (thn (h.run pos pins s σ H _ I hq) fun us s1 ⟨xs, H1, I1, r, z, q⟩ => ⟨by rw [← r.length]; exact z, ?_⟩)
  have hf : H1 s1.heap.objs.size = none := I1.hok.fresh (Nat.le_refl _)
  refine ⟨.ref s1.heap.objs.size, upd H1 s1.heap.objs.size (.lst xs), I1.laid (t' := s1.toks) (fun b u e => Heap.get?_push_of_some _ e) (Nat.le_refl _) ?_, rfl, q _ hf (Ne.symm (Nat.ne_of_lt I1.big))⟩
  exact ⟨z, us, 0, r, Heap.get?_push_size _ rfl⟩
end Oz

set_option maxRecDepth 100000
set_option maxHeartbeats 4000000
namespace K82
open PySem L2 Ly Nd Nt Od
local macro_rules | `(tactic| walk_at "nx") => `(tactic| dsimp only [tNext])
section
variable {P : Program} {w : World} {K : PySem.W.Frag} {mg : Str → Option Value} {base : Heap} {ad : Adr}
theorem sc_UnknownPort_init : FnScope ["self", "name"] ["self", "name"] (defScope s_UnknownPort_init) := ⟨rfl, rfl, rfl, by decide +kernel, rfl, by decide +kernel, by decide +kernel⟩
theorem ok_UPI {f : Addr} {fd : FuncData} (F : Fun K "__init__" "UnknownPort.__init__" s_UnknownPort_init f fd) (T : Txt K w mg ad) : FnOk P w K mg base CX0 1 f fd ["self", "name"] (spXI ad.C_UnknownPort "name") := by
  refine F.ok sc_UnknownPort_init (fun vs H Q E h => ?_) (fun cdv A outer s H vs Q E hr h => ?_)
  · obtain ⟨a, v, rfl, _⟩ := h
    rfl
  · obtain ⟨a, v, rfl, ha, k⟩ := h
    refine ⟨_, (pss_one (ps_ost (pv 0) (pv 1))), ?_⟩
    exact ⟨_, rfl, _, rfl, a, ad.C_UnknownPort, rfl, T.oex_UnknownPort, T.no_UnknownPort_name, .inl ⟨ha, fun dx hdx ne => k dx hdx ne⟩⟩
/-- a line is told -/
def LineTold (K : PySem.W.Frag) (H : Hp) (parts : List Part) (wires : List Nt.Wir) (t : Nt.Prt) (Q : VK) : Prop := ∀ (k : Nat) (a l : Addr) (u : V) (H' : Hp), Same H H' → H l = none → KnT H' a [u, .ref l] → Tp K H' u (dPort (sAt wires (srcF wires t) k)) → H' l = some (.lst ((valsTo parts wires (srcF wires t) k).map V.int)) → EndsAt parts wires (srcF wires t) k → Q (.ref a) H'
def spLineOf (P : Program) (w : World) (K : PySem.W.Frag) (C CP CU CR : Addr) : Sp := fun vs H Q E => ∃ (x : Addr) (v : V) (ins outs : List Str) (parts : List Part) (wires : List Nt.Wir) (n : NetV), vs = [.ref x, v] ∧ NetC P w K C CP H x ins outs parts wires n ∧ NetOk ins outs parts wires ∧
  ((∃ t, t ∈ linedT outs parts ∧ Tp K H v (dPort t) ∧ (¬ Ring parts wires → LineTold K H parts wires t Q) ∧ (Ring parts wires → ∀ H', Same H H' → E (.ref CR) none H')) ∨
   (∃ p d, Oz.Dz K p H v d ∧ Oz.inP (linedT outs parts) d = false ∧ ∀ dd H', Same H H' → H' dd = some (.xd [("name", v)]) → E (.ref CU) (some dd) H'))
theorem sc_line_of : FnScope ["net", "target"] ["net", "target"] (defScope s_line_of) := ⟨rfl, rfl, rfl, by decide +kernel, rfl, by decide +kernel, by decide +kernel⟩
theorem ok_lineOf {f : Addr} {fd fdT fdR fdL fdX : FuncData} (F : Fun K "line_of" "line_of" s_line_of f fd) (T : Txt K w mg ad) (G_line_targets : FnOk P w K mg base CX0 3 ad.f_line_targets fdT ["net"] (spLineTgts P w K ad.C_Net ad.C_Primitive)) (b_line_targets : Binds K fdT ["net"] [])
    (G_check_rings : FnOk P w K mg base (L2.CX P w) 2 ad.f_check_rings fdR ["net"] (spRings P w K ad.C_Net ad.C_Primitive ad.C_DelayRing)) (b_check_rings : Binds K fdR ["net"] [])
    (G_line_at : FnOk P w K mg base CX0 2 ad.f_line_at fdL ["net", "target"] (spLineAt P w K ad.C_Net ad.C_Primitive)) (b_line_at : Binds K fdL ["net", "target"] [])
    (G_UnknownPort_init : FnOk P w K mg base CX0 1 ad.f_UnknownPort_init fdX ["self", "name"] (spXI ad.C_UnknownPort "name")) (b_UnknownPort_init : Binds K fdX ["self", "name"] []) :
    FnOk P w K mg base (L2.CX P w) 4 f fd ["net", "target"] (spLineOf P w K ad.C_Net ad.C_Primitive ad.C_UnknownPort ad.C_DelayRing) := by
  refine F.okX sc_line_of (fun vs H Q E h => ?_) (fun cdv A outer s H vs Q E hr h => ?_)
  · obtain ⟨x, v, ins, outs, parts, wires, n, rfl, _⟩ := h
    rfl
  · obtain ⟨x, v, ins, outs, parts, wires, n, rfl, N, ok, cases2⟩ := h
    refine ⟨_, (pss_cons (ps_if (pt_cmpR (Oz.op_notInZ K (hu65 hr)) (pv 1) (pe_call G_line_targets (hr.mono (by decide)) rfl T.g_line_targets T.k_line_targets b_line_targets .nil pass0 (pa_cons (pv 0) pa_nil)) (by rfl)) (pss_one (ps_raise rfl (takes_of rfl rfl rfl rfl) (pmk_oex T.oex_UnknownPort T.in_UnknownPort T.tf_UnknownPort G_UnknownPort_init (hr.mono (by decide)) b_UnknownPort_init .nil pass0 rfl T.g_UnknownPort (by exact (pa_cons (pv 1) pa_nil))))) pss_nil)
    (pss_cons (ps_expr (pe_call G_check_rings (hr.mono (by decide)) rfl T.g_check_rings T.k_check_rings b_check_rings .nil (passes_call (takes_of rfl rfl rfl rfl) (fun _ _ _ _ h => h)) (pa_cons (pv 0) pa_nil)))
    (pss_one (ps_ret (pe_call G_line_at (hr.mono (by decide)) rfl T.g_line_at T.k_line_at b_line_at .nil pass0 (pa_cons (pv 0) (pa_cons (pv 1) pa_nil))))))), ?_⟩
    have okl : ∀ q ∈ linedT outs parts, OkP q := fun q hq => ok.okT q (List.mem_filter.mp hq).1
    refine ⟨_, rfl, _, rfl, x, ins, outs, parts, wires, n, rfl, N, ok, fun f ws H1 s1 hf0 hf hft => ?_⟩
    rcases cases2 with ⟨t, ht, hv, kno, kyes⟩ | ⟨p, d, hd, hin, kx⟩
    · have hin : Oz.inP (linedT outs parts) (dPort t) = true := List.any_eq_true.mpr ⟨t, ht, by rw [eqv_port]; exact decide_eq_true rfl⟩
      refine ⟨fun _ => False, dPort t, f, ws, linedT outs parts, Oz.Tp.dz (hv.same s1), rfl, SqL.of hf, hft, okl, _, rfl, ?_⟩
      unfold Oz.inP at hin
      rw [hin]
      refine iteF ?_
      walk_at "nx"
      refine ⟨_, rfl, x, ins, outs, parts, wires, n, rfl, N.same s1, ok, fun hno H2 s2 => ?_, fun hrg H2 s2 => kyes hrg H2 (s1.trans s2)⟩
      have s12 := s1.trans s2
      exact ⟨_, rfl, _, rfl, x, v, ins, outs, parts, wires, n, t, rfl, N.same s12, ok, hno, (List.mem_filter.mp ht).1, hv.same s12, fun k a l u H' s3 hl hk hu hls he => kno hno k a l u H' (s12.trans s3) (s12.free hl) hk hu hls he⟩
    · refine ⟨p, d, f, ws, linedT outs parts, hd.same s1, rfl, SqL.of hf, hft, okl, _, rfl, ?_⟩
      unfold Oz.inP at hin
      rw [hin]
      refine iteT ?_
      refine ⟨_, rfl, (show 1 ≤ 1000 by decide), fun a ha => ?_⟩
      refine ⟨a, v, rfl, upd_same, fun dx hdx ne => ⟨rfl, dx, [("name", v)], upd_same, ?_, ?_, ?_⟩⟩
      · rw [upd_ne ne]
        exact upd_same
      · have q := hdx
        rw [upd_ne ne] at q
        exact q
      · have q : H1 dx = none := by
          have q := hdx
          rw [upd_ne ne] at q
          exact q
        exact kx dx _ (s1.trans (same_exc ha q)) upd_same

end
end K82

set_option maxRecDepth 100000
set_option maxHeartbeats 4000000
namespace Nd
open PySem PySem.Spec PyProof.Rows L2 Ly LamX
theorem refs_vals : ∀ qs : Q3, Vals (qs.map fun q => V.ref q.2.1) (qs.map fun q => Value.ref q.2.1)
  | [] => .nil
  | _ :: r => .cons rfl (refs_vals r)
def rListN (P : Program) (w : World) : List V → Hp → VK → Prop := fun xs H Q => ∃ d o qs, xs = [V.ref d] ∧ H d = some (.frz o (NQ P w d qs)) ∧ qs.length ≤ 1000 ∧ ∀ p, H p = none → Q (.ref p) (upd H p (.lst (qs.map fun q => V.ref q.2.1)))
theorem call_listN {X : Cx} (P : Program) (w : World) (hc : X.calm = true) (hP : X.prog = P := by rfl) (hw : X.w = w := by rfl) : CallR X (.type "list") (rListN P w) := by
  subst hP hw
  intro pins s σ H xs us Q I r h
  obtain ⟨d, o, qs, rfl, hd, hz, q⟩ := h
  obtain ⟨u, rfl, rx⟩ := r.one
  cases rx
  obtain ⟨hs, hgd, hx, es, ep, hdt, hsz, ent⟩ := frzN I hd
  have hz2 : qs.length ≤ sizeLine := Nat.le_trans hz (by rw [sizeLine_eq]; decide)
  refine PySem.W.kdl_call (kdl_raw hs hx hdt) (I.ok.hd hc) hgd (by rw [hsz]; exact hz2) fun h' tk acc c kp e it => ?_
  have ea : acc.toList = qs.map fun q => Value.ref q.2.1 := by
    have hl : acc.toList.length = qs.length := by rw [Array.length_toList, it.1]; exact hsz
    refine List.ext_getElem? fun j => ?_
    rw [List.getElem?_map]
    cases hj : acc.toList[j]? with
    | none =>
      have h1 := List.getElem?_eq_none_iff.mp hj
      rw [List.getElem?_eq_none (by omega)]
      rfl
    | some v =>
      obtain ⟨en, hen, hv⟩ := it.2 j v (by rw [← Array.getElem?_toList]; exact hj)
      have hjl : j < qs.length := by
        have := (List.getElem?_eq_some_iff.mp hj).1
        omega
      obtain ⟨en', hen', hk, _⟩ := ent j qs[j] (List.getElem?_eq_getElem hjl)
      rw [hen] at hen'
      cases hen'
      rw [List.getElem?_eq_getElem hjl, hv, hk]
      rfl
  refine ⟨.ref s.heap.objs.size, _, I.laid (t' := tk) (o := .lst (qs.map fun q => V.ref q.2.1)) kp (Nat.le_refl _) ⟨by rw [List.length_map]; exact hz2, acc.toList, c, by rw [ea]; exact refs_vals qs, ?_⟩, rfl, q _ (I.hok.fresh (Nat.le_refl _))⟩
  exact e
end Nd

set_option maxRecDepth 100000
set_option maxHeartbeats 4000000
namespace K82
open PySem L2 Ly Nd Nt Od
local macro_rules | `(tactic| walk_at "nx") => `(tactic| dsimp only [tNext])
section
variable {P : Program} {w : World} {K : PySem.W.Frag} {mg : Str → Option Value} {base : Heap} {ad : Adr}
def spMade (P : Program) (w : World) (K : PySem.W.Frag) (C CP : Addr) : Sp := fun vs H Q _ => ∃ (l : Addr) (ins outs : List Str) (parts : List Part) (wires : List Nt.Wir), vs = [.ref l] ∧ NetAt K H l ins outs parts wires ∧ NetOk ins outs parts wires ∧
  ∀ (x : Addr) (n : NetV) (H' : Hp), Same H H' → H x = none → NetI P w K C CP H' x ins outs parts wires n → Q (.ref x) H'
theorem sc_law_made : FnScope ["net"] ["net"] (defScope s_law_made) := ⟨rfl, rfl, rfl, by decide +kernel, rfl, by decide +kernel, by decide +kernel⟩
theorem ok_made {f : Addr} {fd fdI : FuncData} (F : Fun K "_law_made" "_law_made" s_law_made f fd) (T : Txt K w mg ad) (G_Net_init : FnOk P w K mg base CX0 6 ad.f_Net_init fdI ["self", "inputs", "outputs", "parts", "wires"] (spNetInit P w K ad.C_Net ad.C_Primitive)) (b_Net_init : Binds K fdI ["self", "inputs", "outputs", "parts", "wires"] []) :
    FnOk P w K mg base CX0 8 f fd ["net"] (spMade P w K ad.C_Net ad.C_Primitive) := by
  refine F.ok sc_law_made (fun vs H Q E h => ?_) (fun cdv A outer s H vs Q E hr h => ?_)
  · obtain ⟨l, ins, outs, parts, wires, rfl, _⟩ := h
    rfl
  · obtain ⟨l, ins, outs, parts, wires, rfl, hn, ok, k⟩ := h
    refine ⟨_, (pss_one (ps_ret (pe_make T.mk_Net G_Net_init (hr.mono (by decide)) rfl T.g_Net b_Net_init .nil pass0 (pa_cons (pe_ix (ix_listK K) (pv 0) pe_int (fun _ _ => rfl)) (pa_cons (pe_ix (ix_listK K) (pv 0) pe_int (fun _ _ => rfl)) (pa_cons (pe_ix (ix_listK K) (pv 0) pe_int (fun _ _ => rfl)) (pa_cons (pe_ix (ix_listK K) (pv 0) pe_int (fun _ _ => rfl)) pa_nil))))))), ?_⟩
    obtain ⟨a, b, c, d, us, ws, hl, ha, hb, hc, hp, hd, hw⟩ := hn
    have hS : SqL K H l [.ref a, .ref b, .ref c, .ref d] := SqL.of hl
    refine ⟨_, rfl, l, _, _, _, rfl, rfl, hS, atI_nat (j := 0) rfl, _, rfl, l, _, _, _, rfl, rfl, hS, atI_nat (j := 1) rfl, _, rfl, l, _, _, _, rfl, rfl, hS, atI_nat (j := 2) rfl, _, rfl, l, _, _, _, rfl, rfl, hS, atI_nat (j := 3) rfl, ?_⟩
    intro x dx hx hdx ne
    have s1 : Same H (upd (upd H dx (.own x)) x (.ins ad.C_Net dx [])) := (same_new hdx).trans (same_new (by rw [upd_ne ne.symm]; exact hx))
    refine ⟨x, dx, a, b, c, d, ins, outs, us, ws, parts, wires, rfl, upd_same, same_sqt s1 ha.sqt, same_sqt s1 hb.sqt, same_sqt s1 hc.sqt, TpAll.same hp s1, hd.same s1, TpAll.same hw s1, ok, fun n H' sx N => ⟨rfl, ?_⟩⟩
    exact k x n H' (fun b u e => sx b u (ne_of_none e hx) (s1 b u e)) hx N
def spLined (P : Program) (w : World) (K : PySem.W.Frag) : Sp := fun vs H Q _ => ∃ (l : Addr) (ins outs : List Str) (parts : List Part) (wires : List Nt.Wir), vs = [.ref l] ∧ NetAt K H l ins outs parts wires ∧ NetOk ins outs parts wires ∧
  ∀ (f : Addr) (ws : List V) (H' : Hp), Same H H' → H f = none → H' f = some (.lst ws) → TpAll K H' ws ((linedT outs parts).map dPort) → Q (.ref f) H'
theorem sc_law_lined : FnScope ["net", "first", "target"] ["net"] (defScope s_law_lined) := ⟨rfl, rfl, rfl, by decide +kernel, rfl, by decide +kernel, by decide +kernel⟩
theorem ok_lined {f : Addr} {fd fdF fdT : FuncData} (F : Fun K "_law_lined" "_law_lined" s_law_lined f fd) (T : Txt K w mg ad) (G_law_first : FnOk P w K mg base CX0 1 ad.f_law_first fdF ["net"] (spFirst P w K)) (b_law_first : Binds K fdF ["net"] [])
    (G_law_targets : FnOk P w K mg base CX0 2 ad.f_law_targets fdT ["outs", "parts"] (spTgts K)) (b_law_targets : Binds K fdT ["outs", "parts"] []) : FnOk P w K mg base CX0 3 f fd ["net"] (spLined P w K) := by
  refine F.ok sc_law_lined (fun vs H Q E h => ?_) (fun cdv A outer s H vs Q E hr h => ?_)
  · obtain ⟨l, ins, outs, parts, wires, rfl, _⟩ := h
    rfl
  · obtain ⟨l, ins, outs, parts, wires, rfl, hn, ok, k⟩ := h
    refine ⟨_, (pss_cons (ps_set (i := 1) sc_law_lined.nd rfl (Or.inr rfl) (pe_call G_law_first (hr.mono (by decide)) rfl T.g__law_first T.k__law_first b_law_first .nil pass0 (pa_cons (pv 0) pa_nil)))
    (pss_one (ps_ret (pe_lc (own := [("target", 2)]) rfl sc_law_lined.nd (pi_listK K (pe_call G_law_targets (hr.mono (by decide)) rfl T.g__law_targets T.k__law_targets b_law_targets .nil pass0 (pa_cons (pe_ix (ix_listK K) (pv 0) pe_int (fun _ _ => rfl)) (pa_cons (pe_ix (ix_listK K) (pv 0) pe_int (fun _ _ => rfl)) pa_nil)))) (blkOk_by (own := [("target", 2)]) (N := ["net", "first", "target"]) (sc := defScope s_law_lined) (by decide +kernel)) (fun _ _ _ _ _ => (pg_name (i := 2) sc_law_lined.nd rfl (Or.inl rfl))) (fun _ _ _ _ _ => (pts_one (pt_cmp (pc_dnotinN P w K (hu9 hr) (pe_ix (ix_tupK K) (pv 2) pe_int (fun _ _ => rfl)) (pv 1))))) (fun _ _ _ _ _ => (pv 2)))))), ?_⟩
    have h16 := ok.p16
    have h8 := ok.o8
    have htl := tgts_len (outs := outs) ok.tx
    refine ⟨_, rfl, l, ins, outs, parts, wires, rfl, hn, ok.tx, ok.p16, ok.pn, fun fr H1 s1 hfr0 hfr => ?_⟩
    dsimp only [gName]
    obtain ⟨a, b, c, d, us, ws, hl, ha, hb, hc, hp, hd, hw⟩ := hn.same s1
    have hS : SqL K H1 l [.ref a, .ref b, .ref c, .ref d] := SqL.of hl
    refine ⟨_, rfl, l, _, _, _, rfl, rfl, hS, atI_nat (j := 1) rfl, _, rfl, l, _, _, _, rfl, rfl, hS, atI_nat (j := 2) rfl, b, c, outs, us, parts, rfl, .inr ⟨hb.sqt, hc.sqt⟩, hp, ok.tx, ok.p16, ok.o8, fun f2 ts H2 s2 hf2 hf20 hft => ?_⟩
    have hwl : ts.length = (tgts outs parts).length := by
      have := TpAll.len hft
      rwa [List.length_map] at this
    refine ⟨f2, rfl, ⟨_, SqL.of hf2⟩, fun D hD => run_it (walk_list (K := K) (a := f2) (xs := ts)) (fun i H' => Same H2 H' ∧ ∃ rs, H' D = some (.lst rs) ∧ TpAll K H' rs ((((tgts outs parts).take i).filter fun t => !isDel parts t.1).map dPort)) ⟨same_new hD, [], upd_same, .nil⟩ (fun i H' _ h => SqL.of (h.1 _ _ hf2)) ?_ ?_⟩
    · rintro i y H3 H' hi ⟨s3, rs, hrs, hrt⟩ ⟨rfl, hy⟩
      obtain ⟨dd, hdd, htp⟩ := TpAll.get hft hy
      rw [List.getElem?_map] at hdd
      obtain ⟨t, ht, rfl⟩ := Option.map_eq_some_iff.mp hdd
      obtain ⟨ta, tu, rfl, hta, htu⟩ := port_inv htp
      have es := filter_succ (fun t : Nt.Prt => !isDel parts t.1) ht
      have hrl : rs.length ≤ 60 := by
        have h1 := TpAll.len hrt
        rw [List.length_map] at h1
        have h2 : (((tgts outs parts).take i).filter fun t => !isDel parts t.1).length ≤ ((tgts outs parts).take i).length := List.length_filter_le _ _
        have h3 : ((tgts outs parts).take i).length ≤ (tgts outs parts).length := List.length_take_le' _ _
        omega
      dsimp only [gName]
      refine ⟨rfl, ?_⟩
      refine ⟨_, rfl, ta, _, _, _, rfl, rfl, same_sqt s3 hta, atI_nat (j := 0) rfl, _, rfl, fr, firsts parts, kPath t.1, rfl, (hfr.same (s2.trans s3)).dn, key_path (htu.same s3), _, rfl, ?_⟩
      rw [firsts_some, es]
      cases hv : isDel parts t.1 with
      | true => exact iteF ⟨s3, rs, hrs, by simpa using hrt⟩
      | false =>
        refine iteT ⟨_, rfl, rs, hrs, szt (by omega), same_mut s3 hD, _, upd_same, ?_⟩
        rw [if_pos (by decide), List.map_append]
        exact TpAll.sx (TpAll.snoc hrt (htp.same s3)) (sx_put (sx_of (Same.refl _))) (notT_lst hrs)
    · rintro H3 ⟨s3, rs, hrs, hrt⟩
      rw [hwl, List.take_length] at hrt
      exact k D rs H3 ((s1.trans s2).trans s3) ((s1.trans s2).free hD) hrs hrt
theorem keys_tp {H : Hp} {g : Part → V} : ∀ {l : List Part} {qs : Q3}, pairsN qs = l.map (fun x => (kPath x.1, g x)) → (∀ q ∈ qs, KeyAt K H (.ref q.2.1) q.1) → TpAll K H (qs.map fun q => V.ref q.2.1) ((l.map (·.1)).map dTx)
  | [], [], _, _ => .nil
  | [], _ :: _, h, _ => by cases h
  | _ :: _, [], h, _ => by cases h
  | x :: l, q :: qs, h, hk => by
    injection h with h1 h2
    have hq := hk q List.mem_cons_self
    rw [(Prod.mk.inj h1).1] at hq
    exact .cons (tp_key hq) (keys_tp (g := g) h2 fun z hz => hk z (List.mem_cons_of_mem _ hz))
def hereK (L : List Pth) : List (NK × V) := L.map fun p => (kPath p, V.bl true)
theorem hereK_some (L : List Pth) (q : Pth) : (valV (hereK L) (kPath q)).isSome = decide (q ∈ L) := by
  rw [← valV_any]
  unfold hereK
  rw [List.any_map]
  by_cases h : q ∈ L
  · rw [decide_eq_true h, List.any_eq_true]
    exact ⟨q, h, decide_eq_true rfl⟩
  · rw [decide_eq_false h, List.any_eq_false]
    intro p hp e
    exact h (kPath_inj (of_decide_eq_true e) ▸ hp)
theorem layer_nodup {parts : List Part} {wires : List Nt.Wir} (hn : (parts.map (·.1)).Nodup) : ∀ k, (layer parts wires k).Nodup
  | 0 => hn.sublist ((List.filter_sublist).map _)
  | k + 1 => (layer_nodup hn k).filter _
theorem layer_few {parts : List Part} {wires : List Nt.Wir} : ∀ k, (layer parts wires k).length ≤ parts.length
  | 0 => by
    show ((parts.filter isD).map (·.1)).length ≤ _
    rw [List.length_map]
    exact List.length_filter_le _ _
  | k + 1 => Nat.le_trans (List.length_filter_le _ _) (layer_few k)
def spHasRing (K : PySem.W.Frag) : Sp := fun vs H Q _ => ∃ (l : Addr) (ins outs : List Str) (parts : List Part) (wires : List Nt.Wir), vs = [.ref l] ∧ NetAt K H l ins outs parts wires ∧ NetOk ins outs parts wires ∧
  ∀ (hb : Bool) H', Same H H' → (hb = true ↔ Ring parts wires) → Q (.bl hb) H'
def HRW (P : Program) (w : World) (K : PySem.W.Frag) (H : Hp) (parts : List Part) (wires : List Nt.Wir) (l d : Addr) (m : Nat) (σ : L2.St) (H' : Hp) : Prop := ∃ (i : Nat) (a : Addr) (us : List V) (x3 x4 x5 : Option V), m = (layer parts wires i).length ∧ σ = [some (.ref l), some (.ref a), some (.ref d), x3, x4, x5] ∧ Same H H' ∧
  H' a = some (.lst us) ∧ TpAll K H' us ((layer parts wires i).map dTx)
theorem sc_law_has_ring : FnScope ["net", "left", "fed", "here", "later", "path"] ["net"] (defScope s_law_has_ring) := ⟨rfl, rfl, rfl, by decide +kernel, rfl, by decide +kernel, by decide +kernel⟩
theorem ok_hasRing {f : Addr} {fd fdF : FuncData} (F : Fun K "_law_has_ring" "_law_has_ring" s_law_has_ring f fd) (T : Txt K w mg ad) (G_law_first : FnOk P w K mg base CX0 1 ad.f_law_first fdF ["net"] (spFirst P w K)) (b_law_first : Binds K fdF ["net"] []) : FnOk P w K mg base CX0 2 f fd ["net"] (spHasRing K) := by
  refine F.ok sc_law_has_ring (fun vs H Q E h => ?_) (fun cdv A outer s H vs Q E hr h => ?_)
  · obtain ⟨l, ins, outs, parts, wires, rfl, _⟩ := h
    rfl
  · obtain ⟨l, ins, outs, parts, wires, rfl, hn, ok, k⟩ := h
    have kyes : Ring parts wires → ∀ H', Same H H' → Q (.bl true) H' := fun hr H' s => k true H' s ⟨fun _ => hr, fun _ => rfl⟩
    have kno : ¬ Ring parts wires → ∀ H', Same H H' → Q (.bl false) H' := fun hr H' s => k false H' s ⟨fun z => (by cases z), fun z => absurd z hr⟩
    refine ⟨_, (pss_cons (ps_asg (pe_tupF (pa_cons (pe_callTy (call_listN P w rfl) (by rfl) T.n_list (by decide +kernel) (pa_cons (pe_call G_law_first (hr.mono (by decide)) rfl T.g__law_first T.k__law_first b_law_first .nil pass0 (pa_cons (pv 0) pa_nil)) pa_nil)) (pa_cons (pe_callTy (call_dictNf P w K rfl (hu10 hr)) (by rfl) T.n_dict (by decide +kernel) (pa_cons (pe_ix (ix_listK K) (pv 0) pe_int (fun _ _ => rfl)) pa_nil)) pa_nil))) (pg_tup (by rfl) (pgs_cons (pg_name (i := 1) sc_law_has_ring.nd rfl (Or.inl rfl)) (pgs_cons (pg_name (i := 2) sc_law_has_ring.nd rfl (Or.inr rfl)) pgs_nil))))
    (pss_cons (ps_while PassesOwn.never (pt_cmpR (op_neDK K hr.units) (pv 1) (pe_lst pa_nil) (nomark _))
    (pss_cons (ps_set (i := 3) sc_law_has_ring.nd rfl (Or.inr rfl) (pe_callTy (call_dictNf P w K rfl (hu10 hr)) (by rfl) T.n_dict (by decide +kernel) (pa_cons (pe_lc (own := [("path", 5)]) rfl sc_law_has_ring.nd (pi_listK K (pv 1)) (blkOk_by (own := [("path", 5)]) (N := ["net", "left", "fed", "here", "later", "path"]) (sc := defScope s_law_has_ring) (by decide +kernel)) (fun _ _ _ _ _ => (pg_name (i := 5) sc_law_has_ring.nd rfl (Or.inl rfl))) (fun _ _ _ _ _ => pts_nil) (fun _ _ _ _ _ => (pe_tupF (pa_cons (pv 5) (pa_cons pe_bl pa_nil))))) pa_nil)))
    (pss_cons (ps_setLc (i := 4) (own := [("path", 5)]) rfl sc_law_has_ring.nd rfl rfl (sw_true rfl rfl rfl (by decide +kernel)) (pi_listK K (pv 1)) (blkOk_by (own := [("path", 5)]) (N := ["net", "left", "fed", "here", "later", "path"]) (sc := defScope s_law_has_ring) (by decide +kernel)) (fun _ _ _ _ _ => (pg_name (i := 5) sc_law_has_ring.nd rfl (Or.inl rfl))) (fun _ _ _ _ _ => (pts_one (pt_cmp (pc_dinN P w K (hu9 hr) (pe_ix (ix_tupK K) (pe_dgetN P w K (hu9 hr) (pv 2) (pe_tupF (pa_cons (pv 5) (pa_cons pe_str pa_nil))) (fun _ _ => rfl)) pe_int (fun _ _ => rfl)) (pv 3))))) (fun _ _ _ _ _ => (pv 5)))
    (pss_cons (ps_if (pt_cmpR op_eq (pe_callB (call_lenK K) (by rfl) T.n_len (by decide +kernel) (pa_cons (pv 4) pa_nil)) (pe_callB (call_lenK K) (by rfl) T.n_len (by decide +kernel) (pa_cons (pv 1) pa_nil)) (nomark _)) (pss_one (ps_ret pe_bl)) pss_nil)
    (pss_one (ps_set (i := 1) sc_law_has_ring.nd rfl (Or.inl rfl) (pv 4)))))))
    (pss_one (ps_ret pe_bl)))), ?_⟩
    have h16 := ok.p16
    refine ⟨_, rfl, l, ins, outs, parts, wires, rfl, hn, ok.tx, ok.p16, ok.pn, fun fr H1 s1 hfr0 hfr => ?_⟩
    obtain ⟨ob, qs, hbo, eqs, kqs⟩ := hfr
    have hql : qs.length ≤ parts.length := by
      have h1 := congrArg List.length eqs
      have h2 := firsts_len parts
      unfold pairsN at h1
      rw [List.length_map] at h1
      omega
    refine ⟨fr, ob, qs, rfl, hbo, by omega, fun lf hlf => ?_⟩
    have hk0 : TpAll K H1 (qs.map fun q => V.ref q.2.1) ((layer parts wires 0).map dTx) := keys_tp (l := parts.filter isD) (g := fun x => .int (constT x.2)) eqs kqs.1
    have s2 := same_new (o := .lst (qs.map fun q => V.ref q.2.1)) hlf
    have hl2 : upd H1 lf (.lst (qs.map fun q => V.ref q.2.1)) lf = some (.lst (qs.map fun q => V.ref q.2.1)) := upd_same
    replace hk0 := TpAll.same hk0 s2
    generalize qs.map (fun q => V.ref q.2.1) = us0 at s2 hl2 hk0
    generalize upd H1 lf (.lst us0) = H2 at s2 hl2 hk0
    have s12 := s1.trans s2
    obtain ⟨a, b, c, d, us, ws, hl, ha, hb, hc, hp, hd, hw⟩ := hn.same s12
    have hS : SqL K H2 l [.ref a, .ref b, .ref c, .ref d] := SqL.of hl
    obtain ⟨kvs, hkv, hsk⟩ := wires_kv hw
    have hkn : (kvs.map (·.1)).Nodup := by
      rw [al_keys (f := fun y : Nt.Wir => kPort y.1) (R := fun v y => Tp K H2 v (dPort y.2)) hsk]
      have := map_nodup (f := kPort) (fun x y e => kPort_inj e) ok.tn
      rwa [List.map_map] at this
    refine ⟨_, rfl, l, _, _, _, rfl, rfl, hS, atI_nat (j := 3) rfl, d, ws, kvs, rfl, .inr hd, hkv, hkn, fun fdd H3 hfd0 s3 hfd => ?_⟩
    have hsk3 : SrcAt K H3 kvs wires := paired_imp (fun _ _ z => ⟨z.1, z.2.same s3⟩) hsk
    refine ⟨szl (show 2 ≤ 100000 by decide), fun cc H4 s4 k4 => ?_⟩
    refine ⟨cc, _, rfl, k4.sqt, rfl, _, _, rfl, _, _, rfl, rfl, ?_⟩
    dsimp only [gName]
    have s14 := (s12.trans s3).trans s4
    have s24 := s3.trans s4
    have hfd4 := hfd.same s4
    have hsk4 : SrcAt K H4 kvs wires := paired_imp (fun _ _ z => ⟨z.1, z.2.same s4⟩) hsk3
    refine ⟨HRW P w K H4 parts wires l fdd, ⟨_, 0, lf, us0, _, _, _, rfl, rfl, Same.refl _, s24 _ _ hl2, TpAll.same hk0 s24⟩, ?_⟩
    rintro m σ H5 ⟨i, la, us, x3, x4, x5, rfl, rfl, s5, hla, hlt⟩
    have hfew : (layer parts wires i).length ≤ 16 := Nat.le_trans (layer_few i) h16
    have hnd := layer_nodup (wires := wires) ok.pn i
    have hul : us.length = (layer parts wires i).length := by
      have := TpAll.len hlt
      rwa [List.length_map] at this
    have hok : ∀ p ∈ layer parts wires i, ∀ x ∈ p, OkS x := fun p hp => by
      obtain ⟨y, hy, e, _⟩ := isDel_iff.mp (layer_mem.mp hp 0 (Nat.zero_le _))
      have e : y.1 = p := e
      rw [← e]
      exact paths_okS ok (l := parts) (fun _ h => h) y.1 (List.mem_map_of_mem hy)
    refine ⟨_, rfl, szl (Nat.zero_le _), fun e1 he1 => ⟨.list ((layer parts wires i).map dTx), .list [], .lst (SqL.of (same_new he1 _ _ hla)) (TpAll.same hlt (same_new he1)).dp, .lst (SqL.of upd_same) .nil, shp_paths hok, shp_paths (l := []) (fun p hp => (by cases hp)), _, rfl, ?_⟩⟩
    rw [eqv_nil dTx]
    have s6 := s5.trans (same_new (o := .lst []) he1)
    have hla6 := same_new (o := .lst []) he1 _ _ hla
    have hlt6 := TpAll.same hlt (same_new (o := .lst []) he1)
    generalize upd H5 e1 (.lst []) = H6 at s6 hla6 hlt6
    by_cases hL : layer parts wires i = []
    · rw [decide_eq_true (by rw [hL])]
      exact iteF (kno (layer_none hL) H6 (s14.trans s6))
    rw [decide_eq_false hL]
    refine iteT ⟨fun σ' H' => ∃ m', m' < (layer parts wires i).length ∧ HRW P w K H4 parts wires l fdd m' σ' H', fun σ' H' h => h, ?_⟩
    -- here
    refine ⟨_, rfl, la, rfl, ⟨_, SqL.of hla6⟩, fun D hD => run_it (walk_list (K := K) (a := la) (xs := us)) (fun j H' => Same H6 H' ∧ ∃ ys, H' D = some (.lst ys) ∧ ys.length ≤ j ∧ Paired (PairV K H') (hereK ((layer parts wires i).take j)) ys) ⟨same_new hD, [], upd_same, Nat.le_refl _, .nil⟩ (fun j H' _ h => SqL.of (h.1 _ _ hla6)) ?_ ?_⟩
    · rintro j y H7 H' hj ⟨s7, ys, hys, hyl, hyp⟩ ⟨rfl, hy⟩
      obtain ⟨dd, hdd, htp⟩ := TpAll.get hlt6 hy
      rw [List.getElem?_map] at hdd
      obtain ⟨p, hpj, rfl⟩ := Option.map_eq_some_iff.mp hdd
      dsimp only [gName]
      refine ⟨rfl, ?_⟩
      dsimp only [tYes]
      refine iteT ⟨_, rfl, szl (show 2 ≤ 100000 by decide), fun c8 G8 u8 k8 => ⟨ys, u8 _ _ hys, szt (by omega), same_mut (s7.trans u8) hD, _, upd_same, by rw [List.length_append, List.length_singleton]; omega, ?_⟩⟩
      have nt := notT_lst (u8 _ _ hys)
      have sx8 : SameX D G8 (upd G8 D (.lst (ys ++ [.ref c8]))) := sx_put (sx_of (Same.refl _))
      have e9 : hereK ((layer parts wires i).take (j + 1)) = hereK ((layer parts wires i).take j) ++ [(kPath p, V.bl true)] := by
        unfold hereK
        rw [List.take_add_one, hpj, List.map_append]
        rfl
      rw [e9]
      have hnew : PairV K G8 (kPath p, V.bl true) (.ref c8) := ⟨c8, y, rfl, k8.sqt, key_path (htp.same (s7.trans u8))⟩
      exact paired_snoc (paired_imp (fun _ _ z => (PairV.same z u8).mono fun _ _ => sqt_sx' sx8 nt) hyp) (hnew.mono fun _ _ => sqt_sx' sx8 nt)
    rintro H7 ⟨s7, ys, hys, hyl, hyp⟩
    rw [hul, List.take_length] at hyp
    have hkn2 : ((hereK (layer parts wires i)).map (·.1)).Nodup := by
      unfold hereK
      rw [List.map_map]
      exact map_nodup (f := kPath) (fun x y e => kPath_inj e) hnd
    refine ⟨D, ys, hereK (layer parts wires i), rfl, .inl (SqL.of hys), hyp, hkn2, fun hd8 H8 hd80 s8 dn8 => ?_⟩
    dsimp only [gName]
    have s68 := s7.trans s8
    have hla8 := s68 _ _ hla6
    have hlt8 := TpAll.same hlt6 s68
    have s48 := s6.trans s68
    have hfd8 := hfd4.same s48
    have hsk8 : SrcAt K H8 kvs wires := paired_imp (fun _ _ z => ⟨z.1, z.2.same s48⟩) hsk4
    -- later
    refine ⟨_, rfl, la, rfl, ⟨_, SqL.of hla8⟩, fun D2 hD2 => run_it (walk_list (K := K) (a := la) (xs := us)) (fun j H' => Same H8 H' ∧ ∃ rs, H' D2 = some (.lst rs) ∧ TpAll K H' rs ((((layer parts wires i).take j).filter fun p => decide (nxtP wires p ∈ layer parts wires i)).map dTx)) ⟨same_new hD2, [], upd_same, .nil⟩ (fun j H' _ h => SqL.of (h.1 _ _ hla8)) ?_ ?_⟩
    · rintro j y H9 H' hj ⟨s9, rs, hrs, hrt⟩ ⟨rfl, hy⟩
      obtain ⟨dd, hdd, htp⟩ := TpAll.get hlt8 hy
      rw [List.getElem?_map] at hdd
      obtain ⟨p, hpj, rfl⟩ := Option.map_eq_some_iff.mp hdd
      have hpm := List.mem_of_getElem? hpj
      have hdel : isDel parts p = true := layer_mem.mp hpm 0 (Nat.zero_le _)
      have es := filter_succ (fun p => decide (nxtP wires p ∈ layer parts wires i)) hpj
      have hrl : rs.length ≤ 16 := by
        have h1 := TpAll.len hrt
        rw [List.length_map] at h1
        have h2 : (((layer parts wires i).take j).filter fun p => decide (nxtP wires p ∈ layer parts wires i)).length ≤ ((layer parts wires i).take j).length := List.length_filter_le _ _
        have h3 : ((layer parts wires i).take j).length ≤ (layer parts wires i).length := List.length_take_le' _ _
        omega
      have hsk9 : SrcAt K H' kvs wires := paired_imp (fun _ _ z => ⟨z.1, z.2.same s9⟩) hsk8
      obtain ⟨sv, hsv, hst⟩ := src_at hsk9 ok.tn (del_tgt ok hdel)
      obtain ⟨sa, su, rfl, hsa, hsu⟩ := port_inv hst
      dsimp only [gName]
      refine ⟨rfl, ?_⟩
      refine ⟨_, rfl, _, rfl, szl (show 2 ≤ 100000 by decide), fun c1 G7 u7 k7 => ⟨fdd, kvs, kPort (p, "in"), _, rfl, ((hfd8.same s9).same u7).dn, key_port (tp_port k7.sqt ((htp.same s9).same u7)), hsv, ?_⟩⟩
      refine ⟨sa, _, _, _, rfl, rfl, same_sqt u7 hsa, atI_nat (j := 0) rfl, _, rfl, hd8, hereK (layer parts wires i), kPath (srcF wires (p, "in")).1, rfl, (dn8.same (s9.trans u7)).dn, key_path (hsu.same u7), _, rfl, ?_⟩
      rw [hereK_some, es]
      by_cases hv : nxtP wires p ∈ layer parts wires i
      · have hv' : (srcF wires (p, "in")).1 ∈ layer parts wires i := hv
        rw [decide_eq_true hv']
        refine iteT ⟨_, rfl, rs, u7 _ _ hrs, szt (by omega), same_mut (s9.trans u7) hD2, _, upd_same, ?_⟩
        rw [if_pos (decide_eq_true hv), List.map_append]
        exact TpAll.sx (TpAll.snoc (TpAll.same hrt u7) (htp.same (s9.trans u7))) (sx_put (sx_of (Same.refl _))) (notT_lst (u7 _ _ hrs))
      · have hv' : ¬ (srcF wires (p, "in")).1 ∈ layer parts wires i := hv
        rw [decide_eq_false hv']
        refine iteF ⟨s9.trans u7, rs, u7 _ _ hrs, ?_⟩
        rw [if_neg (by rw [decide_eq_false hv]; decide), List.append_nil]
        exact TpAll.same hrt u7
    rintro H9 ⟨s9, rs, hrs, hrt⟩
    rw [hul, List.take_length] at hrt
    dsimp only [gName]
    have hrt : TpAll K H9 rs ((layer parts wires (i + 1)).map dTx) := hrt
    have hrl : rs.length = (layer parts wires (i + 1)).length := by
      have := TpAll.len hrt
      rwa [List.length_map] at this
    have s49 := s48.trans s9
    refine ⟨_, rfl, D2, _, rfl, .inl (SqL.of hrs), _, rfl, la, _, rfl, .inl (SqL.of (s9 _ _ hla8)), rfl, _, rfl, ?_⟩
    rw [hrl, hul]
    by_cases he : (layer parts wires (i + 1)).length = (layer parts wires i).length
    · rw [decide_eq_true (by rw [he])]
      exact iteT (kyes (layer_ring he hL) H9 (s14.trans s49))
    · rw [decide_eq_false (fun z => he (by
        injection z with z
        omega))]
      refine iteF ?_
      walk_at "nx"
      refine ⟨_, rfl, ?_⟩
      dsimp only [gName]
      have hle : (layer parts wires (i + 1)).length ≤ (layer parts wires i).length := List.length_filter_le _ _
      exact ⟨_, by omega, i + 1, D2, rs, _, _, _, rfl, rfl, s49, hrs, hrt⟩

end
end K82

set_option maxRecDepth 100000
set_option maxHeartbeats 4000000
namespace Ly
open PySem PySem.Spec PyProof.Rows L2
section
variable {X : Cx} {x x2 n : Str} {c c2 : Value} {i : Nat} {body suite suite2 : List Stmt} {b₀ b₁ : Stmt} {np np2 pos pos' pos2 : Pos} {tb : WX → TS} {ts ts2 : Addr → Value → Option Addr → TS} {Wout : WX}
theorem ps_try_keep2 (hs : X.stack = X.env :: X.outer) (hf : X.env.frame = some X.env.locals) (hN : X.N.Nodup) (hi : X.N[i]? = some n) (hln : X.env.kindOf n = some .local) (hc : Names X x c) (hc2 : Names X x2 c2) (tk : Takes X Wout)
    (hb : ∀ (W : WX) (pn : List (Addr × Obj)) (xe : Value → Shared → Prop), Takes (X.tr pn xe) W → PassesOwn (model X.prog X.w) X.A X.env xe → PSs (X.tr pn xe) body (tb W))
    (hsu : ∀ (a : Addr) (cls : Value) (d : Option Addr) (pn : List (Addr × Obj)), PSs (X.suite a pn) (b₀ :: suite) (ts a cls d))
    (hsu2 : ∀ (a : Addr) (oe : Obj) (cls : Value) (d : Option Addr) (pn : List (Addr × Obj)), Zc cls d oe → (∃ vs, oe.data = .fields vs) → PSs (X.suite a ((a, oe) :: pn)) (b₁ :: suite2) (ts2 a cls d)) :
    PS X (.Try body [.ExceptHandler (some (.Name x np)) (some n) (b₀ :: suite) pos', .ExceptHandler (some (.Name x2 np2)) none (b₁ :: suite2) pos2] [] [] pos) (fun D σ H => tb (wKp X.K c i ts (wMany X.K Wout D [(c2, ts2)]) D) D σ H) := by
  refine ⟨fun pins s σ H D I h => ?_⟩
  have ok := I.ok
  have hfr : X.A.frames = some (X.env :: X.outer) := by rw [ok.frames, hs]
  have hloc : Loc X.env.scope n := .inl hln
  refine wpAny_Try_except ?_
  refine wpAny_mono ((hb (wKp X.K c i ts (wMany X.K Wout D [(c2, ts2)]) D) (X.pn ++ pins) (fun e s₁ => wpAny (model X.prog X.w) X.A (noteFrame e X.env) (fun _ s₂ => wpAny (model X.prog X.w) X.A (setFlight e none) (fun _ s₃ =>
    wpAny (model X.prog X.w) X.A (handleBy e X.env [.ExceptHandler (some (.Name x np)) (some n) (b₀ :: suite) pos', .ExceptHandler (some (.Name x2 np2)) none (b₁ :: suite2) pos2]) (SP X pins D) X.xe s₃) X.xe s₂) X.xe s₁) (fun u s' xx => ?_) PassesOwn.looking).run [] s σ H D (I.toTry _) h) (fun f s1 hsp => ?_) (fun e s1 he => he)
  · obtain ⟨a, B, sI, pins', σ', H', cls, d, rfl, J', nb, up, sky, na, os, ag, b, hb1, hyes, hno⟩ := xx
    have J : Inv X pins σ' H' sI := J'.ofTry ok
    have sky' : Sky B (X.env :: X.outer) a (Zc cls d) X.env.locals s'.heap := by rw [← hs]; exact sky
    show wpAny (model X.prog X.w) X.A (noteFrame (.ref a) X.env) _ _ _
    refine Sky.land Zc.steady hfr hf sky' fun h3 fl3 up3 => ?_
    have J3 : Inv X pins σ' H' { s' with heap := h3 } := J.landed nb fl3.1 (up.trans up3) os ag
    obtain ⟨oe3, vs3, he3, hz3, hd3⟩ := fl3.there
    have nfr : a ∉ frs (X.env :: X.outer) := fun hm => by
      obtain ⟨_, o', e', hnf⟩ := fl3.2.2.1.mem hm
      rw [he3] at e'; cases e'
      exact hnf _ hd3
    have nL : a ≠ X.env.locals := fun z => nfr (List.mem_filterMap.mpr ⟨X.env, List.mem_cons_self, by rw [hf, z]⟩)
    have nF : a ∉ X.fs := fun hm => by
      obtain ⟨e, he, q⟩ := List.mem_filterMap.mp hm
      exact nfr (List.mem_filterMap.mpr ⟨e, List.mem_cons_of_mem _ he, q⟩)
    have old : ∀ b o, sI.heap.get? b = some o → b ≠ a := fun b o e z => by
      have q := nb b o e (by rw [z]; show a ∉ frs X.stack; rw [hs]; exact nfr)
      rw [z, fl3.2.1] at q
      cases q
    have S3 := J3.suite he3 hd3 na nL nF
    refine wpAny_handleBy_cons (codeAny_handlers_test ?_) (by intro q; cases q)
    have LT : PySem.W.Looks (model X.prog X.w) h3 (typeOf (.ref a)) cls := fun A Q E s k q => wpAny_typeOf_ref (k _ _ he3) (by rw [hz3.1]; exact q)
    have LM := PySem.W.exm_one (M := model X.prog X.w) (J3.kIn) LT hb1
    have test : ∀ {Q : Value → Shared → Prop} {E : Value → Shared → Prop}, Q c { s' with heap := h3 } → wpAny (model X.prog X.w) (X.A.mark (some (.ref a))) (eval (.Name x np) X.env) Q E { s' with heap := h3 } := fun {Q E} q => by
      obtain ⟨hg, hdbg, hm | ⟨hm, hv, hnn⟩⟩ := hc
      · exact ld_glob (X := X.suite a ((a, oe3) :: (X.pn ++ pins))) S3 hg hm q hdbg
      · exact ld_blt (X := X.suite a ((a, oe3) :: (X.pn ++ pins))) S3 hg hm hv q hnn hdbg
    refine test (LM.here ?_)
    cases b with
    | true =>
      refine codeAny_handlers_suite_as ?_
      refine HandSPX.lands_againZ fl3 fun h4 fl4 up4 => ?_
      have J4 : Inv X pins σ' H' { s' with heap := h4 } := J.landed nb fl4.1 ((up.trans up3).trans up4) os ag
      obtain ⟨oe4, vs4, he4, hz4, hd4⟩ := fl4.there
      have J5 : Inv X pins σ' (upd H' a (ExT cls d a)) { s' with heap := h4 } := track J4 na nL (fun p hp => old _ _ (J.pin p hp).1)
        (fun y c' e z => by
          obtain ⟨v, q⟩ := J.cell y c' e
          obtain ⟨o, q1, _⟩ := q
          exact old _ _ q1 z)
        (fun b u e hx => by
          obtain ⟨o', e'⟩ := J.base.there b u e hx
          exact old _ _ e') (exT_ok he4 hz4 hd4)
      refine store_ok (X := X.suite a (X.pn ++ pins)) (v := .ref a) (toSuite J5 a) hN hi hloc rfl (fun s5 S5 => ?_) (.inr hln)
      refine wpAny_mono ((hsu a cls d (X.pn ++ pins)).run [] s5 _ _ _ S5 (hyes rfl a na)) (fun f s6 hsp => ?_) (fun _ _ z => False.elim z)
      have end_ : ∀ {σ6 : L2.St} {H6 : Hp} {Q : Shared → Prop}, Inv (X.suite a (X.pn ++ pins)) [] σ6 H6 s6 → (∀ s7, Inv X pins (σ6.set i none) H6 s7 → Q s7) →
          wpAny (model X.prog X.w) X.A (do bindName X.env n .none; unbindBehindTheSuite X.env n pos') (fun _ s7 => Q s7) X.xe s6 := fun {σ6 H6 Q} S6 hq => gone_ok (fromSuite S6 ok) hN hi hln hq
      cases f with
      | next =>
        obtain ⟨σ6, H6, S6, q6⟩ := hsp
        exact end_ S6 fun s7 J7 => ⟨_, _, J7, q6⟩
      | brk =>
        obtain ⟨σ6, H6, S6, q6⟩ := hsp
        exact end_ S6 fun s7 J7 => ⟨_, _, J7, q6⟩
      | cont =>
        obtain ⟨σ6, H6, S6, q6⟩ := hsp
        exact end_ S6 fun s7 J7 => ⟨_, _, J7, q6⟩
      | ret u =>
        obtain ⟨v6, σ6, H6, S6, r6, q6⟩ := hsp
        exact end_ S6 fun s7 J7 => ⟨_, _, _, J7, r6, q6⟩
    | false =>
      show wpAny _ X.A (handleBy (.ref a) X.env [.ExceptHandler (some (.Name x2 np2)) none (b₁ :: suite2) pos2]) _ _ _
      obtain ⟨b2, hb2, hyes2, hno2⟩ := hno rfl
      refine wpAny_handleBy_cons (codeAny_handlers_test ?_) (by intro q; cases q)
      have LM2 := PySem.W.exm_one (M := model X.prog X.w) (J3.kIn) LT hb2
      have test2 : ∀ {Q : Value → Shared → Prop} {E : Value → Shared → Prop}, Q c2 { s' with heap := h3 } → wpAny (model X.prog X.w) (X.A.mark (some (.ref a))) (eval (.Name x2 np2) X.env) Q E { s' with heap := h3 } := fun {Q E} q => by
        obtain ⟨hg, hdbg, hm | ⟨hm, hv, hnn⟩⟩ := hc2
        · exact ld_glob (X := X.suite a ((a, oe3) :: (X.pn ++ pins))) S3 hg hm q hdbg
        · exact ld_blt (X := X.suite a ((a, oe3) :: (X.pn ++ pins))) S3 hg hm hv q hnn hdbg
      refine test2 (LM2.here ?_)
      cases b2 with
      | true =>
        refine codeAny_handlers_suite ?_
        refine HandSPX.lands_againZ fl3 fun h4 fl4 up4 => ?_
        have J4 : Inv X pins σ' H' { s' with heap := h4 } := J.landed nb fl4.1 ((up.trans up3).trans up4) os ag
        obtain ⟨oe4, vs4, he4, hz4, hd4⟩ := fl4.there
        refine wpAny_mono ((hsu2 a oe4 cls d (X.pn ++ pins) hz4 ⟨_, hd4⟩).run [] _ _ H' _ (J4.suite he4 hd4 na nL nF) (hyes2 rfl a na)) (fun f s6 hsp => ?_) (fun _ _ z => False.elim z)
        cases f with
        | ret u =>
          obtain ⟨v6, σ6, H6, S6, r6, q6⟩ := hsp
          exact ⟨_, _, _, S6.unsuite ok, r6, q6⟩
        | _ =>
          obtain ⟨σ6, H6, S6, q6⟩ := hsp
          exact ⟨_, _, S6.unsuite ok, q6⟩
      | false =>
      show wpAny _ X.A (handleBy (.ref a) X.env []) _ _ _
      refine wpAny_handleBy_nil ?_
      obtain ⟨k1, k2, k3, oe, vs, T, oT, ts', he, hz, hd, h1, hr⟩ := id fl3
      unfold PySem.passOn
      refine wpAny_bind (wpAny_field he hd h1 ?_)
      rw [if_neg (show ¬ ((Value.ref T == Value.none) = true) from by simp)]
      have fin : wpAny (model X.prog X.w) X.A (setFlight (.ref a) X.env.frame) (fun _ s4 => wpAny (model X.prog X.w) X.A (throw (.ref a) : Sem Flow) (SP X pins D) X.xe s4) X.xe { s' with heap := h3 } := by
        rw [hf]
        refine HandSPX.setFlight_upZ fl3 fun h4 hh4 up4 => wpAny_throw (tk _ _ ?_)
        exact ⟨a, B, sI, pins, σ', H', cls, d, rfl, J, nb, (up.trans up3).trans up4, .inr (.inr (by rw [hs]; exact hh4)), na, os, ag, hno2 rfl⟩
      first
        | exact wpAny_bind (wpAny_pure (wpAny_bind fin))
        | exact wpAny_bind fin
  · cases f with
    | next =>
      obtain ⟨σ', H', J', q⟩ := hsp
      exact wpAny_execs_nil ⟨σ', H', J'.ofTry ok, q⟩
    | brk =>
      obtain ⟨σ', H', J', q⟩ := hsp
      exact ⟨σ', H', J'.ofTry ok, q⟩
    | cont =>
      obtain ⟨σ', H', J', q⟩ := hsp
      exact ⟨σ', H', J'.ofTry ok, q⟩
    | ret u =>
      obtain ⟨v, σ', H', J', r, q⟩ := hsp
      exact ⟨v, σ', H', J'.ofTry ok, r, q⟩
end
end Ly

set_option maxRecDepth 100000
set_option maxHeartbeats 4000000
namespace K82
open PySem L2 Ly Nd Nt Od
local macro_rules | `(tactic| walk_at "nx") => `(tactic| dsimp only [tNext])
section
variable {P : Program} {w : World} {K : PySem.W.Frag} {mg : Str → Option Value} {base : Heap} {ad : Adr}
def LineL (K : PySem.W.Frag) (H G : Hp) (parts : List Part) (wires : List Nt.Wir) (l : Addr) (v : V) (fdd fr vl : Addr) (s0 : Nt.Prt) (m : Nat) (σ : L2.St) (H' : Hp) : Prop := ∃ (i : Nat) (u : V), m = 17 - i ∧ σ = [some (.ref l), some v, some (.ref fdd), some (.ref fr), some (.ref vl), some u] ∧ Same H H' ∧ SameX vl G H' ∧ H' vl = some (.lst ((valsTo parts wires s0 i).map V.int)) ∧
  Tp K H' u (dPort (sAt wires s0 i)) ∧ ∀ j, j < i → isDel parts (sAt wires s0 j).1 = true
def spLineL (K : PySem.W.Frag) : Sp := fun vs H Q _ => ∃ (l : Addr) (v : V) (ins outs : List Str) (parts : List Part) (wires : List Nt.Wir) (t : Nt.Prt), vs = [.ref l, v] ∧ NetAt K H l ins outs parts wires ∧ NetOk ins outs parts wires ∧ ¬ Ring parts wires ∧ t ∈ tgts outs parts ∧ Tp K H v (dPort t) ∧ LineTold K H parts wires t Q
theorem sc_law_line : FnScope ["net", "target", "fed", "first", "values", "source"] ["net", "target"] (defScope s_law_line) := ⟨rfl, rfl, rfl, by decide +kernel, rfl, by decide +kernel, by decide +kernel⟩
theorem ok_lineL {f : Addr} {fd fdF : FuncData} (F : Fun K "_law_line" "_law_line" s_law_line f fd) (T : Txt K w mg ad) (G_law_first : FnOk P w K mg base CX0 1 ad.f_law_first fdF ["net"] (spFirst P w K)) (b_law_first : Binds K fdF ["net"] []) : FnOk P w K mg base CX0 2 f fd ["net", "target"] (spLineL K) := by
  refine F.ok sc_law_line (fun vs H Q E h => ?_) (fun cdv A outer s H vs Q E hr h => ?_)
  · obtain ⟨l, v, ins, outs, parts, wires, t, rfl, _⟩ := h
    rfl
  · obtain ⟨l, v, ins, outs, parts, wires, t, rfl, hn, ok, hring, ht, hv, k⟩ := h
    refine ⟨_, (pss_cons (ps_par3 (i := 2) (j := 3) (l := 4) (by rfl) sc_law_line.nd rfl rfl rfl (by decide) (by decide) (by decide) rfl rfl rfl (pa_cons (pe_callTy (call_dictNf P w K rfl (hu10 hr)) (by rfl) T.n_dict (by decide +kernel) (pa_cons (pe_ix (ix_listK K) (pv 0) pe_int (fun _ _ => rfl)) pa_nil)) (pa_cons (pe_call G_law_first (hr.mono (by decide)) rfl T.g__law_first T.k__law_first b_law_first .nil pass0 (pa_cons (pv 0) pa_nil)) (pa_cons (pe_lst pa_nil) pa_nil))) (by rfl))
    (pss_cons (ps_set (i := 5) sc_law_line.nd rfl (Or.inl rfl) (pe_dgetN P w K (hu9 hr) (pv 2) (pv 1) (fun _ _ => rfl)))
    (pss_cons (ps_while PassesOwn.never (pt_cmp (pc_dinN P w K (hu9 hr) (pe_ix (ix_tupK K) (pv 5) pe_int (fun _ _ => rfl)) (pv 3)))
    (pss_cons (ps_expr (pe_bm PySem.F.plainAttrs_list PySem.F.slot_list_append PySem.F.type_list_append mt_append (pv 4) (pa_cons (pe_dgetN P w K (hu9 hr) (pv 3) (pe_ix (ix_tupK K) (pv 5) pe_int (fun _ _ => rfl)) (fun _ _ => rfl)) pa_nil)))
    (pss_one (ps_set (i := 5) sc_law_line.nd rfl (Or.inl rfl) (pe_dgetN P w K (hu9 hr) (pv 2) (pe_tupF (pa_cons (pe_ix (ix_tupK K) (pv 5) pe_int (fun _ _ => rfl)) (pa_cons pe_str pa_nil))) (fun _ _ => rfl))))))
    (pss_one (ps_ret (pe_tupF (pa_cons (pv 5) (pa_cons (pv 4) pa_nil)))))))), ?_⟩
    have h16 := ok.p16
    have htw : t ∈ wires.map (·.1) := by rw [ok.wt]; exact ht
    have hn0 := hn
    obtain ⟨a, b, c, d, us, ws, hl, ha, hb, hc, hp, hd, hw⟩ := hn
    have hS : SqL K H l [.ref a, .ref b, .ref c, .ref d] := SqL.of hl
    obtain ⟨kvs, hkv, hsk⟩ := wires_kv hw
    have hkn : (kvs.map (·.1)).Nodup := by
      rw [al_keys (f := fun y : Nt.Wir => kPort y.1) (R := fun v y => Tp K H v (dPort y.2)) hsk]
      have := map_nodup (f := kPort) (fun x y e => kPort_inj e) ok.tn
      rwa [List.map_map] at this
    refine ⟨_, rfl, l, _, _, _, rfl, rfl, hS, atI_nat (j := 3) rfl, d, ws, kvs, rfl, .inr hd, hkv, hkn, fun fdd H3 hfd0 s3 hfd => ?_⟩
    refine ⟨_, rfl, l, ins, outs, parts, wires, rfl, hn0.same s3, ok.tx, ok.p16, ok.pn, fun fr H4 s4 hfr0 hfr => ⟨szl (Nat.zero_le _), fun vl hvl => ?_⟩⟩
    refine ⟨_, _, _, rfl, ?_⟩
    dsimp only
    have s34 := s3.trans s4
    have s5 := same_new (o := .lst []) hvl
    have uG : Same (upd H4 vl (.lst [])) (upd H4 vl (.lst [])) := Same.refl _
    have sG := s5.trans uG
    have hvlG' : upd H4 vl (.lst []) vl = some (.lst []) := upd_same
    generalize hG : upd H4 vl (.lst []) = G at s5 uG sG hvlG'
    have s0G := s34.trans sG
    have hvl0 : H vl = none := s34.free hvl
    have hfdG := (hfd.same s4).same sG
    have hfrG := hfr.same sG
    have hskG : SrcAt K G kvs wires := paired_imp (fun _ _ z => ⟨z.1, z.2.same s0G⟩) hsk
    have hvlG : G vl = some (.lst []) := hvlG'
    obtain ⟨sv, hsv, hst⟩ := src_at hskG ok.tn htw
    refine ⟨_, rfl, _, rfl, fdd, kvs, kPort t, _, rfl, hfdG.dn, key_port (hv.same s0G), hsv, ?_⟩
    dsimp only [gName]
    refine ⟨LineL K H G parts wires l v fdd fr vl (srcF wires t), ⟨_, 0, sv, rfl, rfl, s0G, sx_of (Same.refl _), hvlG, hst, fun j hj => absurd hj (Nat.not_lt_zero _)⟩, ?_⟩
    rintro m σ H6 ⟨i, u, rfl, rfl, s6, x6, hl6, hu, hdel⟩
    have hi := line_few hring hdel
    obtain ⟨sa, su, rfl, hsa, hsu⟩ := port_inv hu
    have hfr6 := hfrG.sx x6 (notT_lst hvlG) (hfrG.ne_lst hvlG)
    have hfd6 := hfdG.sx x6 (notT_lst hvlG) (hfdG.ne_lst hvlG)
    refine ⟨_, rfl, sa, _, _, _, rfl, rfl, hsa, atI_nat (j := 0) rfl, _, rfl, fr, firsts parts, kPath (sAt wires (srcF wires t) i).1, rfl, hfr6.dn, key_path hsu, _, rfl, ?_⟩
    rw [firsts_some]
    cases hd : isDel parts (sAt wires (srcF wires t) i).1 with
    | false =>
      refine iteF ⟨_, rfl, _, rfl, szl (show 2 ≤ 100000 by decide), fun c G4 u4 k4 => ?_⟩
      exact k i c vl (.ref sa) G4 (s6.trans u4) hvl0 k4 (hu.same u4) (u4 _ _ hl6) ⟨hdel, hd⟩
    | true =>
      refine iteT ⟨fun σ' H' => ∃ m', m' < 17 - i ∧ LineL K H G parts wires l v fdd fr vl (srcF wires t) m' σ' H', fun σ' H' h => h, ?_⟩
      refine ⟨_, rfl, .inl ⟨rfl, _, SqL.of hl6⟩, _, rfl, _, rfl, sa, _, _, _, rfl, rfl, hsa, atI_nat (j := 0) rfl, fr, firsts parts, kPath (sAt wires (srcF wires t) i).1, _, rfl, hfr6.dn, key_path hsu, firsts_at ok.pn hd, vl, _, _, rfl, rfl, hl6, szt (by rw [List.length_map, valsTo_len]; omega), ?_⟩
      have e4 : (valsTo parts wires (srcF wires t) i).map V.int ++ [V.int (constOf parts (sAt wires (srcF wires t) i).1)] = (valsTo parts wires (srcF wires t) (i + 1)).map V.int := by
        rw [valsTo_succ, List.map_append]
        rfl
      rw [e4]
      have x7 : SameX vl H6 (upd H6 vl (.lst ((valsTo parts wires (srcF wires t) (i + 1)).map V.int))) := sx_put (sx_of (Same.refl _))
      have s7 : Same H (upd H6 vl (.lst ((valsTo parts wires (srcF wires t) (i + 1)).map V.int))) := same_mut s6 hvl0
      have hl7 : upd H6 vl (.lst ((valsTo parts wires (srcF wires t) (i + 1)).map V.int)) vl = some (.lst ((valsTo parts wires (srcF wires t) (i + 1)).map V.int)) := upd_same
      have nt := notT_lst hl6
      have hsa7 := sqt_sx' x7 nt hsa
      have hsu7 := hsu.sx x7 nt
      have hfd7 := hfd6.sx x7 nt (hfd6.ne_lst hl6)
      generalize upd H6 vl (.lst ((valsTo parts wires (srcF wires t) (i + 1)).map V.int)) = H7 at x7 s7 hl7 hsa7 hsu7 hfd7
      have hsk7 : SrcAt K H7 kvs wires := paired_imp (fun _ _ z => ⟨z.1, z.2.same s7⟩) hsk
      obtain ⟨sv2, hsv2, hst2⟩ := src_at hsk7 ok.tn (del_tgt ok hd)
      refine ⟨_, rfl, _, rfl, sa, _, _, _, rfl, rfl, hsa7, atI_nat (j := 0) rfl, szl (show 2 ≤ 100000 by decide), fun c1 G7 u7 k7 => ⟨fdd, kvs, kPort ((sAt wires (srcF wires t) i).1, "in"), _, rfl, (hfd7.same u7).dn, key_port (tp_port k7.sqt (hsu7.same u7)), hsv2, ?_⟩⟩
      dsimp only [gName]
      refine ⟨17 - (i + 1), by omega, i + 1, sv2, rfl, rfl, s7.trans u7, fun b o nb e => u7 _ _ (x7 b o nb (x6 b o nb e)), u7 _ _ hl7, hst2.same u7, fun j hj => ?_⟩
      rcases Nat.lt_or_ge j i with c | c
      · exact hdel j c
      · obtain rfl : j = i := by omega
        exact hd
def spWords : Sp := fun vs H Q _ => vs = [] ∧ ∀ (l : Addr) (ws : List Str) (H' : Hp), Same H H' → H l = none → H' l = some (.lst (ws.map V.str)) → ws ≠ [] → ws.length ≤ 100 → (∀ x ∈ ws, x ∈ portNames) → Q (.ref l) H'
theorem sc_law_delayed : FnScope [] [] (defScope s_law_delayed) := ⟨rfl, rfl, rfl, by decide +kernel, rfl, by decide +kernel, by decide +kernel⟩
theorem ok_delayed {f : Addr} {fd : FuncData} (F : Fun K "_law_delayed" "_law_delayed" s_law_delayed f fd) (T : Txt K w mg ad) : FnOk P w K mg base CX0 1 f fd [] spWords := by
  refine F.ok sc_law_delayed (fun vs H Q E h => ?_) (fun cdv A outer s H vs Q E hr h => ?_)
  · obtain ⟨rfl, _⟩ := h
    rfl
  · obtain ⟨rfl, k⟩ := h
    refine ⟨_, (pss_one (ps_ret (pe_lst (pa_cons pe_str (pa_cons pe_str (pa_cons pe_str (pa_cons pe_str (pa_cons pe_str (pa_cons pe_str (pa_cons pe_str (pa_cons pe_str (pa_cons pe_str (pa_cons pe_str (pa_cons pe_str (pa_cons pe_str pa_nil))))))))))))))), ?_⟩
    refine ⟨szl (show 12 ≤ 100000 by decide), fun l hl => ?_⟩
    exact k l ["add", "mul", "sub", "pick", "divide", "equal", "const", "delay", "delay", "delay", "delay", "delay"] _ (same_new hl) hl upd_same (by simp) (by decide) (by decide +kernel)
def spAsked (P : Program) (w : World) (K : PySem.W.Frag) (C CP : Addr) : Sp := fun vs H Q _ => ∃ (x : Addr) (v : V) (ins outs : List Str) (parts : List Part) (wires : List Nt.Wir) (n : NetV), vs = [.ref x, v] ∧ NetC P w K C CP H x ins outs parts wires n ∧ NetOk ins outs parts wires ∧
  ((∃ t, t ∈ linedT outs parts ∧ Tp K H v (dPort t) ∧ (¬ Ring parts wires → LineTold K H parts wires t Q) ∧ (Ring parts wires → ∀ H', Same H H' → Q (.str "ring") H')) ∨
   (∃ p d, Oz.Dz K p H v d ∧ Oz.inP (linedT outs parts) d = false ∧ ∀ l H', Same H H' → H l = none → l ≠ sysModules → H' l = some (.lst [.str "port", v]) → Q (.ref l) H'))
theorem sc_law_asked : FnScope ["made", "target", "error"] ["made", "target"] (defScope s_law_asked) := ⟨rfl, rfl, rfl, by decide +kernel, rfl, by decide +kernel, by decide +kernel⟩
theorem ok_asked {f : Addr} {fd fdL : FuncData} (F : Fun K "_law_asked" "_law_asked" s_law_asked f fd) (T : Txt K w mg ad) (G_line_of : FnOk P w K mg base (L2.CX P w) 4 ad.f_line_of fdL ["net", "target"] (spLineOf P w K ad.C_Net ad.C_Primitive ad.C_UnknownPort ad.C_DelayRing)) (b_line_of : Binds K fdL ["net", "target"] []) :
    FnOk P w K mg base CX0 5 f fd ["made", "target"] (spAsked P w K ad.C_Net ad.C_Primitive) := by
  refine F.ok sc_law_asked (fun vs H Q E h => ?_) (fun cdv A outer s H vs Q E hr h => ?_)
  · obtain ⟨x, v, ins, outs, parts, wires, n, rfl, _⟩ := h
    rfl
  · obtain ⟨x, v, ins, outs, parts, wires, n, rfl, N, ok, cases2⟩ := h
    refine ⟨_, (pss_one (ps_try_keep2 (i := 2) (tb := fun W => tRet (tCallS (spLineOf P w K ad.C_Net ad.C_Primitive ad.C_UnknownPort ad.C_DelayRing) (WE W) (tCons (tVar 0) (tCons (tVar 1) tNil)))) (ts := fun a cls d => tRet (Oz.tLstZ (tCons (tC (.str "port")) (tCons (tXt ad.C_UnknownPort "name" (tVar 2)) tNil)))) (ts2 := fun a cls d => tRet (tC (.str "ring"))) (Wout := fun _ _ _ _ => False) rfl rfl sc_law_asked.nd rfl rfl ⟨rfl, by decide, Or.inl T.g_UnknownPort⟩ ⟨rfl, by decide, Or.inl T.g_DelayRing⟩ takes0
      (fun W pn xe tk _ => pss_one (ps_ret (by exact (pe_callS G_line_of (hr.mono (by decide)) rfl T.g_line_of T.k_line_of b_line_of (fun σ => passAt tk σ) (by exact (pa_cons (pv 0) (pa_cons (pv 1) pa_nil)))))))
      (fun a cls d pn => pss_one (ps_ret (by exact (Oz.pe_lstZ (pa_cons pe_str (pa_cons (pe_xt T.xf_UnknownPort T.no_UnknownPort_name (pv 2)) pa_nil))))))
      (fun a oe cls d pn hz hv => pss_one (ps_ret pe_str)))), ?_⟩
    refine ⟨_, rfl, _, rfl, x, v, ins, outs, parts, wires, n, rfl, N, ok, ?_⟩
    rcases cases2 with ⟨t, ht, hv, kno, kyes⟩ | ⟨p, d, hd, hin, kx⟩
    · refine .inl ⟨t, ht, hv, kno, fun hrg H' s1 => ⟨false, T.en_DelayRing_UnknownPort, fun z => (by cases z), fun _ => ⟨true, T.es_DelayRing, fun _ a ha => kyes hrg H' s1, fun z => (by cases z)⟩⟩⟩
    · refine .inr ⟨p, d, hd, hin, fun dd H' s1 hdd => ⟨true, T.es_UnknownPort, fun _ a ha => ?_, fun z => (by cases z)⟩⟩
      have s2 := s1.trans (same_new (o := ExT (.ref ad.C_UnknownPort) (some dd) a) ha)
      refine ⟨_, rfl, a, dd, [("name", v)], v, rfl, upd_same, (same_new ha) _ _ hdd, rfl, szl (show 2 ≤ 100000 by decide), fun l hl hm => ?_⟩
      exact kx l _ (s2.trans (same_new hl)) (s2.free hl) hm upd_same

end
end K82

set_option maxRecDepth 100000
set_option maxHeartbeats 4000000
namespace K82
open PySem L2 Ly Nd Nt Od
local macro_rules | `(tactic| walk_at "nx") => `(tactic| dsimp only [tNext])
section
variable {P : Program} {w : World} {K : PySem.W.Frag} {mg : Str → Option Value} {base : Heap} {ad : Adr}
def OD1 : List PyData := [.none, .str "o", .tuple [], .tuple [.tuple [], .str "zz"], .list [.tuple [], .str "o"], .tuple [.tuple [.str "zz"], .str "a"], .int 0, .dict [], .tuple [.tuple [], .tuple []], .tuple [.tuple [.str "a"], .str "c", .str "b"]]
def OD2 : List PyData := [.tuple [.list [], .str "o"], .tuple [.tuple [.list [.str "a"]], .str "a"], .tuple [.tuple [.str "a"], .list []], .tuple [.list []], .tuple [.tuple [], .dict []]]
def rqB (d : PyData) : Bool := d.showable && decide (d.depth ≤ 5) && d.leavesShort 13 && decide (d.weight ≤ 1000)
theorem rq_of {d : PyData} (h : rqB d = true) : Rq 5 1000 d := by
  unfold rqB at h
  rw [Bool.and_eq_true, Bool.and_eq_true, Bool.and_eq_true, decide_eq_true_iff, decide_eq_true_iff] at h
  exact ⟨h.1.1.1, h.1.1.2, h.1.2, h.2⟩
theorem od1_ok : ∀ d ∈ OD1, Rq 5 1000 d := fun d hd => rq_of (List.all_eq_true.mp (show OD1.all rqB = true by decide +kernel) d hd)
theorem od2_ok : ∀ d ∈ OD2, Rq 5 1000 d := fun d hd => rq_of (List.all_eq_true.mp (show OD2.all rqB = true by decide +kernel) d hd)
theorem rep_nm {z : Str} (h : nameOk z = true) : Rep 0 10 (.str z) := rep_okS (okS_name h) (Nat.le_trans (nameOk_len h).2 (by decide))
theorem rep_port {q : Nt.Prt} (h1 : q.1.length ≤ 3) (h2 : ∀ x ∈ q.1, nameOk x = true) (h3 : nameOk q.2 = true) : Rep 2 100 (dPort q) := by
  have a1 : Reps 0 ((10 + 1) * (q.1.map PyData.str).length) (q.1.map PyData.str) := reps_all fun d hd => by
    obtain ⟨x, hx, rfl⟩ := List.mem_map.mp hd
    exact rep_nm (h2 x hx)
  have a2 : Reps 0 40 (q.1.map PyData.str) := a1.mono (Nat.le_refl _) (by rw [List.length_map]; omega)
  exact rep_tup (reps_cons (rep_tup a2) (reps_cons ((rep_nm h3).mono (Nat.zero_le _) (Nat.le_refl _)) (reps_nil (w := 0)) (by decide : 10 + 1 + 0 ≤ 11)) (by decide))
theorem rep_rq {n m : Nat} {d : PyData} (h : Rep n m d) (hn : n ≤ 5) (hm : m ≤ 1000) : Rq 5 1000 d := ⟨h.sh, Nat.le_trans h.dp hn, h.lv, Nat.le_trans h.wt hm⟩
mutual
theorem dz_more {p : Addr → Prop} {H : Hp} {D : Addr} (hD : H D = none) : ∀ {d : PyData} {v : V}, Oz.Dz K p H v d → Oz.Dz K (fun b => p b ∨ b = D) H v d
  | _, _, .non => .non
  | _, _, .int i => .int i
  | _, _, .str x => .str x
  | _, _, .lst h1 n m h2 => .lst h1 (fun z => z.elim n fun e => by rw [e, hD] at h1; cases h1) m (dz_moreA hD h2)
  | _, _, .tup h1 h2 => .tup h1 (dz_moreA hD h2)
  | _, _, .d0 h => .d0 h
theorem dz_moreA {p : Addr → Prop} {H : Hp} {D : Addr} (hD : H D = none) : ∀ {ds : List PyData} {vs : List V}, Oz.DzAll K p H vs ds → Oz.DzAll K (fun b => p b ∨ b = D) H vs ds
  | _, _, .nil => .nil
  | _, _, .cons h1 h2 => .cons (dz_more hD h1) (dz_moreA hD h2)
end
mutual
theorem dz_weak {p p' : Addr → Prop} {H : Hp} (f : ∀ b, p' b → p b) : ∀ {d : PyData} {v : V}, Oz.Dz K p H v d → Oz.Dz K p' H v d
  | _, _, .non => .non
  | _, _, .int i => .int i
  | _, _, .str x => .str x
  | _, _, .lst h1 n m h2 => .lst h1 (fun z => n (f _ z)) m (dz_weakA f h2)
  | _, _, .tup h1 h2 => .tup h1 (dz_weakA f h2)
  | _, _, .d0 h => .d0 h
theorem dz_weakA {p p' : Addr → Prop} {H : Hp} (f : ∀ b, p' b → p b) : ∀ {ds : List PyData} {vs : List V}, Oz.DzAll K p H vs ds → Oz.DzAll K p' H vs ds
  | _, _, .nil => .nil
  | _, _, .cons h1 h2 => .cons (dz_weak f h1) (dz_weakA f h2)
end
def withW (parts : List Part) (wd : Str) : List Nt.Prt := parts.map fun x => (x.1, wd)
theorem name_comp {H : Hp} {pf l f1 : Addr} {x3 : Option V} {ins outs : List Str} {parts : List Part} {wires : List Nt.Wir} (hn : NetAt K H l ins outs parts wires) (h8 : ins.length ≤ 8) {Q : VK} (q : ∀ D rs H', Same H H' → H D = none → H' D = some (.lst rs) → TpAll K H' rs ((inPorts ins).map dPort) → Q (.ref D) H') :
    tLc (iTup K (tOp (rIxL K) (tVar 1) (tC (.int 0)))) (gName 4) tYes (tTupF (tCons (tTupF tNil) (tCons (tVar 4) tNil))) [4] [some (.ref pf), some (.ref l), some (.ref f1), x3, none, none, none, none] H Q := by
  obtain ⟨a, b, c, d, us, ws, hl, ha, hb, hc, hp, hd, hw⟩ := hn
  have hS : SqL K H l [.ref a, .ref b, .ref c, .ref d] := SqL.of hl
  refine ⟨_, rfl, l, _, _, _, rfl, rfl, hS, atI_nat (j := 0) rfl, a, rfl, ⟨_, ha.sqt⟩, fun D hD => run_it (walk_tup (K := K) (a := a) (xs := ins.map V.str)) (fun i H' => Same H H' ∧ ∃ rs, H' D = some (.lst rs) ∧ TpAll K H' rs ((inPorts (ins.take i)).map dPort)) ⟨same_new hD, [], upd_same, .nil⟩ (fun i H' _ h => same_sqt h.1 ha.sqt) ?_ ?_⟩
  · rintro i y H2 H' hi ⟨s2, rs, hrs, hrt⟩ ⟨rfl, hy⟩
    obtain ⟨hi2, e⟩ := List.getElem?_eq_some_iff.mp hy
    rw [List.length_map] at hi2
    rw [List.getElem_map] at e
    subst e
    have hrl := TpAll.len hrt
    unfold inPorts at hrl
    rw [List.length_map, List.length_map, List.length_take] at hrl
    refine ⟨rfl, ?_⟩
    dsimp only [tYes]
    refine iteT ⟨szl (Nat.zero_le _), fun c1 G6 u6 k6 => ⟨_, rfl, szl (show 2 ≤ 100000 by decide), fun c2 G7 u7 k7 => ?_⟩⟩
    have hrs7 := u7 _ _ (u6 _ _ hrs)
    refine ⟨rs, hrs7, szt (by omega), same_mut ((s2.trans u6).trans u7) hD, rs ++ [.ref c2], upd_same, ?_⟩
    have e9 : inPorts (ins.take (i + 1)) = inPorts (ins.take i) ++ [([], ins[i])] := by
      unfold inPorts
      rw [List.take_add_one, List.getElem?_eq_getElem hi2, List.map_append]
      rfl
    rw [e9, List.map_append]
    exact TpAll.sx (TpAll.snoc (TpAll.same hrt (u6.trans u7)) (tp_port (p := []) k7.sqt (tp_path (p := []) (k6.same u7).sqt))) (sx_put (sx_of (Same.refl G7))) (notT_lst hrs7)
  · rintro H2 ⟨s2, rs, hrs, hrt⟩
    rw [List.length_map, List.take_length] at hrt
    exact q D rs H2 s2 hD hrs hrt
theorem path_comp {H : Hp} {pf l f1 : Addr} {x3 : Option V} {ins outs : List Str} {parts : List Part} {wires : List Nt.Wir} (hn : NetAt K H l ins outs parts wires) (h16 : parts.length ≤ 16) (wd : Str) {Q : VK} (q : ∀ D rs H', Same H H' → H D = none → H' D = some (.lst rs) → TpAll K H' rs ((withW parts wd).map dPort) → Q (.ref D) H') :
    tLc (iTup K (tOp (rIxL K) (tVar 1) (tC (.int 2)))) (gTup K 2 (gCons (gName 5) (gCons (gName 6) gNil))) tYes (tTupF (tCons (tVar 5) (tCons (tC (.str wd)) tNil))) [5, 6] [some (.ref pf), some (.ref l), some (.ref f1), x3, none, none, none, none] H Q := by
  obtain ⟨a, b, c, d, us, ws, hl, ha, hb, hc, hp, hd, hw⟩ := hn
  have hS : SqL K H l [.ref a, .ref b, .ref c, .ref d] := SqL.of hl
  have hul := parts_len hp
  refine ⟨_, rfl, l, _, _, _, rfl, rfl, hS, atI_nat (j := 2) rfl, c, rfl, ⟨_, hc.sqt⟩, fun D hD => run_it (walk_tup (K := K) (a := c) (xs := us)) (fun i H' => Same H H' ∧ ∃ rs, H' D = some (.lst rs) ∧ TpAll K H' rs ((withW (parts.take i) wd).map dPort)) ⟨same_new hD, [], upd_same, .nil⟩ (fun i H' _ h => same_sqt h.1 hc.sqt) ?_ ?_⟩
  · rintro i y H2 H' hi ⟨s2, rs, hrs, hrt⟩ ⟨rfl, hy⟩
    obtain ⟨x, hx, r, u, rfl, hq, hu⟩ := parts_get hp hy
    have hrl := TpAll.len hrt
    unfold withW at hrl
    rw [List.length_map, List.length_map, List.length_take] at hrl
    refine ⟨r, _, rfl, same_sqt s2 hq, rfl, _, _, rfl, _, _, rfl, rfl, ?_⟩
    dsimp only [gName]
    refine ⟨rfl, ?_⟩
    dsimp only [tYes]
    refine iteT ⟨_, rfl, szl (show 2 ≤ 100000 by decide), fun c2 G7 u7 k7 => ?_⟩
    have hrs7 := u7 _ _ hrs
    refine ⟨rs, hrs7, szt (by omega), same_mut (s2.trans u7) hD, rs ++ [.ref c2], upd_same, ?_⟩
    have e9 : withW (parts.take (i + 1)) wd = withW (parts.take i) wd ++ [(x.1, wd)] := by
      unfold withW
      rw [List.take_add_one, hx, List.map_append]
      rfl
    rw [e9, List.map_append]
    exact TpAll.sx (TpAll.snoc (TpAll.same hrt u7) (tp_port k7.sqt (hu.same (s2.trans u7)))) (sx_put (sx_of (Same.refl G7))) (notT_lst hrs7)
  · rintro H2 ⟨s2, rs, hrs, hrt⟩
    rw [hul, List.take_length] at hrt
    exact q D rs H2 s2 hD hrs hrt
theorem inP_none (ps : List Nt.Prt) : Oz.inP ps .none = false := by
  unfold Oz.inP
  rw [List.any_eq_false]
  intro q _ h
  cases h
def spOdd (K : PySem.W.Frag) : Sp := fun vs H Q _ => ∃ (pf l : Addr) (a b : Int) (ins outs : List Str) (parts : List Part) (wires : List Nt.Wir), vs = [.ref pf, .ref l] ∧ FeedAt H pf a b ∧ NetAt K H l ins outs parts wires ∧ NetOk ins outs parts wires ∧ l ≠ pf ∧
  ∀ (v : V) (d : PyData) (H' : Hp) (a' b' : Int), SameX pf H H' → FeedAt H' pf a' b' → Oz.Dz K (fun x => x = pf) H' v d → Oz.inP (linedT outs parts) d = false → Rq 5 1000 d → Q v H'
theorem sc_law_odd : FnScope ["feed", "net", "lined", "some", "name", "path", "text", "one"] ["feed", "net"] (defScope s_law_odd) := ⟨rfl, rfl, rfl, by decide +kernel, rfl, by decide +kernel, by decide +kernel⟩
theorem ok_odd {f : Addr} {fd fdL fdp : FuncData} (F : Fun K "_law_odd" "_law_odd" s_law_odd f fd) (T : Txt K w mg ad) (G_law_lined : FnOk P w K mg base CX0 3 ad.f_law_lined fdL ["net"] (spLined P w K)) (b_law_lined : Binds K fdL ["net"] [])
    (G_law_pick : FnOk P w K mg base CX0 2 ad.f_law_pick fdp ["feed", "choices"] (spPick K)) (b_law_pick : Binds K fdp ["feed", "choices"] []) : FnOk P w K mg base CX0 4 f fd ["feed", "net"] (spOdd K) := by
  refine F.ok sc_law_odd (fun vs H Q E h => ?_) (fun cdv A outer s H vs Q E hr h => ?_)
  · obtain ⟨pf, l, a, b, ins, outs, parts, wires, rfl, _⟩ := h
    rfl
  · obtain ⟨pf, l, fa, fb, ins, outs, parts, wires, rfl, hf, hn, ok, nlp, k⟩ := h
    refine ⟨_, (pss_cons (ps_set (i := 2) sc_law_odd.nd rfl (Or.inr rfl) (pe_call G_law_lined (hr.mono (by decide)) rfl T.g__law_lined T.k__law_lined b_law_lined .nil pass0 (pa_cons (pv 1) pa_nil)))
    (pss_cons (ps_set (i := 3) sc_law_odd.nd rfl (Or.inl rfl) (Oz.pe_lstZ (pa_cons pe_non (pa_cons pe_str (pa_cons (pe_tupF pa_nil) (pa_cons (pe_tupF (pa_cons (pe_tupF pa_nil) (pa_cons pe_str pa_nil))) (pa_cons (Oz.pe_lstZ (pa_cons (pe_tupF pa_nil) (pa_cons pe_str pa_nil))) (pa_cons (pe_tupF (pa_cons (pe_tupF (pa_cons pe_str pa_nil)) (pa_cons pe_str pa_nil))) (pa_cons pe_int (pa_cons pe_dnewK (pa_cons (pe_tupF (pa_cons (pe_tupF pa_nil) (pa_cons (pe_tupF pa_nil) pa_nil))) (pa_cons (pe_tupF (pa_cons (pe_tupF (pa_cons pe_str pa_nil)) (pa_cons pe_str (pa_cons pe_str pa_nil)))) pa_nil))))))))))))
    (pss_cons (ps_set (i := 3) sc_law_odd.nd rfl (Or.inl rfl) (pe_op op_cat (pv 3) (Oz.pe_lstZ (pa_cons (pe_tupF (pa_cons (Oz.pe_lstZ pa_nil) (pa_cons pe_str pa_nil))) (pa_cons (pe_tupF (pa_cons (pe_tupF (pa_cons (Oz.pe_lstZ (pa_cons pe_str pa_nil)) pa_nil)) (pa_cons pe_str pa_nil))) (pa_cons (pe_tupF (pa_cons (pe_tupF (pa_cons pe_str pa_nil)) (pa_cons (Oz.pe_lstZ pa_nil) pa_nil))) (pa_cons (pe_tupF (pa_cons (Oz.pe_lstZ pa_nil) pa_nil)) (pa_cons (pe_tupF (pa_cons (pe_tupF pa_nil) (pa_cons pe_dnewK pa_nil))) pa_nil))))))))
    (pss_cons (ps_set (i := 3) sc_law_odd.nd rfl (Or.inl rfl) (pe_op op_cat (pe_op op_cat (pv 3) (pe_lc (own := [("name", 4)]) rfl sc_law_odd.nd (pi_tupK K (pe_ix (ix_listK K) (pv 1) pe_int (fun _ _ => rfl))) (blkOk_by (own := [("name", 4)]) (N := ["feed", "net", "lined", "some", "name", "path", "text", "one"]) (sc := defScope s_law_odd) (by decide +kernel)) (fun _ _ _ _ _ => (pg_name (i := 4) sc_law_odd.nd rfl (Or.inl rfl))) (fun _ _ _ _ _ => pts_nil) (fun _ _ _ _ _ => (pe_tupF (pa_cons (pe_tupF pa_nil) (pa_cons (pv 4) pa_nil)))))) (pe_lc (own := [("path", 5), ("text", 6)]) rfl sc_law_odd.nd (pi_tupK K (pe_ix (ix_listK K) (pv 1) pe_int (fun _ _ => rfl))) (blkOk_by (own := [("path", 5), ("text", 6)]) (N := ["feed", "net", "lined", "some", "name", "path", "text", "one"]) (sc := defScope s_law_odd) (by decide +kernel)) (fun _ _ _ _ _ => (by exact (pg_tupK K (n := 2) (by rfl) (pgs_cons (pg_name (i := 5) sc_law_odd.nd rfl (Or.inl rfl)) (pgs_cons (pg_name (i := 6) sc_law_odd.nd rfl (Or.inl rfl)) pgs_nil))))) (fun _ _ _ _ _ => pts_nil) (fun _ _ _ _ _ => (pe_tupF (pa_cons (pv 5) (pa_cons pe_str pa_nil)))))))
    (pss_cons (ps_set (i := 3) sc_law_odd.nd rfl (Or.inl rfl) (pe_op op_cat (pe_op op_cat (pv 3) (pe_lc (own := [("path", 5), ("text", 6)]) rfl sc_law_odd.nd (pi_tupK K (pe_ix (ix_listK K) (pv 1) pe_int (fun _ _ => rfl))) (blkOk_by (own := [("path", 5), ("text", 6)]) (N := ["feed", "net", "lined", "some", "name", "path", "text", "one"]) (sc := defScope s_law_odd) (by decide +kernel)) (fun _ _ _ _ _ => (by exact (pg_tupK K (n := 2) (by rfl) (pgs_cons (pg_name (i := 5) sc_law_odd.nd rfl (Or.inl rfl)) (pgs_cons (pg_name (i := 6) sc_law_odd.nd rfl (Or.inl rfl)) pgs_nil))))) (fun _ _ _ _ _ => pts_nil) (fun _ _ _ _ _ => (pe_tupF (pa_cons (pv 5) (pa_cons pe_str pa_nil)))))) (pe_lc (own := [("path", 5), ("text", 6)]) rfl sc_law_odd.nd (pi_tupK K (pe_ix (ix_listK K) (pv 1) pe_int (fun _ _ => rfl))) (blkOk_by (own := [("path", 5), ("text", 6)]) (N := ["feed", "net", "lined", "some", "name", "path", "text", "one"]) (sc := defScope s_law_odd) (by decide +kernel)) (fun _ _ _ _ _ => (by exact (pg_tupK K (n := 2) (by rfl) (pgs_cons (pg_name (i := 5) sc_law_odd.nd rfl (Or.inl rfl)) (pgs_cons (pg_name (i := 6) sc_law_odd.nd rfl (Or.inl rfl)) pgs_nil))))) (fun _ _ _ _ _ => pts_nil) (fun _ _ _ _ _ => (pe_tupF (pa_cons (pv 5) (pa_cons pe_str pa_nil)))))))
    (pss_one (ps_ret (pe_call G_law_pick (hr.mono (by decide)) rfl T.g__law_pick T.k__law_pick b_law_pick .nil pass0 (pa_cons (pv 0) (pa_cons (pe_lc (own := [("one", 7)]) rfl sc_law_odd.nd (pi_listK K (pv 3)) (blkOk_by (own := [("one", 7)]) (N := ["feed", "net", "lined", "some", "name", "path", "text", "one"]) (sc := defScope s_law_odd) (by decide +kernel)) (fun _ _ _ _ _ => (pg_name (i := 7) sc_law_odd.nd rfl (Or.inl rfl))) (fun _ _ _ _ _ => (pts_one (pt_cmpR (Oz.op_notInZ K (hu65 hr)) (pv 7) (pv 2) (by rfl)))) (fun _ _ _ _ _ => (pv 7))) pa_nil)))))))))), ?_⟩
    have h16 := ok.p16
    have hi8 := ok.i8
    have npf : ∀ {G : Hp} {b : Addr}, Same H G → G b = none → b ≠ pf := fun s h e => by
      have := s _ _ hf.1
      rw [← e, h] at this
      cases this
    refine ⟨_, rfl, l, ins, outs, parts, wires, rfl, hn, ok, fun f1 ls H1 s1 hf10 hf1 hft => ?_⟩
    dsimp only [gName]
    -- the first ten
    refine asg (fun v H' => ∃ L vs, v = .ref L ∧ Same H1 H' ∧ H1 L = none ∧ H' L = some (.lst vs) ∧ Oz.DzAll K (fun x => x = pf) H' vs OD1) (fun Q' q => ?_) ?_
    · refine ⟨szl (Nat.zero_le _), fun c1 G1 u1 k1 => ⟨szl (Nat.zero_le _), fun c2 G2 u2 k2 => ⟨szl (show 2 ≤ 100000 by decide), fun c3 G3 u3 k3 => ⟨szl (Nat.zero_le _), fun c4 G4 u4 k4 => ⟨szl (show 2 ≤ 100000 by decide), fun l5 h5 m5 => ⟨szl (show 1 ≤ 100000 by decide), fun c6 G6 u6 k6 => ⟨szl (show 2 ≤ 100000 by decide), fun c7 G7 u7 k7 => ?_⟩⟩⟩⟩⟩⟩⟩
      refine fun d8 h8 => ?_
      refine ⟨szl (Nat.zero_le _), fun c9 G9 u9 k9 => ⟨szl (Nat.zero_le _), fun c10 G10 u10 k10 => ⟨szl (show 2 ≤ 100000 by decide), fun c11 G11 u11 k11 => ⟨szl (show 1 ≤ 100000 by decide), fun c12 G12 u12 k12 => ⟨szl (show 3 ≤ 100000 by decide), fun c13 G13 u13 k13 => ⟨szl (show 10 ≤ 100000 by decide), fun L hL mL => ?_⟩⟩⟩⟩⟩⟩
      have v5 := same_new (o := .lst [.ref c4, .str "o"]) h5
      have v8 := same_new (o := .dK []) h8
      have y4 := ((u1.trans u2).trans u3).trans u4
      have n5 := npf (s1.trans y4) h5
      have y13 := ((((((((y4.trans v5).trans u6).trans u7).trans v8).trans u9).trans u10).trans u11).trans u12).trans u13
      have z13 := same_new (o := .lst [V.non, V.str "o", V.ref c1, V.ref c3, V.ref l5, V.ref c7, V.int 0, V.ref d8, V.ref c11, V.ref c13]) hL
      have z12 := u13.trans z13
      have z11 := u12.trans z12
      have z10 := u11.trans z11
      have z9 := u10.trans z10
      have z8 := u9.trans z9
      have z7 := v8.trans z8
      have z6 := u7.trans z7
      have z5 := u6.trans z6
      have z4 := v5.trans z5
      have z3 := u4.trans z4
      have z2 := u3.trans z3
      have z1 := u2.trans z2
      have K1 := (k1.same z1).sqt (K := K)
      have K2 := (k2.same z2).sqt (K := K)
      have K3 := (k3.same z3).sqt (K := K)
      have K4 := (k4.same z4).sqt (K := K)
      have L5 := z5 _ _ upd_same
      have K6 := (k6.same z6).sqt (K := K)
      have K7 := (k7.same z7).sqt (K := K)
      have D8 := z8 _ _ upd_same
      have K9 := (k9.same z9).sqt (K := K)
      have K10 := (k10.same z10).sqt (K := K)
      have K11 := (k11.same z11).sqt (K := K)
      have K12 := (k12.same z12).sqt (K := K)
      have K13 := (k13.same z13).sqt (K := K)
      have hLn := y13.free hL
      refine q _ _ ⟨L, _, rfl, y13.trans z13, hLn, upd_same, ?_⟩
      exact .cons .non (.cons (.str _) (.cons (.tup K1 .nil) (.cons (.tup K3 (.cons (.tup K2 .nil) (.cons (.str _) .nil))) (.cons (.lst L5 n5 m5 (.cons (.tup K4 .nil) (.cons (.str _) .nil))) (.cons (.tup K7 (.cons (.tup K6 (.cons (.str _) .nil)) (.cons (.str _) .nil))) (.cons (.int 0) (.cons (.d0 D8) (.cons (.tup K11 (.cons (.tup K9 .nil) (.cons (.tup K10 .nil) .nil))) (.cons (.tup K13 (.cons (.tup K12 (.cons (.str _) .nil)) (.cons (.str _) (.cons (.str _) .nil)))) .nil)))))))))
    rintro _ H2 ⟨L1, vs1, rfl, s2, hL10, hL1, hz1⟩
    dsimp only [gName]
    have s02 := s1.trans s2
    -- five more
    refine asg (fun v H' => ∃ L vs, v = .ref L ∧ Same H2 H' ∧ H2 L = none ∧ H' L = some (.lst vs) ∧ Oz.DzAll K (fun x => x = pf) H' vs (OD1 ++ OD2)) (fun Q' q => ?_) ?_
    · refine ⟨_, rfl, szl (Nat.zero_le _), fun l1 h1 m1 => ⟨szl (show 2 ≤ 100000 by decide), fun c2 G2 u2 k2 => ⟨szl (show 1 ≤ 100000 by decide), fun l3 h3 m3 => ⟨szl (show 1 ≤ 100000 by decide), fun c4 G4 u4 k4 => ⟨szl (show 2 ≤ 100000 by decide), fun c5 G5 u5 k5 => ⟨szl (show 1 ≤ 100000 by decide), fun c6 G6 u6 k6 => ⟨szl (Nat.zero_le _), fun l7 h7 m7 => ⟨szl (show 2 ≤ 100000 by decide), fun c8 G8 u8 k8 => ⟨szl (Nat.zero_le _), fun l9 h9 m9 => ⟨szl (show 1 ≤ 100000 by decide), fun c10 G10 u10 k10 => ⟨szl (Nat.zero_le _), fun c11 G11 u11 k11 => ?_⟩⟩⟩⟩⟩⟩⟩⟩⟩⟩⟩
      refine fun d12 h12 => ⟨szl (show 2 ≤ 100000 by decide), fun c13 G13 u13 k13 => ⟨szl (show 5 ≤ 100000 by decide), fun L hL mL => ?_⟩⟩
      have v1 := same_new (o := .lst []) h1
      have v3 := same_new (o := .lst [.str "a"]) h3
      have v7 := same_new (o := .lst []) h7
      have v9 := same_new (o := .lst []) h9
      have v12 := same_new (o := .dK []) h12
      have y2 := v1.trans u2
      have y6 := (((y2.trans v3).trans u4).trans u5).trans u6
      have y8 := (y6.trans v7).trans u8
      have y13 := ((((y8.trans v9).trans u10).trans u11).trans v12).trans u13
      have n1 := npf s02 h1
      have n3 := npf (s02.trans y2) h3
      have n7 := npf (s02.trans y6) h7
      have n9 := npf (s02.trans y8) h9
      have z13 := same_new (o := .lst [V.ref c2, V.ref c5, V.ref c8, V.ref c10, V.ref c13]) hL
      have hL1' := (y13.trans z13) _ _ hL1
      refine ⟨L1, L, vs1, _, rfl, rfl, hL1', upd_same, ?_, fun g hg => ?_⟩
      · have := Oz.DzAll.len hz1
        rw [this]
        exact szl (show OD1.length + 5 ≤ 100000 by decide)
      have zz := same_new (o := .lst (vs1 ++ [V.ref c2, V.ref c5, V.ref c8, V.ref c10, V.ref c13])) hg
      replace z13 := z13.trans zz
      have z12 := u13.trans z13
      have z11 := v12.trans z12
      have z10 := u11.trans z11
      have z9 := u10.trans z10
      have z8 := v9.trans z9
      have z7 := u8.trans z8
      have z6 := v7.trans z7
      have z5 := u6.trans z6
      have z4 := u5.trans z5
      have z3 := u4.trans z4
      have z2 := v3.trans z3
      have z1 := u2.trans z2
      have A1 := z1 _ _ upd_same
      have K2 := (k2.same z2).sqt (K := K)
      have A3 := z3 _ _ upd_same
      have K4 := (k4.same z4).sqt (K := K)
      have K5 := (k5.same z5).sqt (K := K)
      have K6 := (k6.same z6).sqt (K := K)
      have A7 := z7 _ _ upd_same
      have K8 := (k8.same z8).sqt (K := K)
      have A9 := z9 _ _ upd_same
      have K10 := (k10.same z10).sqt (K := K)
      have K11 := (k11.same z11).sqt (K := K)
      have D12 := z12 _ _ upd_same
      have K13 := (k13.same z13).sqt (K := K)
      have yF := y13.trans z13
      have hgn := (y13.trans (same_new hL)).free hg
      refine q _ _ ⟨g, _, rfl, yF, hgn, upd_same, (Oz.DzAll.same yF hz1).app ?_⟩
      exact .cons (.tup K2 (.cons (.lst A1 n1 m1 .nil) (.cons (.str _) .nil))) (.cons (.tup K5 (.cons (.tup K4 (.cons (.lst A3 n3 m3 (.cons (.str _) .nil)) .nil)) (.cons (.str _) .nil))) (.cons (.tup K8 (.cons (.tup K6 (.cons (.str _) .nil)) (.cons (.lst A7 n7 m7 .nil) .nil))) (.cons (.tup K10 (.cons (.lst A9 n9 m9 .nil) .nil)) (.cons (.tup K13 (.cons (.tup K11 .nil) (.cons (.d0 D12) .nil))) .nil))))
    rintro _ H3 ⟨L2, vs2, rfl, s3, hL20, hL2, hz2⟩
    dsimp only [gName]
    have s03 := s02.trans s3
    have hv2 : vs2.length = 15 := Oz.DzAll.len hz2
    have hn3 := hn.same s03
    have wl : ∀ wd, ((withW parts wd).map dPort).length = parts.length := fun wd => by unfold withW; rw [List.length_map, List.length_map]
    have il : ((inPorts ins).map dPort).length = ins.length := by unfold inPorts; rw [List.length_map, List.length_map]
    refine asg (fun v H' => ∃ L vs, v = .ref L ∧ Same H3 H' ∧ H3 L = none ∧ H' L = some (.lst vs) ∧ Oz.DzAll K (fun x => x = pf) H' vs (OD1 ++ OD2 ++ (inPorts ins).map dPort ++ (withW parts "in").map dPort)) (fun Q' q => ?_) ?_
    · refine ⟨_, rfl, ?_⟩
      refine name_comp (x3 := some (.ref L2)) hn3 hi8 fun D rs H4 s4 hD hrs hrt => ?_
      have hrl := TpAll.len hrt
      refine ⟨L2, D, vs2, rs, rfl, rfl, s4 _ _ hL2, hrs, szl (by omega), fun g hg => ?_⟩
      have s5 := same_new (o := .lst (vs2 ++ rs)) hg
      have s45 := s4.trans s5
      have hz5 := (Oz.DzAll.same s45 hz2).app (Oz.TpAll.dz (p := fun x => x = pf) (TpAll.same hrt s5))
      have hg5 : upd H4 g (.lst (vs2 ++ rs)) g = some (.lst (vs2 ++ rs)) := upd_same
      generalize upd H4 g (.lst (vs2 ++ rs)) = H5 at s5 s45 hz5 hg5
      refine path_comp (x3 := some (.ref L2)) (hn3.same s45) h16 "in" fun D6 rs6 H6 s6 hD6 hrs6 hrt6 => ?_
      have hrl6 := TpAll.len hrt6
      have e1 := wl "in"
      refine ⟨g, D6, _, rs6, rfl, rfl, s6 _ _ hg5, hrs6, szl (by rw [List.length_append]; omega), fun g2 hg2 => ?_⟩
      have s7 := same_new (o := .lst (vs2 ++ rs ++ rs6)) hg2
      have s67 := s6.trans s7
      exact q _ _ ⟨g2, _, rfl, s45.trans s67, (s45.trans s6).free hg2, upd_same, (Oz.DzAll.same s67 hz5).app (Oz.TpAll.dz (TpAll.same hrt6 s7))⟩
    rintro _ H4 ⟨L3, vs3, rfl, s4, hL30, hL3, hz3⟩
    dsimp only [gName]
    have hn4 := hn3.same s4
    have hv3 : vs3.length ≤ 40 := by
      have h1 := Oz.DzAll.len hz3
      rw [List.length_append, List.length_append, il, wl] at h1
      have e2 : (OD1 ++ OD2).length = 15 := rfl
      omega
    refine asg (fun v H' => ∃ L vs, v = .ref L ∧ Same H4 H' ∧ H4 L = none ∧ H' L = some (.lst vs) ∧ Oz.DzAll K (fun x => x = pf) H' vs (OD1 ++ OD2 ++ (inPorts ins).map dPort ++ (withW parts "in").map dPort ++ (withW parts "out").map dPort ++ (withW parts "c").map dPort)) (fun Q' q => ?_) ?_
    · refine ⟨_, rfl, ?_⟩
      refine path_comp (x3 := some (.ref L3)) hn4 h16 "out" fun D rs H5 s5 hD hrs hrt => ?_
      have hrl := TpAll.len hrt
      have e1 := wl "out"
      refine ⟨L3, D, vs3, rs, rfl, rfl, s5 _ _ hL3, hrs, szl (by omega), fun g hg => ?_⟩
      have s6 := same_new (o := .lst (vs3 ++ rs)) hg
      have s56 := s5.trans s6
      have hz6 := (Oz.DzAll.same s56 hz3).app (Oz.TpAll.dz (p := fun x => x = pf) (TpAll.same hrt s6))
      have hg6 : upd H5 g (.lst (vs3 ++ rs)) g = some (.lst (vs3 ++ rs)) := upd_same
      generalize upd H5 g (.lst (vs3 ++ rs)) = H6 at s6 s56 hz6 hg6
      refine path_comp (x3 := some (.ref L3)) (hn4.same s56) h16 "c" fun D7 rs7 H7 s7 hD7 hrs7 hrt7 => ?_
      have hrl7 := TpAll.len hrt7
      have e2 := wl "c"
      refine ⟨g, D7, _, rs7, rfl, rfl, s7 _ _ hg6, hrs7, szl (by rw [List.length_append]; omega), fun g2 hg2 => ?_⟩
      have s8 := same_new (o := .lst (vs3 ++ rs ++ rs7)) hg2
      have s78 := s7.trans s8
      exact q _ _ ⟨g2, _, rfl, s56.trans s78, (s56.trans s7).free hg2, upd_same, (Oz.DzAll.same s78 hz6).app (Oz.TpAll.dz (TpAll.same hrt7 s8))⟩
    rintro _ H5 ⟨L4, vs4, rfl, s5, hL40, hL4, hz4⟩
    dsimp only [gName]
    have hpn : ∀ x ∈ parts, ∀ wd : Str, nameOk wd = true → Rq 5 1000 (dPort (x.1, wd)) := fun x hx wd hw => rep_rq (rep_port (q := (x.1, wd)) (ok.pp x hx).2.1 (ok.pp x hx).2.2 hw) (by decide) (by decide)
    have hwq : ∀ wd : Str, nameOk wd = true → ∀ d ∈ (withW parts wd).map dPort, Rq 5 1000 d := fun wd hw d hd => by
      obtain ⟨q, hq, rfl⟩ := List.mem_map.mp hd
      obtain ⟨x, hx, rfl⟩ := List.mem_map.mp hq
      exact hpn x hx wd hw
    have hrq : ∀ d ∈ OD1 ++ OD2 ++ (inPorts ins).map dPort ++ (withW parts "in").map dPort ++ (withW parts "out").map dPort ++ (withW parts "c").map dPort, Rq 5 1000 d := fun d hd => by
      rcases List.mem_append.mp hd with hd | hd
      · rcases List.mem_append.mp hd with hd | hd
        · rcases List.mem_append.mp hd with hd | hd
          · rcases List.mem_append.mp hd with hd | hd
            · exact (List.mem_append.mp hd).elim (od1_ok d) (od2_ok d)
            · obtain ⟨q, hq, rfl⟩ := List.mem_map.mp hd
              obtain ⟨n, hn, rfl⟩ := List.mem_map.mp hq
              exact rep_rq (rep_port (q := ([], n)) (by simp) (fun x hx => (by cases hx)) (ok.nm n (List.mem_append_left _ hn))) (by decide) (by decide)
          · exact hwq "in" (by decide +kernel) d hd
        · exact hwq "out" (by decide +kernel) d hd
      · exact hwq "c" (by decide +kernel) d hd
    have hv4 : vs4.length ≤ 80 := by
      have h1 := Oz.DzAll.len hz4
      rw [List.length_append, List.length_append, List.length_append, List.length_append, il, wl, wl, wl] at h1
      have e2 : (OD1 ++ OD2).length = 15 := rfl
      omega
    have hfst : ∃ r, vs4 = V.non :: r := by
      cases hz4 with
      | cons h1 h2 => cases h1; exact ⟨_, rfl⟩
    have hpos : 0 < vs4.length := by
      obtain ⟨r, rfl⟩ := hfst
      exact Nat.succ_pos _
    have hnil0 : vs4[0]? = some V.non := by
      obtain ⟨r, rfl⟩ := hfst
      rfl
    have s05 := (s03.trans s4).trans s5
    have s15 := ((s2.trans s3).trans s4).trans s5
    have okl : ∀ q ∈ linedT outs parts, OkP q := fun q hq => ok.okT q (List.mem_filter.mp hq).1
    refine ⟨_, rfl, _, rfl, L4, rfl, ⟨_, SqL.of hL4⟩, fun D hD => run_it (walk_list (K := K) (a := L4) (xs := vs4)) (fun i H' => Same H5 H' ∧ ∃ rs, H' D = some (.lst rs) ∧ rs.length ≤ i ∧ (∀ v ∈ rs, ∃ d, Oz.Dz K (fun b => b = pf ∨ b = D) H' v d ∧ Oz.inP (linedT outs parts) d = false ∧ Rq 5 1000 d) ∧ (0 < i → 0 < rs.length)) ⟨same_new hD, [], upd_same, Nat.le_refl _, fun v hv => (by cases hv), fun h => absurd h (Nat.lt_irrefl _)⟩ (fun i H' _ h => SqL.of (h.1 _ _ hL4)) ?_ ?_⟩
    · rintro i y H6 H' hi ⟨s6, rs, hrs, hrl, hrd, hrp⟩ ⟨rfl, hy⟩
      obtain ⟨d, hd, hyd⟩ := Oz.DzAll.get (dz_moreA hD hz4) hy
      have hyd6 := Oz.Dz.same s6 hyd
      dsimp only [gName]
      refine ⟨rfl, ?_⟩
      refine ⟨_, rfl, _, rfl, _, d, f1, ls, linedT outs parts, hyd6, rfl, SqL.of ((s15.trans s6) _ _ hf1), TpAll.same hft (s15.trans s6), okl, _, rfl, ?_⟩
      cases hin : (linedT outs parts).any fun q => PyData.eqv (dPort q) d with
      | true =>
        refine iteF ⟨s6, rs, hrs, by omega, hrd, fun _ => ?_⟩
        rcases Nat.eq_zero_or_pos i with h0 | h0
        · subst h0
          rw [hnil0] at hy
          cases hy
          cases hyd
          have := inP_none (linedT outs parts)
          unfold Oz.inP at this
          rw [hin] at this
          cases this
        · exact hrp h0
      | false =>
        refine iteT ⟨_, rfl, rs, hrs, szt (by omega), same_mut s6 hD, rs ++ [y], upd_same, by rw [List.length_append, List.length_singleton]; omega, fun v hv => ?_, fun _ => by rw [List.length_append, List.length_singleton]; omega⟩
        have sxD : SameX D H' (upd H' D (.lst (rs ++ [y]))) := sx_put (sx_of (Same.refl _))
        rcases List.mem_append.mp hv with hv | hv
        · obtain ⟨d2, h1, h2, h3⟩ := hrd v hv
          exact ⟨d2, Oz.Dz.sx sxD hrs (.inr rfl) h1, h2, h3⟩
        · rw [List.mem_singleton.mp hv]
          exact ⟨d, Oz.Dz.sx sxD hrs (.inr rfl) hyd6, hin, hrq d (List.mem_of_getElem? hd)⟩
    · rintro H6 ⟨s6, rs, hrs, hrl, hrd, hrp⟩
      have s06 := s05.trans s6
      have hf6 := feed_same s06 hf
      have nD : D ≠ pf := npf s05 hD
      refine ⟨pf, D, rs, fa, fb, rfl, hf6, SqL.of hrs, nD, hrp hpos, by omega, fun v a1 b1 hv hf7 => ?_⟩
      obtain ⟨d, h1, h2, h3⟩ := hrd v hv
      have sx7 : SameX pf H6 (upd H6 pf (.lst [.int a1, .int b1])) := sx_put (sx_of (Same.refl H6))
      exact k v d _ _ _ (fun b u nb e => sx7 b u nb (s06 b u e)) hf7 (Oz.Dz.sx (p := fun x => x = pf) sx7 hf6.1 rfl (dz_weak (fun b e => .inl e) h1)) h2 h3

end
end K82

set_option maxRecDepth 100000
set_option maxHeartbeats 4000000
namespace K82
open PySem L2 Ly Nd Nt Od
local macro_rules | `(tactic| walk_at "nx") => `(tactic| dsimp only [tNext])
section
variable {P : Program} {w : World} {K : PySem.W.Frag} {mg : Str → Option Value} {base : Heap} {ad : Adr}
theorem nt_to (xs : List V) (b : Nat) : cutV xs none (some (b : Int)) = xs.take b := by
  have := cut_any id xs b
  simpa using this
theorem nt_from (xs : List V) (b : Nat) : cutV xs (some (b : Int)) none = xs.drop b := by
  unfold cutV
  rw [HT.sIx_nat, HT.sIx_none]
  rcases Nat.le_total b xs.length with h | h
  · rw [Nat.min_eq_left h, List.take_of_length_le (by rw [List.length_drop]; exact Nat.le_refl _)]
  · rw [Nat.min_eq_right h, List.drop_of_length_le (Nat.le_refl _), List.drop_of_length_le h]
    simp
theorem sc_law_turned : FnScope ["feed", "parts", "at", "found"] ["feed", "parts"] (defScope s_law_turned) := ⟨rfl, rfl, rfl, by decide +kernel, rfl, by decide +kernel, by decide +kernel⟩
theorem ok_turned {f : Addr} {fd fdt : FuncData} (F : Fun K "_law_turned" "_law_turned" s_law_turned f fd) (T : Txt K w mg ad) (G_law_take : FnOk P w K mg base CX0 1 ad.f_law_take fdt ["feed", "size"] spTake) (b_law_take : Binds K fdt ["feed", "size"] []) : FnOk P w K mg base CX0 2 f fd ["feed", "parts"] (spTurned K) := by
  refine F.ok sc_law_turned (fun vs H Q E h => ?_) (fun cdv A outer s H vs Q E hr h => ?_)
  · obtain ⟨p, l, us, parts, a, b, rfl, _⟩ := h
    rfl
  · obtain ⟨p, l, us, parts, a, b, rfl, hf, hl, nlp, hp, h16, k⟩ := h
    refine ⟨_, (pss_cons (ps_set (i := 2) sc_law_turned.nd rfl (Or.inl rfl) (pe_call G_law_take (hr.mono (by decide)) rfl T.g__law_take T.k__law_take b_law_take .nil pass0 (pa_cons (pv 0) (pa_cons (pe_op op_add (pe_callB (call_lenK K) (by rfl) T.n_len (by decide +kernel) (pa_cons (pv 1) pa_nil)) pe_int) pa_nil))))
    (pss_cons (ps_set (i := 3) sc_law_turned.nd rfl (Or.inl rfl) (pe_op op_cat (pe_slice (sl_listK K) (pv 1) (po_some (pv 2)) po_none) (pe_slice (sl_listK K) (pv 1) po_none (po_some (pv 2)))))
    (pss_one (ps_ret (pe_ifExp (pt_cmpR op_eq (pe_call G_law_take (hr.mono (by decide)) rfl T.g__law_take T.k__law_take b_law_take .nil pass0 (pa_cons (pv 0) (pa_cons pe_int pa_nil))) pe_int (nomark _)) (pe_revL (pv 3)) (pv 3)))))), ?_⟩
    have hul : us.length = parts.length := by
      have := TpAll.len hp
      rw [List.length_map] at this
      exact this
    refine asg (fun v H' => ∃ d : Nat, v = .int d ∧ d ≤ parts.length ∧ SameX p H H' ∧ ∃ a b, FeedAt H' p a b) (fun Q' q => ?_) ?_
    · refine ⟨_, rfl, _, rfl, l, us, rfl, .inl (SqL.of hl), _, _, rfl, rfl, p, _, a, b, rfl, hf, by omega, by omega, fun d a1 b1 h0 h1 hf1 => ?_⟩
      obtain ⟨d, rfl⟩ := Int.eq_ofNat_of_zero_le h0
      exact q _ _ ⟨d, rfl, by omega, sx_put (sx_of (Same.refl H)), _, _, hf1⟩
    rintro _ H1 ⟨d, rfl, hd, s1, a1, b1, hf1⟩
    dsimp only [gName]
    have hl1 := s1 _ _ nlp hl
    refine ⟨_, rfl, _, rfl, _, rfl, l, us, rfl, SqL.of hl1, fun c1 hc1 => ?_⟩
    have t1 := same_new (o := .lst (cutV us (some (d : Nat)) none)) hc1
    refine ⟨_, rfl, _, rfl, _, rfl, l, us, rfl, SqL.of (t1 _ _ hl1), fun c2 hc2 => ?_⟩
    have t2 := same_new (o := .lst (cutV us none (some (d : Nat)))) hc2
    refine ⟨c1, c2, _, _, rfl, rfl, t2 _ _ upd_same, upd_same, szl ?_, fun c3 hc3 => ?_⟩
    · have h1 := cutV_length us (some (d : Nat)) none
      have h2 := cutV_length us none (some (d : Nat))
      omega
    dsimp only [gName]
    have t3 := same_new (o := .lst (cutV us (some (d : Nat)) none ++ cutV us none (some (d : Nat)))) hc3
    have e3 : upd (upd (upd H1 c1 (.lst (cutV us (some (d : Nat)) none))) c2 (.lst (cutV us none (some (d : Nat))))) c3 (.lst (cutV us (some (d : Nat)) none ++ cutV us none (some (d : Nat)))) c3 = some (.lst (cutV us (some (d : Nat)) none ++ cutV us none (some (d : Nat)))) := upd_same
    have n3 : c3 ≠ p := (ne_of_none ((t1.trans t2) _ _ hf1.1) hc3).symm
    have t13 := (t1.trans t2).trans t3
    revert t13 e3
    generalize upd (upd (upd H1 c1 (.lst (cutV us (some (d : Nat)) none))) c2 (.lst (cutV us none (some (d : Nat))))) c3 (.lst (cutV us (some (d : Nat)) none ++ cutV us none (some (d : Nat)))) = H2
    rw [nt_from, nt_to]
    intro e3 t13
    have hf2 := feed_same t13 hf1
    have hp1 : TpAll K H1 us (parts.map dPart) := TpAll.sx hp s1 (notT_lst hf.1)
    have hpar : (parts.drop d ++ parts.take d).Perm parts := by
      have := List.perm_append_comm (l₁ := parts.drop d) (l₂ := parts.take d)
      rw [List.take_append_drop] at this
      exact this
    refine ⟨_, rfl, p, 2, a1, b1, rfl, hf2, by decide, by decide, fun e a3 b3 h0 h1 hf3 => ⟨rfl, _, rfl, ?_⟩⟩
    have s3 : SameX p H2 (upd H2 p (.lst [.int a3, .int b3])) := sx_put (sx_of (Same.refl H2))
    have hp3 : TpAll K (upd H2 p (.lst [.int a3, .int b3])) (us.drop d ++ us.take d) ((parts.drop d ++ parts.take d).map dPart) := by
      rw [List.map_append, List.map_drop, List.map_take]
      exact TpAll.sx (((TpAll.same hp1 t13).drop d).app ((TpAll.same hp1 t13).take d)) s3 (notT_lst hf2.1)
    have e4 := s3 _ _ n3 e3
    have s13 := (s1.trans (sx_of t13)).trans s3
    revert hf3 hp3 e4 s13
    generalize upd H2 p (.lst [.int a3, .int b3]) = H3
    intro hf3 hp3 e4 s13
    refine ite2 (fun hc => ?_) (fun hc => ?_)
    · refine ⟨_, rfl, c3, _, rfl, SqL.of e4, fun c4 hc4 => ?_⟩
      have t4 := same_new (o := .lst (us.drop d ++ us.take d).reverse) hc4
      refine k c4 _ (parts.drop d ++ parts.take d).reverse _ a3 b3 (s13.trans (sx_of t4)) (feed_same t4 hf3) upd_same (ne_of_none hf3.1 hc4).symm ?_ ((List.reverse_perm _).trans hpar)
      have := (TpAll.same hp3 t4).rev
      rw [← List.map_reverse] at this
      exact this
    · exact ⟨_, rfl, k c3 _ _ _ a3 b3 s13 hf3 e4 n3 hp3 hpar⟩
def PS1 : List Pth := [["a"], ["b"], ["a", "b"], ["b", "a"], ["sum"], ["in"], ["out"], ["abcdefgh"], ["a", "b", "a"]]
def PS2 : List Pth := [["add"], ["x"], ["y"], ["c", "c"], ["old"], ["z", "delay"], ["q"]]
theorem ps_ok : (PS1 ++ PS2).length = 16 ∧ (PS1 ++ PS2).Nodup ∧ ∀ q ∈ PS1 ++ PS2, PathOk q := by
  refine ⟨by decide +kernel, by decide +kernel, fun q hq => ?_⟩
  have k : ((PS1 ++ PS2).all fun q => decide (1 ≤ q.length ∧ q.length ≤ 3) && q.all nameOk) = true := by decide +kernel
  have h := List.all_eq_true.mp k q hq
  rw [Bool.and_eq_true] at h
  obtain ⟨h1, h2⟩ := of_decide_eq_true h.1
  exact ⟨h1, h2, fun x hx => List.all_eq_true.mp h.2 x hx⟩
theorem sc_law_paths : FnScope ["feed", "many", "some", "at"] ["feed", "many"] (defScope s_law_paths) := ⟨rfl, rfl, rfl, by decide +kernel, rfl, by decide +kernel, by decide +kernel⟩
theorem ok_paths {f : Addr} {fd fdt : FuncData} (F : Fun K "_law_paths" "_law_paths" s_law_paths f fd) (T : Txt K w mg ad) (G_law_take : FnOk P w K mg base CX0 1 ad.f_law_take fdt ["feed", "size"] spTake) (b_law_take : Binds K fdt ["feed", "size"] []) : FnOk P w K mg base CX0 2 f fd ["feed", "many"] (spPathsL K) := by
  refine F.ok sc_law_paths (fun vs H Q E h => ?_) (fun cdv A outer s H vs Q E hr h => ?_)
  · obtain ⟨p, m, a, b, rfl, _⟩ := h
    rfl
  · obtain ⟨p, m, a, b, rfl, hf, hm, k⟩ := h
    refine ⟨_, (pss_cons (ps_set (i := 2) sc_law_paths.nd rfl (Or.inl rfl) (pe_lst (pa_cons (pe_tupF (pa_cons pe_str pa_nil)) (pa_cons (pe_tupF (pa_cons pe_str pa_nil)) (pa_cons (pe_tupF (pa_cons pe_str (pa_cons pe_str pa_nil))) (pa_cons (pe_tupF (pa_cons pe_str (pa_cons pe_str pa_nil))) (pa_cons (pe_tupF (pa_cons pe_str pa_nil)) (pa_cons (pe_tupF (pa_cons pe_str pa_nil)) (pa_cons (pe_tupF (pa_cons pe_str pa_nil)) (pa_cons (pe_tupF (pa_cons pe_str pa_nil)) (pa_cons (pe_tupF (pa_cons pe_str (pa_cons pe_str (pa_cons pe_str pa_nil)))) pa_nil)))))))))))
    (pss_cons (ps_set (i := 2) sc_law_paths.nd rfl (Or.inl rfl) (pe_op op_cat (pv 2) (pe_lst (pa_cons (pe_tupF (pa_cons pe_str pa_nil)) (pa_cons (pe_tupF (pa_cons pe_str pa_nil)) (pa_cons (pe_tupF (pa_cons pe_str pa_nil)) (pa_cons (pe_tupF (pa_cons pe_str (pa_cons pe_str pa_nil))) (pa_cons (pe_tupF (pa_cons pe_str pa_nil)) (pa_cons (pe_tupF (pa_cons pe_str (pa_cons pe_str pa_nil))) (pa_cons (pe_tupF (pa_cons pe_str pa_nil)) pa_nil))))))))))
    (pss_cons (ps_set (i := 3) sc_law_paths.nd rfl (Or.inl rfl) (pe_call G_law_take (hr.mono (by decide)) rfl T.g__law_take T.k__law_take b_law_take .nil pass0 (pa_cons (pv 0) (pa_cons (pe_callB (call_lenK K) (by rfl) T.n_len (by decide +kernel) (pa_cons (pv 2) pa_nil)) pa_nil))))
    (pss_one (ps_ret (pe_slice (sl_listK K) (pe_op op_cat (pe_slice (sl_listK K) (pv 2) (po_some (pv 3)) po_none) (pe_slice (sl_listK K) (pv 2) po_none (po_some (pv 3)))) po_none (po_some (pv 1)))))))), ?_⟩
    refine asg (fun v H' => ∃ (l : Addr) (us : List V), v = .ref l ∧ H' l = some (.lst us) ∧ TpAll K H' us (PS1.map dTx) ∧ Same H H') (fun Q' q => ?_) ?_
    · refine ⟨szl (show 1 ≤ 100000 by decide), fun c1 G1 u1 k1 => ⟨szl (show 1 ≤ 100000 by decide), fun c2 G2 u2 k2 => ⟨szl (show 2 ≤ 100000 by decide), fun c3 G3 u3 k3 => ⟨szl (show 2 ≤ 100000 by decide), fun c4 G4 u4 k4 => ⟨szl (show 1 ≤ 100000 by decide), fun c5 G5 u5 k5 => ⟨szl (show 1 ≤ 100000 by decide), fun c6 G6 u6 k6 => ⟨szl (show 1 ≤ 100000 by decide), fun c7 G7 u7 k7 => ⟨szl (show 1 ≤ 100000 by decide), fun c8 G8 u8 k8 => ⟨szl (show 3 ≤ 100000 by decide), fun c9 G9 u9 k9 => ⟨szl (show 9 ≤ 100000 by decide), fun l hl => ?_⟩⟩⟩⟩⟩⟩⟩⟩⟩⟩
      have z9 : Same _ _ := same_new (o := .lst [.ref c1, .ref c2, .ref c3, .ref c4, .ref c5, .ref c6, .ref c7, .ref c8, .ref c9]) hl
      have z8 := u9.trans z9
      have z7 := u8.trans z8
      have z6 := u7.trans z7
      have z5 := u6.trans z6
      have z4 := u5.trans z5
      have z3 := u4.trans z4
      have z2 := u3.trans z3
      have z1 := u2.trans z2
      have z0 := u1.trans z1
      exact q _ _ ⟨l, _, rfl, upd_same, .cons (tp_path (p := ["a"]) (k1.same z1).sqt) (.cons (tp_path (p := ["b"]) (k2.same z2).sqt) (.cons (tp_path (p := ["a", "b"]) (k3.same z3).sqt) (.cons (tp_path (p := ["b", "a"]) (k4.same z4).sqt) (.cons (tp_path (p := ["sum"]) (k5.same z5).sqt) (.cons (tp_path (p := ["in"]) (k6.same z6).sqt) (.cons (tp_path (p := ["out"]) (k7.same z7).sqt) (.cons (tp_path (p := ["abcdefgh"]) (k8.same z8).sqt) (.cons (tp_path (p := ["a", "b", "a"]) (k9.same z9).sqt) (.nil))))))))), z0⟩
    rintro _ H1 ⟨l1, us1, rfl, hl1, hp1, s1⟩
    dsimp only [gName]
    refine asg (fun v H' => ∃ (l : Addr) (us : List V), v = .ref l ∧ H' l = some (.lst us) ∧ TpAll K H' us ((PS1 ++ PS2).map dTx) ∧ Same H1 H') (fun Q' q => ?_) ?_
    · refine ⟨_, rfl, ⟨szl (show 1 ≤ 100000 by decide), fun c1 G1 u1 k1 => ⟨szl (show 1 ≤ 100000 by decide), fun c2 G2 u2 k2 => ⟨szl (show 1 ≤ 100000 by decide), fun c3 G3 u3 k3 => ⟨szl (show 2 ≤ 100000 by decide), fun c4 G4 u4 k4 => ⟨szl (show 1 ≤ 100000 by decide), fun c5 G5 u5 k5 => ⟨szl (show 2 ≤ 100000 by decide), fun c6 G6 u6 k6 => ⟨szl (show 1 ≤ 100000 by decide), fun c7 G7 u7 k7 => ⟨szl (show 7 ≤ 100000 by decide), fun l hl => ?_⟩⟩⟩⟩⟩⟩⟩⟩⟩
      have z7 : Same _ _ := same_new (o := .lst [.ref c1, .ref c2, .ref c3, .ref c4, .ref c5, .ref c6, .ref c7]) hl
      have z6 := u7.trans z7
      have z5 := u6.trans z6
      have z4 := u5.trans z5
      have z3 := u4.trans z4
      have z2 := u3.trans z3
      have z1 := u2.trans z2
      have z0 := u1.trans z1
      have hl9 := z0 _ _ hl1
      have hlen := TpAll.len hp1
      have hlen : us1.length = 9 := hlen
      refine ⟨l1, l, _, _, rfl, rfl, hl9, upd_same, szl (by rw [hlen]; exact (show 16 ≤ 100000 by decide)), fun l2 hl2 => ?_⟩
      have z9 : Same _ _ := same_new (o := .lst (us1 ++ [.ref c1, .ref c2, .ref c3, .ref c4, .ref c5, .ref c6, .ref c7])) hl2
      refine q _ _ ⟨l2, _, rfl, upd_same, ?_, z0.trans z9⟩
      rw [List.map_append]
      exact (TpAll.same hp1 (z0.trans z9)).app (TpAll.same (.cons (tp_path (p := ["add"]) (k1.same z1).sqt) (.cons (tp_path (p := ["x"]) (k2.same z2).sqt) (.cons (tp_path (p := ["y"]) (k3.same z3).sqt) (.cons (tp_path (p := ["c", "c"]) (k4.same z4).sqt) (.cons (tp_path (p := ["old"]) (k5.same z5).sqt) (.cons (tp_path (p := ["z", "delay"]) (k6.same z6).sqt) (.cons (tp_path (p := ["q"]) (k7.same z7).sqt) (.nil)))))))) z9)
    rintro _ H2 ⟨l2, us, rfl, hl2, hp2, s2⟩
    dsimp only [gName]
    obtain ⟨hn16, hnd, hpo⟩ := ps_ok
    revert hp2 hn16 hnd hpo
    generalize PS1 ++ PS2 = ps
    intro hp2 hn16 hnd hpo
    have hul : us.length = 16 := by
      have := TpAll.len hp2
      rw [List.length_map, hn16] at this
      exact this
    have s02 := s1.trans s2
    have hf2 := feed_same s02 hf
    refine asg (fun v H' => ∃ d : Nat, v = .int d ∧ SameX p H2 H' ∧ (∃ a b, FeedAt H' p a b) ∧ H' l2 = some (.lst us)) (fun Q' q => ?_) ?_
    · refine ⟨_, rfl, _, rfl, l2, us, rfl, .inl (SqL.of hl2), p, _, _, _, rfl, hf2, by omega, by omega, fun d a3 b3 h0 h1 hf3 => ?_⟩
      obtain ⟨d, rfl⟩ := Int.eq_ofNat_of_zero_le h0
      have n2 : l2 ≠ p := fun e => by
        rw [e, hf2.1] at hl2
        injection hl2 with hl2
        injection hl2 with hl2
        rw [← hl2] at hul
        cases hul
      exact q _ _ ⟨d, rfl, sx_put (sx_of (Same.refl H2)), ⟨_, _, hf3⟩, by rw [upd_ne n2]; exact hl2⟩
    rintro _ H3 ⟨d, rfl, s3, ⟨a3, b3, hf3⟩, hl3⟩
    dsimp only [gName]
    refine ⟨_, rfl, _, rfl, _, rfl, l2, us, rfl, SqL.of hl3, fun c1 hc1 => ?_⟩
    have t1 := same_new (o := .lst (cutV us (some (d : Nat)) none)) hc1
    refine ⟨_, rfl, _, rfl, _, rfl, l2, us, rfl, SqL.of (t1 _ _ hl3), fun c2 hc2 => ?_⟩
    have t2 := same_new (o := .lst (cutV us none (some (d : Nat)))) hc2
    refine ⟨c1, c2, _, _, rfl, rfl, t2 _ _ upd_same, upd_same, szl ?_, fun c3 hc3 => ?_⟩
    · have h1 := cutV_length us (some (d : Nat)) none
      have h2 := cutV_length us none (some (d : Nat))
      omega
    have t3 := same_new (o := .lst (cutV us (some (d : Nat)) none ++ cutV us none (some (d : Nat)))) hc3
    have t13 := (t1.trans t2).trans t3
    refine ⟨_, rfl, _, rfl, c3, _, rfl, SqL.of upd_same, fun c4 hc4 => ?_⟩
    have t4 := same_new (o := .lst (cutV (cutV us (some (d : Nat)) none ++ cutV us none (some (d : Nat))) none (some (m : Nat)))) hc4
    have t14 := t13.trans t4
    have hf4 := feed_same t14 hf3
    have n4 : c4 ≠ p := (ne_of_none (t13 _ _ hf3.1) hc4).symm
    have hp3 := TpAll.sx hp2 s3 (notT_lst hf2.1)
    have hpar : (ps.drop d ++ ps.take d).Perm ps := by
      have := List.perm_append_comm (l₁ := ps.drop d) (l₂ := ps.take d)
      rw [List.take_append_drop] at this
      exact this
    refine k c4 _ ((ps.drop d ++ ps.take d).take m) _ _ _ (((sx_of s02).trans s3).trans (sx_of t14)) hf4 upd_same n4 ?_ ?_ ?_ fun q hq => hpo q (hpar.mem_iff.mp (List.mem_of_mem_take hq))
    · have e : cutV (cutV us (some (d : Nat)) none ++ cutV us none (some (d : Nat))) none (some (m : Nat)) = (us.drop d ++ us.take d).take m := by rw [nt_to, nt_from, nt_to]
      have hup := (((TpAll.same hp3 t14).drop d).app ((TpAll.same hp3 t14).take d)).take m
      rw [← e] at hup
      rw [List.map_take, List.map_append, List.map_drop, List.map_take]
      exact hup
    · rw [List.length_take, hpar.length_eq, hn16]
      omega
    · exact (hpar.nodup_iff.mpr hnd).sublist (List.take_sublist _ _)

end
end K82

set_option maxRecDepth 100000
set_option maxHeartbeats 4000000
namespace K82
open PySem L2 Ly Nd Nt Od
local macro_rules | `(tactic| walk_at "nx") => `(tactic| dsimp only [tNext])
section
variable {P : Program} {w : World} {K : PySem.W.Frag} {mg : Str → Option Value} {base : Heap} {ad : Adr}
theorem sc_law_texts : FnScope ["feed", "words", "many", "is_free", "found", "at", "word"] ["feed", "words", "many", "is_free"] (defScope s_law_texts) := ⟨rfl, rfl, rfl, by decide +kernel, rfl, by decide +kernel, by decide +kernel⟩
theorem ok_texts {f : Addr} {fd fdp fdn : FuncData} (F : Fun K "_law_texts" "_law_texts" s_law_texts f fd) (T : Txt K w mg ad)
    (G_law_pick : FnOk P w K mg base CX0 2 ad.f_law_pick fdp ["feed", "choices"] (spPick K)) (b_law_pick : Binds K fdp ["feed", "choices"] [])
    (G_law_number : FnOk P w K mg base CX0 3 ad.f_law_number fdn ["feed"] spNumber) (b_law_number : Binds K fdn ["feed"] []) : FnOk P w K mg base CX0 4 f fd ["feed", "words", "many", "is_free"] spTexts := by
  refine F.ok sc_law_texts (fun vs H Q E h => ?_) (fun cdv A outer s H vs Q E hr h => ?_)
  · obtain ⟨p, l, ws, m, fr, a, b, rfl, _⟩ := h
    rfl
  · obtain ⟨p, l, ws, m, fr, a, b, rfl, hf, hl, nlp, hne, hl100, hws, hm, k⟩ := h
    refine ⟨_, (pss_cons (ps_set (i := 4) sc_law_texts.nd rfl (Or.inl rfl) (pe_lst pa_nil))
    (pss_cons (ps_for PassesOwn.never rfl (pi_range1 (by rfl) T.n_range (pa_cons (pv 2) pa_nil)) (pg_name (i := 5) sc_law_texts.nd rfl (Or.inl rfl))
    (pss_cons (ps_set (i := 6) sc_law_texts.nd rfl (Or.inl rfl) (pe_ifExp (PW.pt (pw_or (pt_cmpR op_gt (pv 5) pe_int (nomark _)) (pw_or1 (pt_val (pv 3))))) (pe_call G_law_pick (hr.mono (by decide)) rfl T.g__law_pick T.k__law_pick b_law_pick .nil pass0 (pa_cons (pv 0) (pa_cons (pv 1) pa_nil))) (pe_call G_law_pick (hr.mono (by decide)) rfl T.g__law_pick T.k__law_pick b_law_pick .nil pass0 (pa_cons (pv 0) (pa_cons (pe_lst (pa_cons pe_str (pa_cons pe_str pa_nil))) pa_nil)))))
    (pss_one (ps_expr (pe_bm PySem.F.plainAttrs_list PySem.F.slot_list_append PySem.F.type_list_append mt_append (pv 4) (pa_cons (pe_ifExp (pt_cmpR (op_in_seqK K) (pv 6) (pe_tupF (pa_cons pe_str (pa_cons pe_str pa_nil))) (by rfl)) (pe_op op_add_str (pe_op op_add_str (pv 6) pe_str) (pe_callTy call_str_int (by rfl) T.n_str (by decide +kernel) (pa_cons (pe_call G_law_number (hr.mono (by decide)) rfl T.g__law_number T.k__law_number b_law_number .nil pass0 (pa_cons (pv 0) pa_nil)) pa_nil))) (pv 6)) pa_nil))))))
    (pss_one (ps_ret (pv 4))))), ?_⟩
    refine ⟨szl (Nat.zero_le _), fun r hr => ?_⟩
    have nrp : r ≠ p := (ne_of_none hf.1 hr).symm
    have nrl : l ≠ r := ne_of_none hl hr
    have s0 : SameX p H (upd H r (.lst [])) := sx_of (same_new hr)
    have hf0 := feed_new (o := .lst []) hf hr
    have hr0 : upd H r (.lst []) r = some (.lst []) := upd_same
    dsimp only [gName]
    revert s0 hf0 hr0
    generalize upd H r (.lst []) = H0
    intro s0 hf0 hr0
    refine ⟨_, rfl, (m : Nat), rfl, by omega, by omega, for_range (lo := 0) (n := m) (fun j σ H' => SameX p H H' ∧ (∃ a b, FeedAt H' p a b) ∧ (∃ ts : List Str, H' r = some (.lst (ts.map V.str)) ∧ ts.length = j ∧ (∀ z ∈ ts, TextOk z) ∧ (fr = false → ∀ z rr, ts = z :: rr → insT z = [] ∨ wordT z = "delay")) ∧ ∃ x5 x6 : Option V, σ = [some (.ref p), some (.ref l), some (.int (m : Nat)), some (.bl fr), some (.ref r), x5, x6]) ⟨s0, ⟨_, _, hf0⟩, ⟨[], hr0, rfl, fun z hz => (by cases hz), fun _ z rr e => (by cases e)⟩, _, _, rfl⟩ ?_ ?_⟩
    · rintro j σ H1 hj ⟨s1, ⟨a1, b1, hf1⟩, ⟨ts, hts, htl, hto, htf⟩, x5, x6, rfl⟩
      dsimp only [gName]
      have hl1 := s1 _ _ nlp hl
      -- word
      refine asg (fun v H' => ∃ wd : Str, v = .str wd ∧ wd ∈ portNames ∧ (j = 0 → fr = false → wd = "const" ∨ wd = "delay") ∧ SameX p H1 H' ∧ ∃ a b, FeedAt H' p a b) (fun Q' q => ?_) ?_
      · have free : (j = 0 → fr = false → False) → ∀ Q2 : VK, (∀ (v : V) (a' b' : Int), v ∈ ws.map V.str → FeedAt (upd H1 p (.lst [.int a', .int b'])) p a' b' → Q2 v (upd H1 p (.lst [.int a', .int b']))) → spPick K [.ref p, .ref l] H1 Q2 E0 := fun _ Q2 h => by
          refine ⟨p, l, ws.map V.str, a1, b1, rfl, hf1, SqL.of hl1, nlp, ?_, by rw [List.length_map]; omega, h⟩
          rw [List.length_map]
          exact List.length_pos_iff.mpr hne
        have fromws : ∀ (v : V) (a' b' : Int), (j = 0 → fr = false → False) → v ∈ ws.map V.str → FeedAt (upd H1 p (.lst [.int a', .int b'])) p a' b' → Q' v (upd H1 p (.lst [.int a', .int b'])) := fun v a' b' hfr hv hf' => by
          obtain ⟨wd, hwd, rfl⟩ := List.mem_map.mp hv
          exact q _ _ ⟨wd, rfl, hws wd hwd, fun e1 e2 => (hfr e1 e2).elim, sx_put (sx_of (Same.refl H1)), _, _, hf'⟩
        refine ⟨_, rfl, _, _, rfl, rfl, _, rfl, ?_⟩
        by_cases hj0 : j = 0
        case neg =>
          rw [decide_eq_true (show (0 : Int) < (0 : Int) + (j : Nat) by omega)]
          exact iteT (iteT ⟨_, rfl, _, rfl, free (fun e => absurd e hj0) _ fun v a' b' hv hf' => fromws v a' b' (fun e => absurd e hj0) hv hf'⟩)
        rw [decide_eq_false (show ¬ (0 : Int) < (0 : Int) + (j : Nat) by omega)]
        refine iteF ⟨_, rfl, _, rfl, ?_⟩
        cases fr with
        | true => exact iteT ⟨_, rfl, _, rfl, free (fun _ e => by cases e) _ fun v a' b' hv hf' => fromws v a' b' (fun _ e => by cases e) hv hf'⟩
        | false =>
          refine iteF ⟨_, rfl, szl (show 2 ≤ 100000 by decide), fun c hc => ?_⟩
          have t1 := same_new (o := .lst [V.str "const", .str "delay"]) hc
          have ncp : c ≠ p := (ne_of_none hf1.1 hc).symm
          refine ⟨p, c, _, a1, b1, rfl, feed_same t1 hf1, SqL.of upd_same, ncp, (show 0 < 2 by decide), (show 2 ≤ 1000 by decide), fun v a' b' hv hf' => ?_⟩
          have s2 := sx_put (p := p) (o := .lst [.int a', .int b']) (sx_of t1)
          rcases List.mem_cons.mp hv with rfl | hv
          · exact q _ _ ⟨_, rfl, by decide +kernel, fun _ _ => .inl rfl, s2, _, _, hf'⟩
          · rw [List.mem_singleton.mp hv]
            exact q _ _ ⟨_, rfl, by decide +kernel, fun _ _ => .inr rfl, s2, _, _, hf'⟩
      rintro _ H2 ⟨wd, rfl, hwd, hfirst, s2, a2, b2, hf2⟩
      dsimp only [gName]
      have hts2 := s2 _ _ nrp hts
      have fin : ∀ (z : Str) (H3 : Hp) (a3 b3 : Int), TextOk z → wordT z = wd → SameX p H2 H3 → FeedAt H3 p a3 b3 → ∃ (p_1 : Addr) (xs : List V) (y : V), V.ref r = .ref p_1 ∧ [V.str z] = [y] ∧ H3 p_1 = some (.lst xs) ∧ xs.length < sizeLine ∧
          (SameX p H (upd H3 p_1 (.lst (xs ++ [y]))) ∧ (∃ a b, FeedAt (upd H3 p_1 (.lst (xs ++ [y]))) p a b) ∧ (∃ ts : List Str, upd H3 p_1 (.lst (xs ++ [y])) r = some (.lst (ts.map V.str)) ∧ ts.length = j + 1 ∧ (∀ z ∈ ts, TextOk z) ∧ (fr = false → ∀ z rr, ts = z :: rr → insT z = [] ∨ wordT z = "delay"))) := fun z H3 a3 b3 hz hzw s3 hf3 => by
        have hts3 := s3 _ _ nrp hts2
        refine ⟨r, _, _, rfl, rfl, hts3, szt (by rw [List.length_map]; omega), sx_mut ((s1.trans s2).trans s3) hr, ⟨_, _, ⟨by rw [upd_ne nrp.symm]; exact hf3.1, hf3.2⟩⟩, ts ++ [z], by rw [upd_same, List.map_append]; rfl, by rw [List.length_append, htl]; rfl, fun y hy => ?_, fun hfr y rr e => ?_⟩
        · rcases List.mem_append.mp hy with hy | hy
          · exact hto y hy
          · rw [List.mem_singleton.mp hy]
            exact hz
        · cases ts with
          | cons u us =>
            injection e with e1 e2
            exact e1 ▸ htf hfr u us rfl
          | nil =>
            injection e with e1 e2
            subst e1
            rw [hzw]
            rcases hfirst htl.symm hfr with e | e
            · refine .inl ?_
              have := rowT_of hz
              rw [hzw, e] at this
              exact (ports_fun this (show (("const" : Str), ([] : List Str), (["out"] : List Str)) ∈ portsTab by decide +kernel)).1
            · exact .inr e
      refine ⟨_, rfl, .inl ⟨rfl, _, SqL.of hts2⟩, _, rfl, szl (show 2 ≤ 100000 by decide), fun c H3 u3 k3 => ⟨c, _, rfl, .inr k3.sqt, rfl, rfl, _, rfl, ?_⟩⟩
      show if (if false = true then !inV (V.str wd) [V.str "const", V.str "delay"] else inV (V.str wd) [V.str "const", V.str "delay"]) = true then _ else _
      rw [inV_cd]
      have hf3 := feed_same u3 hf2
      have hwl : wd.length ≤ 20 := (show ∀ x ∈ portNames, x.length ≤ 20 by decide +kernel) wd hwd
      cases hk : withK wd with
      | true =>
        refine iteT ⟨_, rfl, _, _, rfl, rfl, szl (by show wd.length + 1 ≤ 100000; omega), _, rfl, p, a2, b2, rfl, hf3, fun d H4 a4 b4 hd s4 hf4 => ⟨d, rfl, r32_log hd, _, _, rfl, rfl, szl ?_, ?_⟩⟩
        · have := textOf_len (n := wd) (c := some d) ⟨hwd, fun _ e => by cases e; exact hd⟩
          have e : (wd ++ " " ++ Str.ofString (toString d)).length = (wd ++ " ").length + (Str.ofString (toString d)).length := by simp [Str.length_append]
          have e2 : (textOf wd (some d)).length = (wd ++ " ").length + (Str.ofString (toString d)).length := e
          omega
        · obtain ⟨p1, xs1, y1, e1, e2, e3, e4, e5⟩ := fin (wd ++ " " ++ Str.ofString (toString d)) H4 a4 b4 (textOk_k hwd hk hd) (word_of (n := wd) (c := some d) ⟨⟨hwd, fun _ e => by cases e; exact hd⟩, by rw [hk]; rfl⟩) ((sx_of u3).trans s4) hf4
          exact ⟨p1, xs1, y1, e1, e2, e3, e4, e5.1, e5.2.1, e5.2.2, _, _, rfl⟩
      | false =>
        obtain ⟨p1, xs1, y1, e1, e2, e3, e4, e5⟩ := fin wd H3 a2 b2 (textOk_plain hwd hk) (word_of (n := wd) (c := none) ⟨⟨hwd, fun _ e => by cases e⟩, by rw [hk]; rfl⟩) (sx_of u3) hf3
        exact iteF ⟨_, rfl, p1, xs1, y1, e1, e2, e3, e4, e5.1, e5.2.1, e5.2.2, _, _, rfl⟩
    · rintro σ H1 ⟨s1, ⟨a1, b1, hf1⟩, ⟨ts, hts, htl, hto, htf⟩, x5, x6, rfl⟩
      exact ⟨_, rfl, k r ts H1 a1 b1 s1 hf1 hts nrp htl hto htf⟩

end
end K82

set_option maxRecDepth 100000
set_option maxHeartbeats 4000000
namespace K82
open PySem L2 Ly Nd Nt Od
local macro_rules | `(tactic| walk_at "nx") => `(tactic| dsimp only [tNext])
section
variable {P : Program} {w : World} {K : PySem.W.Frag} {mg : Str → Option Value} {base : Heap} {ad : Adr}
def INS : List (List Str) := [["x"], ["x"], ["x", "y"], ["up", "delay", "a"], []]
def OUTS : List (List Str) := [["o"], ["o"], ["o", "p"], ["total", "add", "sum"], []]
theorem io_ok {i o : List Str} (hi : i ∈ INS) (ho : o ∈ OUTS) : (i ++ o).Nodup ∧ i.length ≤ 8 ∧ o.length ≤ 8 ∧ ∀ x ∈ i ++ o, nameOk x = true := by
  have k : (INS.all fun i => OUTS.all fun o => decide ((i ++ o).Nodup ∧ i.length ≤ 8 ∧ o.length ≤ 8) && (i ++ o).all nameOk) = true := by decide +kernel
  have h := List.all_eq_true.mp (List.all_eq_true.mp k i hi) o ho
  rw [Bool.and_eq_true] at h
  obtain ⟨h1, h2, h3⟩ := of_decide_eq_true h.1
  exact ⟨h1, h2, h3, fun x hx => List.all_eq_true.mp h.2 x hx⟩
theorem zip_parts {K : PySem.W.Frag} {H : Hp} : ∀ {us : List V} {ps : List Pth} {ts : List Str} {zs : List V}, TpAll K H us (ps.map dTx) → ts.length = ps.length → Paired (fun (xy : V × V) u => ∃ t, u = V.ref t ∧ H t = some (.tup [xy.1, xy.2])) (us.zip (ts.map V.str)) zs → PartsAt K H zs (ps.zip ts)
  | _, [], [], _, .nil, _, .nil => .nil
  | _, p :: ps, t :: ts, _, .cons h1 h2, hl, .cons hr ht => by
    obtain ⟨c, rfl, hc⟩ := hr
    exact .cons (tp_port (p := p) (n := t) (SqT.of hc) h1) (zip_parts h2 (by simpa using hl) ht)
theorem sx_late {p d : Addr} {H0 H1 H2 : Hp} (s : SameX p H0 H1) (s2 : SameX d H1 H2) (h : H0 d = none) : SameX p H0 H2 := fun b u nb e => s2 b u (ne_of_none e h) (s b u nb e)
theorem srcs_pos {parts : List Part} {n : Nat} {y : Part} (h : parts[0]? = some y) (ht : TextOk y.2) (hn : 0 < n ∨ isD y = true) : 0 < (srcs parts n).length := by
  have hpos : 0 < (outsT y.2).length := (show ∀ r ∈ portsTab, 0 < r.2.2.length by decide +kernel) (wordT y.2, insT y.2, outsT y.2) (rowT_of ht)
  have hm : ((y.1, (outsT y.2)[0]) : Nt.Prt) ∈ srcs parts n := by
    unfold srcs
    refine List.mem_flatMap.mpr ⟨(y, 0), List.mem_filter.mpr ⟨List.mem_zipIdx_iff_getElem?.mpr h, ?_⟩, ?_⟩
    · show (decide (0 < n) || isD y) = true
      rw [Bool.or_eq_true, decide_eq_true_iff]
      exact hn
    · unfold outsP
      exact List.mem_map_of_mem (List.getElem_mem hpos)
  exact List.length_pos_of_mem hm
theorem sc_law_net : FnScope ["feed", "words", "most", "ins", "outs", "many", "texts", "paths", "parts", "fed", "every", "at", "path", "text", "is_delay", "some", "port", "name"] ["feed", "words", "most"] (defScope s_law_net) := ⟨rfl, rfl, rfl, by decide +kernel, rfl, by decide +kernel, by decide +kernel⟩
theorem ok_net {f : Addr} {fd fdt fdp fdx fda fds fdo fdu fdl : FuncData} (F : Fun K "_law_net" "_law_net" s_law_net f fd) (T : Txt K w mg ad)
    (G_law_take : FnOk P w K mg base CX0 1 ad.f_law_take fdt ["feed", "size"] spTake) (b_law_take : Binds K fdt ["feed", "size"] [])
    (G_law_pick : FnOk P w K mg base CX0 2 ad.f_law_pick fdp ["feed", "choices"] (spPick K)) (b_law_pick : Binds K fdp ["feed", "choices"] [])
    (G_law_texts : FnOk P w K mg base CX0 4 ad.f_law_texts fdx ["feed", "words", "many", "is_free"] spTexts) (b_law_texts : Binds K fdx ["feed", "words", "many", "is_free"] [])
    (G_law_paths : FnOk P w K mg base CX0 2 ad.f_law_paths fda ["feed", "many"] (spPathsL K)) (b_law_paths : Binds K fda ["feed", "many"] [])
    (G_law_sources : FnOk P w K mg base CX0 2 ad.f_law_sources fds ["parts", "place"] (spSrcs K)) (b_law_sources : Binds K fds ["parts", "place"] [])
    (G_law_ports : FnOk P w K mg base CX0 1 ad.f_law_ports fdo ["text"] spPortsL) (b_law_ports : Binds K fdo ["text"] [])
    (G_law_turned : FnOk P w K mg base CX0 2 ad.f_law_turned fdu ["feed", "parts"] (spTurned K)) (b_law_turned : Binds K fdu ["feed", "parts"] [])
    (G_law_laid : FnOk P w K mg base CX0 3 ad.f_law_laid fdl ["ins", "outs", "parts", "fed"] (spLaid P w K)) (b_law_laid : Binds K fdl ["ins", "outs", "parts", "fed"] []) : FnOk P w K mg base CX0 5 f fd ["feed", "words", "most"] (spNet K) := by
  refine F.ok sc_law_net (fun vs H Q E h => ?_) (fun cdv A outer s H vs Q E hr h => ?_)
  · obtain ⟨p, l, ws, m, a, b, rfl, _⟩ := h
    rfl
  · obtain ⟨p, wl, ws, most, a, b, rfl, hf, hwl, nwl, hne, h100, hws, hm1, hm16, k⟩ := h
    refine ⟨_, (pss_cons (ps_set (i := 3) sc_law_net.nd rfl (Or.inl rfl) (pe_call G_law_pick (hr.mono (by decide)) rfl T.g__law_pick T.k__law_pick b_law_pick .nil pass0 (pa_cons (pv 0) (pa_cons (pe_lst (pa_cons (pe_lst (pa_cons pe_str pa_nil)) (pa_cons (pe_lst (pa_cons pe_str pa_nil)) (pa_cons (pe_lst (pa_cons pe_str (pa_cons pe_str pa_nil))) (pa_cons (pe_lst (pa_cons pe_str (pa_cons pe_str (pa_cons pe_str pa_nil)))) (pa_cons (pe_lst pa_nil) pa_nil)))))) pa_nil))))
    (pss_cons (ps_set (i := 4) sc_law_net.nd rfl (Or.inl rfl) (pe_call G_law_pick (hr.mono (by decide)) rfl T.g__law_pick T.k__law_pick b_law_pick .nil pass0 (pa_cons (pv 0) (pa_cons (pe_lst (pa_cons (pe_lst (pa_cons pe_str pa_nil)) (pa_cons (pe_lst (pa_cons pe_str pa_nil)) (pa_cons (pe_lst (pa_cons pe_str (pa_cons pe_str pa_nil))) (pa_cons (pe_lst (pa_cons pe_str (pa_cons pe_str (pa_cons pe_str pa_nil)))) (pa_cons (pe_lst pa_nil) pa_nil)))))) pa_nil))))
    (pss_cons (ps_set (i := 5) sc_law_net.nd rfl (Or.inl rfl) (pe_op op_add pe_int (pe_call G_law_take (hr.mono (by decide)) rfl T.g__law_take T.k__law_take b_law_take .nil pass0 (pa_cons (pv 0) (pa_cons (pv 2) pa_nil)))))
    (pss_cons (ps_par (i := 6) (j := 7) (by rfl) sc_law_net.nd rfl rfl (by decide) rfl rfl (pa_cons (pe_call G_law_texts (hr.mono (by decide)) rfl T.g__law_texts T.k__law_texts b_law_texts .nil pass0 (pa_cons (pv 0) (pa_cons (pv 1) (pa_cons (pv 5) (pa_cons (pe_cmpR (op_neDK K hr.units) (pv 3) (pe_lst pa_nil) (nomark _)) pa_nil))))) (pa_cons (pe_call G_law_paths (hr.mono (by decide)) rfl T.g__law_paths T.k__law_paths b_law_paths .nil pass0 (pa_cons (pv 0) (pa_cons (pv 5) pa_nil))) pa_nil)) (by rfl))
    (pss_cons (ps_par (i := 8) (j := 9) (by rfl) sc_law_net.nd rfl rfl (by decide) rfl rfl (pa_cons (pe_listZip K rfl (by rfl) T.n_list (by rfl) T.n_zip (pa_cons (pv 7) (pa_cons (pv 6) pa_nil))) (pa_cons (pe_dnewN P w K) pa_nil)) (by rfl))
    (pss_cons (ps_setLc (i := 10) (own := [("name", 17)]) rfl sc_law_net.nd rfl rfl (sw_true rfl rfl rfl (by decide +kernel)) (pi_listK K (pv 3)) (blkOk_by (own := [("name", 17)]) (N := ["feed", "words", "most", "ins", "outs", "many", "texts", "paths", "parts", "fed", "every", "at", "path", "text", "is_delay", "some", "port", "name"]) (sc := defScope s_law_net) (by decide +kernel)) (fun _ _ _ _ _ => (pg_name (i := 17) sc_law_net.nd rfl (Or.inl rfl))) (fun _ _ _ _ _ => pts_nil) (fun _ _ _ _ _ => (pe_tupF (pa_cons (pe_tupF pa_nil) (pa_cons (pv 17) pa_nil)))))
    (pss_cons (ps_for PassesOwn.never rfl (pi_enum (by rfl) T.n_enumerate (pa_cons (pv 8) pa_nil)) (pg_tup (by rfl) (pgs_cons (pg_name (i := 11) sc_law_net.nd rfl (Or.inl rfl)) (pgs_cons (pg_tup (by rfl) (pgs_cons (pg_name (i := 12) sc_law_net.nd rfl (Or.inl rfl)) (pgs_cons (pg_name (i := 13) sc_law_net.nd rfl (Or.inl rfl)) pgs_nil))) pgs_nil)))
    (pss_cons (ps_set (i := 14) sc_law_net.nd rfl (Or.inl rfl) (pe_cmpR op_eq (pe_ix (ix_listK K) (pe_split (pv 13) pe_str) pe_int (fun _ _ => rfl)) pe_str (nomark _)))
    (pss_cons (ps_set (i := 15) sc_law_net.nd rfl (Or.inl rfl) (pe_op op_cat (pv 10) (pe_call G_law_sources (hr.mono (by decide)) rfl T.g__law_sources T.k__law_sources b_law_sources .nil pass0 (pa_cons (pv 8) (pa_cons (pe_ifExp (pt_val (pv 14)) (pv 5) (pv 11)) pa_nil)))))
    (pss_one (ps_for PassesOwn.never rfl (pi_listK K (pe_ix (ix_listK K) (pe_call G_law_ports (hr.mono (by decide)) rfl T.g__law_ports T.k__law_ports b_law_ports .nil pass0 (pa_cons (pv 13) pa_nil)) pe_int (fun _ _ => rfl))) (pg_name (i := 16) sc_law_net.nd rfl (Or.inl rfl))
    (pss_one (ps_dputN P w K (hu9 hr) (pv 9) (pe_tupF (pa_cons (pv 12) (pa_cons (pv 16) pa_nil))) (pe_call G_law_pick (hr.mono (by decide)) rfl T.g__law_pick T.k__law_pick b_law_pick .nil pass0 (pa_cons (pv 0) (pa_cons (pv 15) pa_nil))) rfl)))))))
    (pss_cons (ps_for PassesOwn.never rfl (pi_listK K (pv 4)) (pg_name (i := 17) sc_law_net.nd rfl (Or.inl rfl))
    (pss_one (ps_dputN P w K (hu9 hr) (pv 9) (pe_tupF (pa_cons (pe_tupF pa_nil) (pa_cons (pv 17) pa_nil))) (pe_call G_law_pick (hr.mono (by decide)) rfl T.g__law_pick T.k__law_pick b_law_pick .nil pass0 (pa_cons (pv 0) (pa_cons (pe_op op_cat (pv 10) (pe_op op_rep (pe_call G_law_sources (hr.mono (by decide)) rfl T.g__law_sources T.k__law_sources b_law_sources .nil pass0 (pa_cons (pv 8) (pa_cons (pv 5) pa_nil))) pe_int)) pa_nil))) rfl)))
    (pss_one (ps_ret (pe_call G_law_laid (hr.mono (by decide)) rfl T.g__law_laid T.k__law_laid b_law_laid .nil pass0 (pa_cons (pv 3) (pa_cons (pv 4) (pa_cons (pe_call G_law_turned (hr.mono (by decide)) rfl T.g__law_turned T.k__law_turned b_law_turned .nil pass0 (pa_cons (pv 0) (pa_cons (pv 8) pa_nil))) (pa_cons (pv 9) pa_nil))))))))))))))), ?_⟩
    -- ins
    refine asg (fun v H' => ∃ (l : Addr) (xs : List Str), v = .ref l ∧ xs ∈ INS ∧ H' l = some (.lst (xs.map V.str)) ∧ l ≠ p ∧ SameX p H H' ∧ ∃ a b, FeedAt H' p a b) (fun Q' q => ?_) ?_
    · refine ⟨_, rfl, szl (show 1 ≤ 100000 by decide), fun l1 h1 => ⟨szl (show 1 ≤ 100000 by decide), fun l2 h2 => ⟨szl (show 2 ≤ 100000 by decide), fun l3 h3 => ⟨szl (show 3 ≤ 100000 by decide), fun l4 h4 => ⟨szl (show 0 ≤ 100000 by decide), fun l5 h5 => ⟨szl (show 5 ≤ 100000 by decide), fun L hL => ?_⟩⟩⟩⟩⟩⟩
      have t1 : Same _ _ := same_new (o := .lst ((["x"] : List Str).map V.str)) h1
      have t2 : Same _ _ := same_new (o := .lst ((["x"] : List Str).map V.str)) h2
      have t3 : Same _ _ := same_new (o := .lst ((["x", "y"] : List Str).map V.str)) h3
      have t4 : Same _ _ := same_new (o := .lst ((["up", "delay", "a"] : List Str).map V.str)) h4
      have t5 : Same _ _ := same_new (o := .lst (([] : List Str).map V.str)) h5
      have z6 : Same _ _ := same_new (o := .lst [V.ref l1, V.ref l2, V.ref l3, V.ref l4, V.ref l5]) hL
      have z5 := t5.trans z6
      have z4 := t4.trans z5
      have z3 := t3.trans z4
      have z2 := t2.trans z3
      have z1 := t1.trans z2
      have n1 : l1 ≠ p := (ne_of_none hf.1 h1).symm
      have n2 : l2 ≠ p := (ne_of_none (feed_same t1 hf).1 h2).symm
      have n3 : l3 ≠ p := (ne_of_none (feed_same (t1.trans t2) hf).1 h3).symm
      have n4 : l4 ≠ p := (ne_of_none (feed_same ((t1.trans t2).trans t3) hf).1 h4).symm
      have n5 : l5 ≠ p := (ne_of_none (feed_same (((t1.trans t2).trans t3).trans t4) hf).1 h5).symm
      have nL : L ≠ p := (ne_of_none (feed_same ((((t1.trans t2).trans t3).trans t4).trans t5) hf).1 hL).symm
      refine ⟨p, L, _, a, b, rfl, feed_same z1 hf, SqL.of upd_same, nL, (show 0 < 5 by decide), (show 5 ≤ 1000 by decide), fun v a1 b1 hv hf1 => ?_⟩
      have s1 := sx_put (p := p) (o := .lst [.int a1, .int b1]) (sx_of z1)
      rcases List.mem_cons.mp hv with rfl | hv
      · exact q _ _ ⟨l1, (["x"] : List Str), rfl, by decide +kernel, by rw [upd_ne n1]; exact z2 _ _ upd_same, n1, s1, _, _, hf1⟩
      rcases List.mem_cons.mp hv with rfl | hv
      · exact q _ _ ⟨l2, (["x"] : List Str), rfl, by decide +kernel, by rw [upd_ne n2]; exact z3 _ _ upd_same, n2, s1, _, _, hf1⟩
      rcases List.mem_cons.mp hv with rfl | hv
      · exact q _ _ ⟨l3, (["x", "y"] : List Str), rfl, by decide +kernel, by rw [upd_ne n3]; exact z4 _ _ upd_same, n3, s1, _, _, hf1⟩
      rcases List.mem_cons.mp hv with rfl | hv
      · exact q _ _ ⟨l4, (["up", "delay", "a"] : List Str), rfl, by decide +kernel, by rw [upd_ne n4]; exact z5 _ _ upd_same, n4, s1, _, _, hf1⟩
      · rw [List.mem_singleton.mp hv]
        exact q _ _ ⟨l5, ([] : List Str), rfl, by decide +kernel, by rw [upd_ne n5]; exact z6 _ _ upd_same, n5, s1, _, _, hf1⟩
    rintro _ H1 ⟨il, ins, rfl, hins, hil, nil', s1, a1, b1, hf1⟩
    dsimp only [gName]
    -- outs
    refine asg (fun v H' => ∃ (l : Addr) (xs : List Str), v = .ref l ∧ xs ∈ OUTS ∧ H' l = some (.lst (xs.map V.str)) ∧ l ≠ p ∧ SameX p H1 H' ∧ ∃ a b, FeedAt H' p a b) (fun Q' q => ?_) ?_
    · refine ⟨_, rfl, szl (show 1 ≤ 100000 by decide), fun l1 h1 => ⟨szl (show 1 ≤ 100000 by decide), fun l2 h2 => ⟨szl (show 2 ≤ 100000 by decide), fun l3 h3 => ⟨szl (show 3 ≤ 100000 by decide), fun l4 h4 => ⟨szl (show 0 ≤ 100000 by decide), fun l5 h5 => ⟨szl (show 5 ≤ 100000 by decide), fun L hL => ?_⟩⟩⟩⟩⟩⟩
      have t1 : Same _ _ := same_new (o := .lst ((["o"] : List Str).map V.str)) h1
      have t2 : Same _ _ := same_new (o := .lst ((["o"] : List Str).map V.str)) h2
      have t3 : Same _ _ := same_new (o := .lst ((["o", "p"] : List Str).map V.str)) h3
      have t4 : Same _ _ := same_new (o := .lst ((["total", "add", "sum"] : List Str).map V.str)) h4
      have t5 : Same _ _ := same_new (o := .lst (([] : List Str).map V.str)) h5
      have z6 : Same _ _ := same_new (o := .lst [V.ref l1, V.ref l2, V.ref l3, V.ref l4, V.ref l5]) hL
      have z5 := t5.trans z6
      have z4 := t4.trans z5
      have z3 := t3.trans z4
      have z2 := t2.trans z3
      have z1 := t1.trans z2
      have n1 : l1 ≠ p := (ne_of_none hf1.1 h1).symm
      have n2 : l2 ≠ p := (ne_of_none (feed_same t1 hf1).1 h2).symm
      have n3 : l3 ≠ p := (ne_of_none (feed_same (t1.trans t2) hf1).1 h3).symm
      have n4 : l4 ≠ p := (ne_of_none (feed_same ((t1.trans t2).trans t3) hf1).1 h4).symm
      have n5 : l5 ≠ p := (ne_of_none (feed_same (((t1.trans t2).trans t3).trans t4) hf1).1 h5).symm
      have nL : L ≠ p := (ne_of_none (feed_same ((((t1.trans t2).trans t3).trans t4).trans t5) hf1).1 hL).symm
      refine ⟨p, L, _, a1, b1, rfl, feed_same z1 hf1, SqL.of upd_same, nL, (show 0 < 5 by decide), (show 5 ≤ 1000 by decide), fun v a1 b1 hv hf1 => ?_⟩
      have s1 := sx_put (p := p) (o := .lst [.int a1, .int b1]) (sx_of z1)
      rcases List.mem_cons.mp hv with rfl | hv
      · exact q _ _ ⟨l1, (["o"] : List Str), rfl, by decide +kernel, by rw [upd_ne n1]; exact z2 _ _ upd_same, n1, s1, _, _, hf1⟩
      rcases List.mem_cons.mp hv with rfl | hv
      · exact q _ _ ⟨l2, (["o"] : List Str), rfl, by decide +kernel, by rw [upd_ne n2]; exact z3 _ _ upd_same, n2, s1, _, _, hf1⟩
      rcases List.mem_cons.mp hv with rfl | hv
      · exact q _ _ ⟨l3, (["o", "p"] : List Str), rfl, by decide +kernel, by rw [upd_ne n3]; exact z4 _ _ upd_same, n3, s1, _, _, hf1⟩
      rcases List.mem_cons.mp hv with rfl | hv
      · exact q _ _ ⟨l4, (["total", "add", "sum"] : List Str), rfl, by decide +kernel, by rw [upd_ne n4]; exact z5 _ _ upd_same, n4, s1, _, _, hf1⟩
      · rw [List.mem_singleton.mp hv]
        exact q _ _ ⟨l5, ([] : List Str), rfl, by decide +kernel, by rw [upd_ne n5]; exact z6 _ _ upd_same, n5, s1, _, _, hf1⟩
    rintro _ H2 ⟨ol, outs, rfl, houts, hol, nol, s2, a2, b2, hf2⟩
    dsimp only [gName]
    obtain ⟨hio, hi8, ho8, hnm⟩ := io_ok hins houts
    have hil2 := s2 _ _ nil' hil
    have hwl2 := (s1.trans s2) _ _ nwl hwl
    -- many
    refine asg (fun v H' => ∃ mm : Nat, v = .int mm ∧ 1 ≤ mm ∧ mm ≤ 16 ∧ SameX p H2 H' ∧ ∃ a b, FeedAt H' p a b) (fun Q' q => ?_) ?_
    · refine ⟨_, rfl, _, rfl, p, _, a2, b2, rfl, hf2, by omega, by omega, fun d a3 b3 h0 h1 hf3 => ⟨_, _, rfl, rfl, ?_⟩⟩
      obtain ⟨d, rfl⟩ := Int.eq_ofNat_of_zero_le h0
      have e : (1 : Int) + (d : Nat) = ((1 + d : Nat) : Int) := by omega
      exact q _ _ ⟨1 + d, congrArg V.int e, by omega, by omega, sx_put (sx_of (Same.refl H2)), _, _, hf3⟩
    rintro _ H3 ⟨mm, rfl, hmm1, hmm16, s3, a3, b3, hf3⟩
    dsimp only [gName]
    have hil3 := s3 _ _ nil' hil2
    have hol3 := s3 _ _ nol hol
    have hwl3 := s3 _ _ nwl hwl2
    -- texts, paths
    refine ⟨_, rfl, _, rfl, _, rfl, _, rfl, szl (Nat.zero_le _), fun e0 he0 => ?_⟩
    have t0 := same_new (o := .lst []) he0
    have hin : ∀ x ∈ ins, OkS x := fun x hx => okS_name (hnm x (List.mem_append_left _ hx))
    refine ⟨.list (ins.map .str), .list [], .lst (SqL.of (t0 _ _ hil3)) (dps_strs ins), .lst (SqL.of upd_same) .nil, shp_strs hin, rfl, ?_⟩
    refine ⟨p, wl, ws, mm, _, a3, b3, rfl, feed_same t0 hf3, t0 _ _ hwl3, nwl, hne, h100, hws, hmm16, fun tl ts H4 a4 b4 s4 hf4 htl ntl htlen htok htfirst => ?_⟩
    refine ⟨_, rfl, _, rfl, p, mm, a4, b4, rfl, hf4, hmm16, fun pl us ps H5 a5 b5 s5 hf5 hpl npl hps hplen hpnd hpok => ⟨_, _, rfl, ?_⟩⟩
    have hemp : ins = [] → ∀ z r, ts = z :: r → insT z = [] ∨ wordT z = "delay" := fun e => htfirst (by rw [e]; rfl)
    have s35 := ((sx_of t0).trans s4).trans s5
    have htl5 := s5 _ _ ntl htl
    have hil5 := s35 _ _ nil' hil3
    have hol5 := s35 _ _ nol hol3
    dsimp only
    -- parts, fed
    refine ⟨_, rfl, _, rfl, pl, tl, us, ts.map V.str, rfl, SqL.of hpl, SqL.of htl5, ?_, fun zl zs H6 hzn s6 hz hpair => ?_⟩
    · have := TpAll.len hps
      rw [List.length_map] at this
      rw [List.length_map]
      omega
    have hparts : PartsAt K H6 zs (ps.zip ts) := zip_parts (TpAll.same hps s6) (by omega) hpair
    have hpfst : (ps.zip ts).map (·.1) = ps := List.map_fst_zip (by omega)
    have hplen2 : (ps.zip ts).length = mm := by rw [List.length_zip]; omega
    have htx : ∀ x ∈ ps.zip ts, TextOk x.2 := fun x hx => htok _ (List.of_mem_zip hx).2
    have hpp : ∀ x ∈ ps.zip ts, PathOk x.1 := fun x hx => hpok _ (List.of_mem_zip hx).1
    have hfst : ins = [] → ∀ y, (ps.zip ts)[0]? = some y → insT y.2 = [] ∨ wordT y.2 = "delay" := fun e y hy => by
      cases ts with
      | nil => simp at hy
      | cons z r =>
        cases ps with
        | nil => simp at hy
        | cons p0 pr =>
          simp at hy
          subst hy
          exact hemp e z r rfl
    revert hparts hpfst hplen2 htx hpp hfst
    generalize ps.zip ts = parts
    intro hparts hpfst hplen2 htx hpp hfst
    have hpn : (parts.map (·.1)).Nodup := by rw [hpfst]; exact hpnd
    have hf6 := feed_same s6 hf5
    have nzl : zl ≠ p := (ne_of_none hf5.1 hzn).symm
    have hil6 := s6 _ _ hil5
    have hol6 := s6 _ _ hol5
    intro dd H7 hdd s7 hdn
    refine ⟨_, _, rfl, ?_⟩
    have ndp : dd ≠ p := (ne_of_none hf6.1 hdd).symm
    have hf7 := feed_same s7 hf6
    dsimp only
    -- every
    refine asg (fun v H' => ∃ (ev : Addr) (evs : List V), v = .ref ev ∧ H' ev = some (.lst evs) ∧ H7 ev = none ∧ TpAll K H' evs ((inPorts ins).map dPort) ∧ Same H7 H') (fun Q' q => ?_) ?_
    · refine ⟨_, rfl, il, rfl, ⟨_, SqL.of (s7 _ _ hil6)⟩, fun D hD => lc_list (K := K) (a := il) (xs := ins.map V.str) (fun m H'' => Same H7 H'' ∧ ∃ ys, H'' D = some (.lst ys) ∧ TpAll K H'' ys ((ins.take m).map fun n => dPort ([], n))) ⟨same_new hD, [], upd_same, .nil⟩ (fun m H'' _ h => SqL.of ((s7.trans h.1) _ _ hil6)) ?_ ?_⟩
      · rintro m y H8 hy ⟨s8, ys, hys, hyt⟩
        obtain ⟨hm, e⟩ := List.getElem?_eq_some_iff.mp hy
        rw [List.length_map] at hm
        rw [List.getElem_map] at e
        subst e
        have hyl := TpAll.len hyt
        rw [List.length_map, List.length_take] at hyl
        refine ⟨rfl, ?_⟩
        dsimp only [tYes]
        refine iteT ⟨szl (Nat.zero_le _), fun c1 G6 u6 k6 => ⟨_, rfl, szl (show 2 ≤ 100000 by decide), fun c G7 u7 k7 => ?_⟩⟩
        have hys7 := u7 _ _ (u6 _ _ hys)
        refine ⟨ys, hys7, szt (by omega), same_mut ((s8.trans u6).trans u7) hD, ys ++ [.ref c], upd_same, ?_⟩
        rw [List.take_add_one, List.getElem?_eq_getElem hm, List.map_append]
        exact TpAll.sx (TpAll.snoc (TpAll.same hyt (u6.trans u7)) (tp_port (p := []) k7.sqt (tp_path (p := []) (k6.same u7).sqt))) (sx_put (sx_of (Same.refl G7))) (notT_lst hys7)
      · rintro H8 ⟨s8, ys, hys, hyt⟩
        rw [List.length_map, List.take_length] at hyt
        refine q _ _ ⟨D, ys, rfl, hys, hD, ?_, s8⟩
        unfold inPorts
        rw [List.map_map]
        exact hyt
    rintro _ H8 ⟨ev, evs, rfl, hev, hevn, hevt, s8⟩
    dsimp only [gName]
    obtain ⟨od, hod⟩ := hdn.there
    have nevd : ev ≠ dd := fun e => by rw [e, hod] at hevn; cases hevn
    have nevp : ev ≠ p := fun e => by rw [e, hf7.1] at hevn; cases hevn
    have hevl : evs.length ≤ 8 := by
      have h1 := TpAll.len hevt
      unfold inPorts at h1
      rw [List.length_map, List.length_map] at h1
      omega
    have hd8 := hdn.same s8
    have hf8 := feed_same s8 hf7
    have s68 : SameX p H6 H8 := sx_of (s7.trans s8)
    -- the loop over the parts
    refine ⟨_, rfl, zl, _, rfl, SqL.of (s68 _ _ nzl hz), for_it walk_enum (fun j σ H' => SameX p H6 H' ∧ (∃ a b, FeedAt H' p a b) ∧ H' ev = some (.lst evs) ∧ TpAll K H' evs ((inPorts ins).map dPort) ∧ (∃ kvs, DNm P w K H' dd kvs ∧ FedOk K H' kvs (tgtsTo parts j) (GoodS ins parts)) ∧
      ∃ x11 x12 x13 x14 x15 x16 x17 : Option V, σ = [some (.ref p), some (.ref wl), some (.int (most : Nat)), some (.ref il), some (.ref ol), some (.int (mm : Nat)), some (.ref tl), some (.ref pl), some (.ref zl), some (.ref dd), some (.ref ev), x11, x12, x13, x14, x15, x16, x17])
      ⟨s68, ⟨_, _, hf8⟩, hev, hevt, ⟨[], hd8, fed_nil⟩, _, _, _, _, _, _, _, rfl⟩ (fun j σ H' _ h => SqL.of (h.1 _ _ nzl hz)) ?_ ?_⟩
    · rintro j v σ H9 H10 hj ⟨s9, ⟨a9, b9, hf9⟩, hev9, hevt9, ⟨kvs, hd9, hfed9⟩, x11, x12, x13, x14, x15, x16, x17, rfl⟩ ⟨T', ai, bi, rfl, hT', rfl, e1, e2⟩
      dsimp only at e1 e2
      cases e1
      obtain ⟨x, hx, q, u, rfl, hq, hu⟩ := parts_get hparts e2
      have hxm := List.mem_of_getElem? hx
      have hx2 := htx x hxm
      have hjl := (List.getElem?_eq_some_iff.mp hx).1
      have hnt6 : NotT H6 p := notT_lst hf6.1
      have hnt9 : NotT H9 p := notT_lst hf9.1
      have t10 := same_new (o := .tup [V.int (j : Nat), .ref q]) hT'
      refine ⟨T', _, rfl, SqT.of upd_same, rfl, _, _, rfl, _, _, rfl, q, _, rfl, same_sqt t10 (sqt_sx' s9 hnt6 hq), rfl, _, _, rfl, _, _, rfl, rfl, rfl, ?_⟩
      dsimp only [gName]
      have s10 := s9.trans (sx_of t10)
      have hf10 := feed_same t10 hf9
      have hev10 := t10 _ _ hev9
      have hevt10 := TpAll.same hevt9 t10
      have hd10 := hd9.same t10
      have hfed10 := hfed9.mono fun _ _ => same_sqt t10
      revert s10 hf10 hev10 hevt10 hd10 hfed10
      generalize upd H9 T' (.tup [V.int (j : Nat), .ref q]) = H11
      intro s10 hf10 hev10 hevt10 hd10 hfed10
      -- is_delay
      refine asg (fun v H' => v = .bl (isD x) ∧ Same H11 H') (fun Q' q' => ?_) ?_
      · obtain ⟨r, hsp⟩ := split_head hx2
        refine ⟨_, rfl, ⟨x.2, rfl⟩, x.2, " ", rfl, rfl, (by decide +kernel), Nat.le_trans (Nat.add_le_add_right (textOk_len hx2) 2) (by decide), fun p0 hp0 => ⟨p0, _, _, _, rfl, rfl, SqL.of upd_same, atI_nat (j := 0) (by rw [hsp]; rfl), rfl, q' _ _ ⟨congrArg V.bl ?_, same_new hp0⟩⟩⟩
        unfold isD
        rw [Bool.eq_iff_iff, decide_eq_true_iff, decide_eq_true_iff]
        exact ⟨fun e => V.str.inj e, fun e => congrArg V.str e⟩
      rintro _ H12 ⟨rfl, s12⟩
      dsimp only [gName]
      have s612 := s10.trans (sx_of s12)
      have hz12 := s612 _ _ nzl hz
      have hp12 : PartsAt K H12 zs parts := TpAll.sx hparts s612 hnt6
      -- some
      refine asg (fun v H' => ∃ (so : Addr) (sos : List V), v = .ref so ∧ H' so = some (.lst sos) ∧ H12 so = none ∧ TpAll K H' sos ((inPorts ins ++ srcs parts (if isD x = true then parts.length else j)).map dPort) ∧ Same H12 H') (fun Q' q' => ?_) ?_
      · refine ⟨_, rfl, _, rfl, _, rfl, _, rfl, ?_⟩
        have go : ∀ n : Nat, n ≤ 16 → (if isD x = true then parts.length else j) = n → spSrcs K [.ref zl, .int n] H12 (fun y H2 => rCat (V.ref ev) y H2 Q') E0 := fun n hn16 hn => by
          refine ⟨zl, zs, parts, n, rfl, SqL.of hz12, hp12, htx, by omega, fun sl sws H13 s13 hsl hsn hst => ?_⟩
          have hsll := TpAll.len hst
          rw [List.length_map] at hsll
          have h32 := srcs_len (n := n) htx
          refine ⟨ev, sl, _, _, rfl, rfl, (s12.trans s13) _ _ hev10, hsl, szl (by omega), fun so hso => ?_⟩
          have t14 := same_new (o := .lst (evs ++ sws)) hso
          refine q' _ _ ⟨so, _, rfl, upd_same, ?_, ?_, s13.trans t14⟩
          · cases e : H12 so with
            | none => rfl
            | some u => rw [s13 _ _ e] at hso; cases hso
          · rw [hn, List.map_append]
            exact (TpAll.same hevt10 ((s12.trans s13).trans t14)).app (TpAll.same hst t14)
        cases hdx : isD x with
        | true =>
          refine iteT ⟨_, rfl, ?_⟩
          have := go mm hmm16 (by rw [hdx, if_pos rfl]; exact hplen2)
          exact this
        | false =>
          refine iteF ⟨_, rfl, ?_⟩
          have := go j (by omega) (by rw [hdx, if_neg Bool.false_ne_true])
          exact this
      rintro _ H13 ⟨so, sos, rfl, hso, hson, hsot, s13⟩
      dsimp only [gName]
      have s1113 := s12.trans s13
      have nsop : so ≠ p := fun e => by rw [e, s12 _ _ hf10.1] at hson; cases hson
      obtain ⟨od10, hod10⟩ := hd10.there
      have nsod : so ≠ dd := fun e => by rw [e, s12 _ _ hod10] at hson; cases hson
      have hsol := TpAll.len hsot
      rw [List.length_map, List.length_append] at hsol
      have hso32 := srcs_len (n := if isD x = true then parts.length else j) htx
      have hinl : (inPorts ins).length = ins.length := by unfold inPorts; rw [List.length_map]
      -- the targets of the part
      refine ⟨_, rfl, x.2, rfl, hx2, fun l2 a2' b2' H14 s14 e1 e2' e3 => ?_⟩
      have s1114 := s1113.trans s14
      have s614 := s10.trans (sx_of s1114)
      have hf14 := feed_same s1114 hf10
      have n2p : a2' ≠ p := fun e => by
        rw [e, hf14.1] at e2'
        injection e2' with e2'
        injection e2' with e2'
        cases hi : insT x.2 with
        | nil => rw [hi] at e2'; cases e2'
        | cons y r => rw [hi] at e2'; injection e2' with e2' _; cases e2'
      have hd14 := hd10.same s1114
      have n2d : a2' ≠ dd := fun e => by
        obtain ⟨qs, hqs, _⟩ := hd14
        rw [e, hqs] at e2'
        cases e2'
      have hfed14 := hfed10.mono fun _ _ => same_sqt s1114
      refine ⟨l2, _, _, _, rfl, rfl, SqL.of e1, atI_nat (j := 0) rfl, a2', rfl, ⟨_, SqL.of e2'⟩, for_list (K := K) (a := a2') (xs := (insT x.2).map V.str) (fun m σ H' => SameX p H6 H' ∧ (∃ a b, FeedAt H' p a b) ∧ H' ev = some (.lst evs) ∧ TpAll K H' evs ((inPorts ins).map dPort) ∧ H' so = some (.lst sos) ∧ TpAll K H' sos ((inPorts ins ++ srcs parts (if isD x = true then parts.length else j)).map dPort) ∧ H' a2' = some (.lst ((insT x.2).map V.str)) ∧
        (∃ kvs, DNm P w K H' dd kvs ∧ FedOk K H' kvs (tgtsTo parts j ++ (insP x).take m) (GoodS ins parts)) ∧
        ∃ x16 x17 : Option V, σ = [some (.ref p), some (.ref wl), some (.int (most : Nat)), some (.ref il), some (.ref ol), some (.int (mm : Nat)), some (.ref tl), some (.ref pl), some (.ref zl), some (.ref dd), some (.ref ev), some (.int (j : Nat)), some u, some (.str x.2), some (.bl (isD x)), some (.ref so), x16, x17])
        ⟨s614, ⟨_, _, hf14⟩, s1114 _ _ hev10, TpAll.same hevt10 s1114, s14 _ _ hso, TpAll.same hsot s14, e2', ⟨kvs, hd14, by rw [List.take_zero, List.append_nil]; exact hfed14⟩, _, _, rfl⟩ (fun m σ H' _ h => SqL.of h.2.2.2.2.2.2.1) ?_ ?_⟩
      · rintro m y σ H15 hy ⟨s15, ⟨a15, b15, hf15⟩, hev15, hevt15, hso15, hsot15, ha15, ⟨kvs5, hd15, hfed15⟩, y16, y17, rfl⟩
        obtain ⟨hm, e⟩ := List.getElem?_eq_some_iff.mp hy
        rw [List.length_map] at hm
        rw [List.getElem_map] at e
        subst e
        dsimp only [gName]
        have hpos : 0 < sos.length := by
          rw [hsol]
          by_cases hi : ins = []
          · have h0 : 0 < parts.length := by omega
            have hy0 : parts[0]? = some parts[0] := List.getElem?_eq_getElem h0
            have hd0 : 0 < (if isD x = true then parts.length else j) ∨ isD parts[0] = true := by
              cases hdx : isD x with
              | true => rw [if_pos rfl]; exact .inl h0
              | false =>
                rw [if_neg Bool.false_ne_true]
                by_cases hj0 : j = 0
                · subst hj0
                  rw [hy0] at hx
                  cases hx
                  rcases hfst hi _ hy0 with e | e
                  · rw [e] at hm
                    exact absurd hm (by simp)
                  · unfold isD at hdx
                    rw [decide_eq_true e] at hdx
                    cases hdx
                · exact .inl (by omega)
            have := srcs_pos hy0 (htx _ (List.getElem_mem h0)) hd0
            omega
          · have := List.length_pos_iff.mpr hi
            omega
        refine ⟨_, rfl, _, rfl, p, so, sos, a15, b15, rfl, hf15, SqL.of hso15, nsop, hpos, by omega, fun v a16 b16 hv hf16 => ?_⟩
        have s16 : SameX p H15 (upd H15 p (.lst [.int a16, .int b16])) := sx_put (sx_of (Same.refl H15))
        have hnt15 : NotT H15 p := notT_lst hf15.1
        obtain ⟨iv, hiv⟩ := List.getElem?_of_mem hv
        obtain ⟨dv, hdv, hvt⟩ := TpAll.get hsot15 hiv
        rw [List.getElem?_map] at hdv
        obtain ⟨sv, hsv, rfl⟩ := Option.map_eq_some_iff.mp hdv
        have hsvm := List.mem_of_getElem? hsv
        have hvt16 := hvt.sx s16 hnt15
        have hev16 := s16 _ _ nevp hev15
        have hevt16 := TpAll.sx hevt15 s16 hnt15
        have hso16 := s16 _ _ nsop hso15
        have hsot16 := TpAll.sx hsot15 s16 hnt15
        have ha16 := s16 _ _ n2p ha15
        have hd16 := hd15.sx s16 hnt15 ndp.symm.symm
        have hfed16 := hfed15.mono fun _ _ => sqt_sx' s16 hnt15
        have s616 := s15.trans s16
        revert hf16 hvt16 hev16 hevt16 hso16 hsot16 ha16 hd16 hfed16 s616
        generalize upd H15 p (.lst [.int a16, .int b16]) = H16
        intro hf16 hvt16 hev16 hevt16 hso16 hsot16 ha16 hd16 hfed16 s616
        refine ⟨_, rfl, _, rfl, _, rfl, szl (show 2 ≤ 100000 by decide), fun c H17 u17 k17 => ?_⟩
        have hu17 := (hu.sx s616 hnt6).same u17
        have hkl : kvs5.length < sizeLine := szt (by
          have h1 := hfed15.1
          have h2 := tgtsTo_len (j := j) htx
          have h3 : (insP x).length ≤ 3 := by unfold insP; rw [List.length_map]; exact (ports_small _ (rowT_of hx2)).1
          rw [List.length_append, List.length_take] at h1
          omega)
        refine ⟨dd, kvs5, kPort (x.1, (insT x.2)[m]), rfl, hd16.same u17, key_port (tp_port k17.sqt hu17), hkl, fun H18 s18 hd18 => ?_⟩
        have hd17 := hd16.same u17
        have hntd : NotT H17 dd := hd17.notT
        have s617 := s616.trans (sx_of u17)
        have ht5 : tgtsTo parts j ++ (insP x).take (m + 1) = (tgtsTo parts j ++ (insP x).take m) ++ [(x.1, (insT x.2)[m])] := by
          have : (insP x)[m]? = some (x.1, (insT x.2)[m]) := by
            unfold insP
            rw [List.getElem?_map, List.getElem?_eq_getElem hm]
            rfl
          rw [List.take_add_one, this, ← List.append_assoc]
          rfl
        have hgood : GoodS ins parts (x.1, (insT x.2)[m]) sv := good_part hpn hpp hx (by unfold insP; exact List.mem_map_of_mem (List.getElem_mem hm)) hsvm
        refine ⟨sx_late s617 s18 hdd, ⟨_, _, ⟨s18 _ _ ndp.symm (u17 _ _ hf16.1), hf16.2⟩⟩, s18 _ _ nevd (u17 _ _ hev16), TpAll.sx (TpAll.same hevt16 u17) s18 hntd, s18 _ _ nsod (u17 _ _ hso16), TpAll.sx (TpAll.same hsot16 u17) s18 hntd, s18 _ _ n2d (u17 _ _ ha16), ⟨_, hd18, ?_⟩, _, _, rfl⟩
        rw [ht5]
        exact ((hfed16.mono fun _ _ => same_sqt u17).mono fun _ _ => sqt_sx' s18 hntd).put ((hvt16.same u17).sx s18 hntd) hgood
      · rintro σ H15 ⟨s15, hf15, hev15, hevt15, hso15, hsot15, ha15, ⟨kvs5, hd15, hfed15⟩, y16, y17, rfl⟩
        refine ⟨s15, hf15, hev15, hevt15, ⟨kvs5, hd15, ?_⟩, _, _, _, _, _, _, _, rfl⟩
        rw [tgtsTo_succ hx]
        have : (insP x).take ((insT x.2).map V.str).length = insP x := by
          rw [List.length_map, List.take_of_length_le]
          unfold insP
          rw [List.length_map]
          exact Nat.le_refl _
        rw [this] at hfed15
        exact hfed15
    · rintro σ H9 ⟨s9, ⟨a9, b9, hf9⟩, hev9, hevt9, ⟨kvs, hd9, hfed9⟩, x11, x12, x13, x14, x15, x16, x17, rfl⟩
      have hzsl := parts_len hparts
      rw [hzsl] at hfed9
      have hnt6 : NotT H6 p := notT_lst hf6.1
      have hol9 := s9 _ _ nol hol6
      -- the loop over the outputs
      refine ⟨_, rfl, ol, rfl, ⟨_, SqL.of hol9⟩, for_list (K := K) (a := ol) (xs := outs.map V.str) (fun m σ H' => SameX p H6 H' ∧ (∃ a b, FeedAt H' p a b) ∧ H' ev = some (.lst evs) ∧ TpAll K H' evs ((inPorts ins).map dPort) ∧
        (∃ kvs, DNm P w K H' dd kvs ∧ FedOk K H' kvs (parts.flatMap insP ++ (outs.take m).map fun n => ([], n)) (GoodS ins parts)) ∧
        ∃ x11 x12 x13 x14 x15 x16 x17 : Option V, σ = [some (.ref p), some (.ref wl), some (.int (most : Nat)), some (.ref il), some (.ref ol), some (.int (mm : Nat)), some (.ref tl), some (.ref pl), some (.ref zl), some (.ref dd), some (.ref ev), x11, x12, x13, x14, x15, x16, x17])
        ⟨s9, ⟨_, _, hf9⟩, hev9, hevt9, ⟨kvs, hd9, by rw [List.take_zero, List.map_nil, List.append_nil, ← tgtsTo_all]; exact hfed9⟩, _, _, _, _, _, _, _, rfl⟩ (fun m σ H' _ h => SqL.of (h.1 _ _ nol hol6)) ?_ ?_⟩
      · rintro m y σ H15 hy ⟨s15, ⟨a15, b15, hf15⟩, hev15, hevt15, ⟨kvs5, hd15, hfed15⟩, y11, y12, y13, y14, y15, y16, y17, rfl⟩
        obtain ⟨hm, e⟩ := List.getElem?_eq_some_iff.mp hy
        rw [List.length_map] at hm
        rw [List.getElem_map] at e
        subst e
        dsimp only [gName]
        have hp15 : PartsAt K H15 zs parts := TpAll.sx hparts s15 hnt6
        refine ⟨_, rfl, _, rfl, _, rfl, _, rfl, zl, zs, parts, mm, rfl, SqL.of (s15 _ _ nzl hz), hp15, htx, by omega, fun sl sws H16 s16 hsl hsn hst => ?_⟩
        have hsll := TpAll.len hst
        rw [List.length_map] at hsll
        have h32 := srcs_len (n := mm) htx
        refine ⟨sl, 2, sws, rfl, rfl, hsl, by decide, by decide, szl (by show sws.length * 2 ≤ 100000; omega), fun rl hrl => ?_⟩
        have erep : (List.replicate (2 : Int).toNat sws).flatten = sws ++ sws := by
          show (List.replicate 2 sws).flatten = _
          simp [List.replicate]
        rw [erep]
        have t17 := same_new (o := .lst (sws ++ sws)) hrl
        have s17 := s16.trans t17
        refine ⟨ev, rl, _, _, rfl, rfl, s17 _ _ hev15, upd_same, szl (by rw [List.length_append]; omega), fun cl hcl => ?_⟩
        have t18 := same_new (o := .lst (evs ++ (sws ++ sws))) hcl
        have s18 := s17.trans t18
        have hcl18 : upd (upd H16 rl (.lst (sws ++ sws))) cl (.lst (evs ++ (sws ++ sws))) cl = some (.lst (evs ++ (sws ++ sws))) := upd_same
        have ncp : cl ≠ p := (ne_of_none (s17 _ _ hf15.1) hcl).symm
        have hct : TpAll K (upd (upd H16 rl (.lst (sws ++ sws))) cl (.lst (evs ++ (sws ++ sws)))) (evs ++ (sws ++ sws)) ((inPorts ins ++ (srcs parts mm ++ srcs parts mm)).map dPort) := by
          rw [List.map_append, List.map_append]
          exact (TpAll.same hevt15 s18).app ((TpAll.same hst (t17.trans t18)).app (TpAll.same hst (t17.trans t18)))
        have hf18 := feed_same s18 hf15
        have hev18 := s18 _ _ hev15
        have hevt18 := TpAll.same hevt15 s18
        have hd18 := hd15.same s18
        have hfed18 := hfed15.mono fun _ _ => same_sqt s18
        have s618 := s15.trans (sx_of s18)
        revert hcl18 hct hf18 hev18 hevt18 hd18 hfed18 s618
        generalize upd (upd H16 rl (.lst (sws ++ sws))) cl (.lst (evs ++ (sws ++ sws))) = H18
        intro hcl18 hct hf18 hev18 hevt18 hd18 hfed18 s618
        have h0 : 0 < parts.length := by omega
        have hpos := srcs_pos (n := mm) (List.getElem?_eq_getElem h0) (htx _ (List.getElem_mem h0)) (.inl (by omega))
        refine ⟨p, cl, _, _, _, rfl, hf18, SqL.of hcl18, ncp, by rw [List.length_append, List.length_append]; omega, by rw [List.length_append, List.length_append]; omega, fun v a19 b19 hv hf19 => ?_⟩
        have s19 : SameX p H18 (upd H18 p (.lst [.int a19, .int b19])) := sx_put (sx_of (Same.refl H18))
        have hnt18 : NotT H18 p := notT_lst hf18.1
        obtain ⟨iv, hiv⟩ := List.getElem?_of_mem hv
        obtain ⟨dv, hdv, hvt⟩ := TpAll.get hct hiv
        rw [List.getElem?_map] at hdv
        obtain ⟨sv, hsv, rfl⟩ := Option.map_eq_some_iff.mp hdv
        have hsvm := List.mem_of_getElem? hsv
        have hvt19 := hvt.sx s19 hnt18
        have hev19 := s19 _ _ nevp hev18
        have hevt19 := TpAll.sx hevt18 s19 hnt18
        have hd19 := hd18.sx s19 hnt18 ndp
        have hfed19 := hfed18.mono fun _ _ => sqt_sx' s19 hnt18
        have s619 := s618.trans s19
        revert hf19 hvt19 hev19 hevt19 hd19 hfed19 s619
        generalize upd H18 p (.lst [.int a19, .int b19]) = H19
        intro hf19 hvt19 hev19 hevt19 hd19 hfed19 s619
        refine ⟨_, rfl, szl (Nat.zero_le _), fun c1 H20 u20 k20 => ⟨_, rfl, szl (show 2 ≤ 100000 by decide), fun c2 H21 u21 k21 => ?_⟩⟩
        have u2021 := u20.trans u21
        have hkl : kvs5.length < sizeLine := szt (by
          have h1 := hfed15.1
          have h2 := tgtsTo_len (j := parts.length) htx
          rw [tgtsTo_all] at h2
          rw [List.length_append, List.length_map, List.length_take] at h1
          omega)
        have hd21 := hd19.same u2021
        have hntd : NotT H21 dd := hd21.notT
        have s621 := s619.trans (sx_of u2021)
        refine ⟨dd, kvs5, kPort ([], outs[m]), rfl, hd21, key_port (tp_port (p := []) k21.sqt (tp_path (p := []) (k20.same u21).sqt)), hkl, fun H22 s22 hd22 => ?_⟩
        refine ⟨sx_late s621 s22 hdd, ⟨_, _, ⟨s22 _ _ ndp.symm (u2021 _ _ hf19.1), hf19.2⟩⟩, s22 _ _ nevd (u2021 _ _ hev19), TpAll.sx (TpAll.same hevt19 u2021) s22 hntd, ⟨_, hd22, ?_⟩, _, _, _, _, _, _, _, rfl⟩
        have es : parts.flatMap insP ++ (outs.take (m + 1)).map (fun n => (([], n) : Nt.Prt)) = (parts.flatMap insP ++ (outs.take m).map fun n => ([], n)) ++ [([], outs[m])] := by
          rw [List.take_add_one, List.getElem?_eq_getElem hm, List.map_append, ← List.append_assoc]
          rfl
        rw [es]
        exact ((hfed19.mono fun _ _ => same_sqt u2021).mono fun _ _ => sqt_sx' s22 hntd).put ((hvt19.same u2021).sx s22 hntd) (good_out hpp hsvm)
      · rintro σ H15 ⟨s15, ⟨a15, b15, hf15⟩, hev15, hevt15, ⟨kvs5, hd15, hfed15⟩, y11, y12, y13, y14, y15, y16, y17, rfl⟩
        rw [List.length_map, List.take_length] at hfed15
        have hfed15 : FedOk K H15 kvs5 (tgts outs parts) (GoodS ins parts) := hfed15
        have hz15 := s15 _ _ nzl hz
        have hp15 : PartsAt K H15 zs parts := TpAll.sx hparts s15 hnt6
        refine ⟨_, rfl, _, rfl, _, rfl, _, rfl, p, zl, zs, parts, a15, b15, rfl, hf15, hz15, nzl, hp15, by omega, fun l' ws' parts' H16 a16 b16 s16 hf16 hl' nl' hp' hperm => ?_⟩
        have hnt15 : NotT H15 p := notT_lst hf15.1
        have hfed16 := hfed15.mono fun _ _ => sqt_sx' s16 hnt15
        obtain ⟨src, hsrc⟩ := hfed16.src
        have s616 := s15.trans s16
        have htx' : ∀ x ∈ parts', TextOk x.2 := fun x hx => htx x (hperm.mem_iff.mp hx)
        have hl16 : parts'.length ≤ 16 := by rw [hperm.length_eq]; omega
        refine ⟨_, rfl, il, ol, l', dd, ins, outs, ws', parts', kvs5, src, rfl, SqL.of (s616 _ _ nil' hil6), SqL.of (s616 _ _ nol hol6), SqL.of hl', hp', htx', hl16, ho8, (hd15.sx s16 hnt15 ndp).dn, fun t ht => (hsrc t ((tgts_perm hperm).mem_iff.mp ht)).1, fun n H17 s17 hn hnet => ?_⟩
        have sAll : SameX p H H6 := ((s1.trans s2).trans s3).trans (s35.trans (sx_of s6))
        refine k n H17 ins outs parts' _ a16 b16 ((sAll.trans s616).trans (sx_of s17)) (feed_same s17 hf16) (ne_of_none hf16.1 hn).symm hnet ?_
        exact net_ok hio hi8 ho8 hnm hpn hpp htx (by omega) hperm fun t ht => (hsrc t ht).2

end
end K82

set_option maxRecDepth 100000
set_option maxHeartbeats 4000000
namespace Sx
open PySem PySem.Spec PyProof.Rows L2 Ly
abbrev IsP (P : Program) (w : World) (h : Heap) (k : List Str) (b : Addr) : Prop := IsTupleKey (PySem.strKind P w) h k b
abbrev hsh (P : Program) (w : World) (k : List Str) : Int := tupleKeyHash (PySem.strKind P w) k
section
variable {P : Program} {w : World} {A : Around} {E : Value → Shared → Prop} {s : Shared}
theorem txts {k : List Str} {vs : List Value} (h : ItemsAre (PySem.strKind P w) k vs) : ∀ v ∈ vs, ∃ z t, v = Value.str z t := by
  induction h with
  | nil => exact fun v hv => (by cases hv)
  | @cons k0 u ks us h1 _ ih =>
    intro v hv
    rcases List.mem_cons.mp hv with rfl | hv
    · cases v with
      | str z t => exact ⟨z, t, rfl⟩
      | _ => simp [PySem.strKind, Value.isStrOf] at h1
    · exact ih v hv
theorem cls_txt (n : Nat) (z : Str) (t : Tok) : ofAClassStatement n (.str z t) = pure false := by cases n <;> rfl
theorem hbv_txt (n : Nat) (z : Str) (t : Tok) : hashByValue n (.str z t) = pure false := by cases n <;> rfl
theorem cls_path {k : List Str} {b : Addr} {Q : Bool → Shared → Prop} (hk : IsP P w s.heap k b) (h : Q false s) : wpAny (model P w) A (ofAClassStatement 8 (.ref b)) Q E s := by
  have hT := hk.typeIs
  obtain ⟨ob, its, m, h1, _, h2, h3⟩ := hk
  unfold ofAClassStatement
  refine wpAny_bind (wpAny_typeOf hT ?_)
  dsimp only
  have e : (("tuple" : String) == "tuple") = true := by decide
  simp only [e, if_true, Bool.not_true, Bool.false_eq_true, if_false]
  try refine wpAny_bind (wpAny_pure ?_)
  try simp only [Bool.not_true, Bool.false_eq_true, if_false]
  show wpAny _ _ (seqItems? (.ref b) >>= _) _ _ s
  refine wpAny_bind (wpAny_seqItems h1 h2 ?_)
  dsimp only
  refine wpAny_bind ?_
  show wpAny _ _ (forIn its _ _) _ _ s
  rw [← Array.forIn_toList]
  refine wpAny_forIn_list _ (fun rs r s' => r.1 = none ∧ s' = s ∧ ∀ v ∈ rs, ∃ z t, v = Value.str z t) _ ?_ ?_ _ _ ⟨rfl, rfl, txts h3⟩
  · rintro v rs r s' ⟨_, rfl, al⟩
    obtain ⟨z, t, rfl⟩ := al v List.mem_cons_self
    rw [cls_txt]
    refine wpAny_bind (wpAny_pure ?_)
    simp only [Bool.false_eq_true, if_false]
    exact wpAny_pure ⟨rfl, rfl, fun u hu => al u (List.mem_cons_of_mem _ hu)⟩
  · rintro ⟨r1, r2⟩ s' ⟨hr, rfl, _⟩
    simp only at hr
    subst hr
    exact wpAny_pure h
theorem hbv_path {k : List Str} {b : Addr} {Q : Bool → Shared → Prop} (hk : IsP P w s.heap k b) (h : ∀ bo, Q bo s) : wpAny (model P w) A (hashByValue 8 (.ref b)) Q E s := by
  have hT := hk.typeIs
  obtain ⟨ob, its, m, h1, _, h2, h3⟩ := hk
  unfold hashByValue
  refine wpAny_bind (wpAny_specialOf hT F.slot_tuple_hash.lookup ?_)
  show wpAny _ _ (seqItems? (.ref b) >>= _) _ _ s
  refine wpAny_bind (wpAny_seqItems h1 h2 ?_)
  refine wpAny_bind ?_
  show wpAny _ _ (forIn its _ _) _ _ s
  rw [← Array.forIn_toList]
  refine wpAny_forIn_list _ (fun rs r s' => r.1 = none ∧ s' = s ∧ ∀ v ∈ rs, ∃ z t, v = Value.str z t) _ ?_ ?_ _ _ ⟨rfl, rfl, txts h3⟩
  · rintro v rs r s' ⟨_, rfl, al⟩
    obtain ⟨z, t, rfl⟩ := al v List.mem_cons_self
    rw [hbv_txt]
    refine wpAny_bind (wpAny_pure ?_)
    simp only [Bool.not_false, if_true]
    exact wpAny_pure (wpAny_pure (h false))
  · rintro ⟨r1, r2⟩ s' ⟨hr, rfl, _⟩
    simp only at hr
    subst hr
    exact wpAny_pure (h true)
/-- an entry of the table: a path among Ks -/
def Ent (P : Program) (w : World) (h : Heap) (Ks : List (List Str)) (e : Int × Value) : Prop := ∃ k b, e = (hsh P w k, Value.ref b) ∧ IsP P w h k b ∧ k ∈ Ks
theorem seen_no {k : List Str} {b : Addr} {Ks : List (List Str)} {Q : Bool → Shared → Prop} (hk : IsP P w s.heap k b) {ys : List Value} (hy : ∀ y ∈ ys, ∃ k' c, y = Value.ref c ∧ IsP P w s.heap k' c) (h : Q false s) :
    wpAny (model P w) A (searchCouldBeSeen (.ref b) ys) Q E s := by
  unfold searchCouldBeSeen
  refine wpAny_bind ?_
  refine wpAny_forIn_list _ (fun rs r s' => r.1 = none ∧ s' = s ∧ ∀ y ∈ rs, ∃ k' c, y = Value.ref c ∧ IsP P w s.heap k' c) _ ?_ ?_ _ _ ⟨rfl, rfl, hy⟩
  · rintro v rs r s' ⟨_, rfl, al⟩
    obtain ⟨k', c, rfl, hc⟩ := al v List.mem_cons_self
    have al' : ∀ y ∈ rs, ∃ k' c, y = Value.ref c ∧ IsP P w s'.heap k' c := fun u hu => al u (List.mem_cons_of_mem _ hu)
    dsimp only
    by_cases hv : (b == c || (carriedByValue (.ref b) && carriedByValue (.ref c))) = true
    · exact wp_if_pos hv (wpAny_pure ⟨rfl, rfl, al'⟩)
    · refine wp_if_neg hv (wpAny_bind (wpAny_eqIsQuiet_tuple hk ?_))
      simp only [Bool.not_true, Bool.false_eq_true, if_false]
      refine wpAny_bind (wpAny_eqIsQuiet_tuple hc ?_)
      simp only [Bool.not_true, Bool.false_eq_true, if_false]
      refine wpAny_bind (cls_path hk ?_)
      simp only [Bool.false_eq_true, if_false]
      refine wpAny_bind (cls_path hc ?_)
      simp only [Bool.false_eq_true, if_false]
      exact wpAny_pure ⟨rfl, rfl, al'⟩
  · rintro ⟨r1, r2⟩ s' ⟨hr, rfl, _⟩
    simp only at hr
    subst hr
    exact wpAny_pure h
structure Tb (P : Program) (w : World) (h : Heap) (Ks : List (List Str)) (n : Nat) (es : Array (Int × Value)) (t : SetTable) : Prop where
  size : es.size = n
  tab : TabOk t (es.toList.map (·.1))
  ent : ∀ e ∈ es.toList, Ent P w h Ks e
  led : w.params.followText "set-order" = true ∨ t.led = true
  few : n ≤ 17
  room : n * 5 < t.mask * 3
/-- the set at a; its members stand in h0 -/
def Ps (P : Program) (w : World) (h0 h : Heap) (a : Addr) (Ks : List (List Str)) (n : Nat) : Prop := ∃ o es ep t, h.get? a = some o ∧ o.ExactSet ∧ o.data = .set es ep t ∧ Tb P w h0 Ks n es t
theorem IsP.old {h h' : Heap} {k : List Str} {b : Addr} (x : IsP P w h k b) (hk : ∀ c o, h.get? c = some o → h'.get? c = some o) : IsP P w h' k b := by
  obtain ⟨ob, its, m, h1, r⟩ := x
  exact ⟨ob, its, m, hk b ob h1, r⟩
variable {a : Addr} {h0 : Heap} {Ks : List (List Str)} {n : Nat} {es : Array (Int × Value)} {t : SetTable}
theorem Tb.fits (R : Tb P w h0 Ks n es t) : t.fits es.size = true := by
  have h1 := R.tab.sz
  rw [List.length_map, Array.length_toList] at h1
  have h3 := R.room
  have h4 := R.size
  unfold SetTable.fits SetTable.fill
  rw [R.tab.dm, Bool.and_eq_true, beq_iff_eq, decide_eq_true_eq]
  exact ⟨h1, by show t.place.size + 0 ≤ t.mask; omega⟩
theorem Tb.whole (R : Tb P w h0 Ks n es t) : ¬ t.gaveWay = true := by
  have := mask_odd R.tab.mok
  unfold SetTable.gaveWay
  rw [this]
  decide
theorem nth_dum (m : Nat) : ∀ (c : Nat) (p : SetTable.Probe), p.dummy = none → (nth m p c).dummy = none
  | 0, _, h => h
  | c + 1, p, h => nth_dum m c (adv m p) (by unfold adv; split <;> exact h)
/-- a search for what is not there ends at an empty slot -/
theorem search_free {o : Obj} {ep : Nat} (ho : s.heap.get? a = some o) (hd : o.data = .set es ep t) (R : Tb P w h0 Ks n es t) (hk : ∀ c o, h0.get? c = some o → s.heap.get? c = some o) {x : Addr} {k : List Str} (hx : IsP P w s.heap k x) (hno : k ∉ Ks) (hu : A.units < cLine) {K : Nat} (hK1 : K < 10 * SetTable.turns t.mask)
    (hK2 : way t.mask (hsh P w k) K ∉ t.place.toList) (hK3 : ∀ c, c < K → way t.mask (hsh P w k) c ∈ t.place.toList) {Q : SetFound → Shared → Prop} (q : Q (.free (way t.mask (hsh P w k) K) false) s) :
    ∀ (f c : Nat) (st : Option SetTable.Probe), st.getD (t.probeStart (hsh P w k)) = nth t.mask (runAt t.mask (SetTable.bits (hsh P w k) % (t.mask + 1)) (SetTable.bits (hsh P w k))) c → c ≤ K → K - c < f →
      wpAny (model P w) A (setSearchFrom a (.ref x) (hsh P w k) true f st) Q E s := by
  intro f
  induction f with
  | zero => exact fun c st _ _ h => absurd h (Nat.not_lt_zero _)
  | succ f ih =>
    intro c st hst hc hf
    rw [setSearchFrom_succ]
    refine wpAny_bind (wpAny_setState_of ho hd R.fits ?_)
    dsimp only
    refine wp_if_neg R.whole ?_
    try refine wpAny_bind (wpAny_pure ?_)
    generalize hr0 : runAt t.mask (SetTable.bits (hsh P w k) % (t.mask + 1)) (SetTable.bits (hsh P w k)) = r0 at hst ih
    have ew : ∀ j, (nth t.mask r0 j).j = way t.mask (hsh P w k) j := fun j => by rw [← hr0]
    have e1 : ∀ j, (nth t.mask (nth t.mask r0 c) j).j = way t.mask (hsh P w k) (c + j) := fun j => by rw [← nth_add, ew]
    have dum : (nth t.mask r0 c).dummy = none := nth_dum _ c _ (by rw [← hr0]; rfl)
    have eK : c + (K - c) = K := by omega
    have spec := go_spec t R.tab.ris R.tab.dm (fun i => (es[i]?.map (·.1)).getD 0) (hsh P w k) (10 * SetTable.turns t.mask) (K - c) (nth t.mask r0 c) dum (by omega) (fun j hj => by rw [e1]; exact hK3 _ (by omega)) (by rw [e1, eK]; exact hK2)
    rcases spec with ⟨j, i, hj, hi, _, _, hp⟩ | ⟨_, hp⟩
    · have hp' : t.probe (fun i => (es[i]?.map (·.1)).getD 0) (hsh P w k) (st.getD (t.probeStart (hsh P w k))) = some (.candidate (way t.mask (hsh P w k) (c + j)) i (nth t.mask r0 (c + (j + 1)))) := by
        rw [hst, ← e1, nth_add]
        exact hp
      rw [hp']
      dsimp only
      rw [e1] at hi
      have hil : i < es.size := by
        have h1 := (List.getElem?_eq_some_iff.mp hi).1
        have h2 := R.tab.sz
        rw [List.length_map, Array.length_toList] at h2
        rw [Array.length_toList] at h1
        omega
      have hei : es[i]? = some es[i] := Array.getElem?_eq_getElem hil
      obtain ⟨k2, b2, e2, hb2, hm2⟩ := R.ent es[i] (by simp)
      rw [e2] at hei
      have ne : k2 ≠ k := fun e => hno (e ▸ hm2)
      have tail : wpAny (model P w) A (searchRest a (.ref x) (hsh P w k) true f es t (way t.mask (hsh P w k) (c + j)) i (nth t.mask r0 (c + (j + 1)))) Q E s := by
        unfold searchRest
        rw [hei]
        dsimp only
        refine wpAny_bind (wpAny_holding (wpAny_eqBool_tuple hu (IsP.old hb2 hk) hx ?_))
        refine wpAny_bind (wpAny_setState_of ho hd R.fits ?_)
        dsimp only
        rw [decide_eq_false ne]
        refine wp_if_neg (by decide) ?_
        try refine wpAny_bind (wpAny_pure ?_)
        rw [sameMem]
        dsimp only
        simp only [if_true, slot_live R.tab.ris hi, hei]
        refine wpAny_bind (wpAny_isSame_ref_self (wpAny_bind (wpAny_pure ?_)))
        simp only [if_true]
        refine wp_if_neg (by decide) ?_
        exact ih (c + (j + 1)) (some _) (by rfl) (by omega) (by omega)
      by_cases hl : t.led = true
      · refine wp_if_neg (by simp [hl]) ?_
        try refine wpAny_bind (wpAny_pure ?_)
        exact tail
      · refine wp_if_pos (by simp [hl]) ?_
        refine wpAny_bind (seen_no (Ks := Ks) hx (fun y hy => ?_) ?_)
        · obtain ⟨e, he, rfl⟩ := List.mem_map.mp hy
          have he1 : e ∈ es ∧ e.1 = hsh P w k := by simpa using he
          obtain ⟨k3, b3, rfl, hb3, _⟩ := R.ent e (by simpa using he1.1)
          exact ⟨k3, b3, rfl, IsP.old hb3 hk⟩
        · refine wp_if_neg (by decide) ?_
          try refine wpAny_bind (wpAny_pure ?_)
          exact tail
    · have hp' : t.probe (fun i => (es[i]?.map (·.1)).getD 0) (hsh P w k) (st.getD (t.probeStart (hsh P w k))) = some (.empty (way t.mask (hsh P w k) K) none) := by
        rw [hst]
        refine hp.trans ?_
        rw [e1, eK]
      rw [hp']
      exact wpAny_pure q
theorem fm_get (es : Array (Int × Value)) : ∀ l : List Nat, (∀ i ∈ l, i < es.size) → (l.filterMap fun i => es[i]?).map (·.1) = (l.map fun i => (es.map (·.1)).getD i 0) ∧ (∀ e ∈ l.filterMap fun i => es[i]?, e ∈ es.toList)
  | [], _ => ⟨rfl, fun e he => (by cases he)⟩
  | i :: l, h => by
    obtain ⟨a1, a2⟩ := fm_get es l fun j hj => h j (List.mem_cons_of_mem _ hj)
    have hi := h i List.mem_cons_self
    have hg : es[i]? = some es[i] := Array.getElem?_eq_getElem hi
    rw [List.filterMap_cons_some hg]
    refine ⟨?_, fun e he => ?_⟩
    · rw [List.map_cons, List.map_cons, a1]
      have : (es.map (·.1))[i]? = some es[i].1 := by rw [Array.getElem?_map, hg] <;> rfl
      rw [Array.getD_eq_getD_getElem?, this]
      rfl
    · rcases List.mem_cons.mp he with rfl | he
      · simp
      · exact a2 e he
/-- the table of five, laid anew -/
theorem relay_five {o : Obj} {ep : Nat} (ho : s.heap.get? a = some o) (hex : o.ExactSet) (hd : o.data = .set es ep t) (hsz : es.size = 5) (T : TabOk t (es.toList.map (·.1))) (hm : t.mask = 7) (en : ∀ e ∈ es.toList, Ent P w h0 Ks e) 
    (led : w.params.followText "set-order" = true ∨ t.led = true) {Q : Unit → Shared → Prop} (q : ∀ h', Heap.SameBut a s.heap h' → Ps P w h0 h' a Ks 5 → Q () { s with heap := h' }) : wpAny (model P w) A (setRelay a (SetTable.grown 5)) Q E s := by
  have hf : t.fits es.size = true := by
    have h1 := T.sz
    rw [List.length_map, Array.length_toList] at h1
    unfold SetTable.fits SetTable.fill
    rw [T.dm, Bool.and_eq_true, beq_iff_eq, decide_eq_true_eq]
    exact ⟨h1, by show t.place.size + 0 ≤ t.mask; omega⟩
  obtain ⟨t2, ord, e, hp, T2, m2, l2, p2, _⟩ := relaid_ok t (hs := es.map (·.1)) (wanted := SetTable.grown 5) (M := 31) (by rw [size_20]) (.inr (.inl rfl)) (by rw [Array.size_map]; omega)
  rw [Array.size_map] at hp
  obtain ⟨f1, f2⟩ := fm_get es ord.toList fun i hi => List.mem_range.mp (hp.mem_iff.mp hi)
  have hl : (ord.filterMap (es[·]?)).toList = ord.toList.filterMap fun i => es[i]? := by first | exact Array.toList_filterMap | simp
  have hs2 : (ord.filterMap (es[·]?)).size = es.size := by
    rw [← Array.length_toList, hl]
    have := congrArg List.length f1
    rw [List.length_map, List.length_map, hp.length_eq, List.length_range] at this
    exact this
  rw [setRelay_eq]
  refine wpAny_bind (wpAny_setState_of ho hd hf ?_)
  dsimp only
  refine wp_if_neg (by rw [size_20, sizeLine_eq]; omega) ?_
  try refine wpAny_bind (wpAny_pure ?_)
  rw [e]
  dsimp only
  refine wpAny_bind (wp_if_neg (by rw [hs2]; simp) ?_)
  try refine wpAny_bind (wpAny_pure ?_)
  refine wpAny_pure ?_
  dsimp only
  refine wpAny_storeSet_of ho hd ?_ (by rw [hs2, hsz, sizeLine_eq]; omega)
  have sb := Heap.SameBut.update s.heap a (Obj.putSet (ord.filterMap (es[·]?)) t2)
  refine q _ sb ⟨_, ord.filterMap (es[·]?), _, t2, store_at ho hd, ⟨hex.1, hex.2.1, hex.2.2⟩, rfl, hs2.trans hsz, ?_, fun x hx => ?_, by rw [l2]; exact led, by decide, by rw [m2]; decide⟩
  · rw [hl, f1]
    exact T2
  · rw [hl] at hx
    exact en x (f2 x hx)
/-- one more, a new one -/
theorem add_new (R : Ps P w h0 s.heap a Ks n) (hk : ∀ c o, h0.get? c = some o → s.heap.get? c = some o) {x : Addr} {k : List Str} (hx0 : IsP P w h0 k x) (hno : k ∉ Ks) (hu : A.units < cLine) (hn : n + 1 ≤ 17) {Q : Bool → Shared → Prop}
    (q : ∀ h', Heap.SameBut a s.heap h' → Ps P w h0 h' a (Ks ++ [k]) (n + 1) → Q true { s with heap := h' }) : wpAny (model P w) A (setAddHashed a (.ref x) (hsh P w k)) Q E s := by
  obtain ⟨o, es, ep, t, ho, hex, hd, R⟩ := R
  have hx := IsP.old hx0 hk
  have hroom := R.room
  have hsz := R.size
  obtain ⟨K, hK1, hK2, hK3⟩ := R.tab.first (by rw [List.length_map, Array.length_toList]; omega) (hsh P w k)
  have hbig : K < 100000 := by
    have : 10 * SetTable.turns t.mask ≤ 1420 := by
      unfold SetTable.turns
      rcases R.tab.mok with e | e | e <;> omega
    omega
  unfold setAddHashed
  refine wpAny_holding ?_
  rw [show (100000 : Nat) = 99999 + 1 from rfl, setAddHashedIn_succ]
  refine wpAny_bind (wpAny_setState_of ho hd R.fits ?_)
  dsimp only
  refine wp_if_neg (by simp [byScan, Value.scannable]) ?_
  try refine wpAny_bind (wpAny_pure ?_)
  unfold setSearch
  refine wpAny_bind (search_free ho hd R hk hx hno hu hK1 hK2 hK3 ?_ 100000 0 none rfl (Nat.zero_le _) (by omega))
  dsimp only
  refine wpAny_bind (wpAny_setState_of ho hd R.fits ?_)
  dsimp only
  obtain ⟨q1, q2, q3, q4, q5, _, _, _, q9⟩ := R.tab.put hK2 hK3
  generalize t.put (way t.mask (hsh P w k) K) = pt at q1 q3 q4 q5 q9 ⊢
  obtain ⟨t0, p⟩ := pt
  dsimp only at q1 q3 q4 q5 q9 ⊢
  subst q1
  -- its bit of plain hashes
  suffices hall : ∀ t1 : SetTable, (t1 = t0 ∨ t1 = { t0 with plain := false }) → wpAny (model P w) A (do
      storeSet a (SetTable.insertAt es (SetTable.below t.place (way t.mask (hsh P w k) K)) (hsh P w k, .ref x)) t1
      if (!false && t1.tooFull) = true then do
          setRelay a (SetTable.grown (es.size + 1))
          pure true
        else pure true) Q E s by
    by_cases hpl : t0.plain = true
    · first
        | (refine wpAny_bind ?_; refine wp_if_pos hpl ?_; refine hbv_path hx fun bo => ?_)
        | refine wp_if_pos hpl (wpAny_bind (hbv_path hx fun bo => ?_))
      cases bo
      · exact hall _ (.inr rfl)
      · exact hall _ (.inl rfl)
    · first
        | (refine wpAny_bind ?_; refine wp_if_neg hpl ?_; refine wpAny_pure ?_)
        | refine wp_if_neg hpl (wpAny_bind (wpAny_pure ?_))
      exact hall _ (.inl rfl)
  intro t1 ht1
  have off : ∀ hs, TabOk t0 hs → TabOk t1 hs := by
    rcases ht1 with rfl | rfl
    · exact fun _ T => T
    · exact fun _ T => ⟨T.ris, T.dm, T.sz, T.mok, T.bd, T.reach⟩
  have off4 : t1.mask = t0.mask := by rcases ht1 with rfl | rfl <;> rfl
  have off5 : t1.led = t0.led := by rcases ht1 with rfl | rfl <;> rfl
  have off9 : t1.fill = t0.fill := by rcases ht1 with rfl | rfl <;> rfl
  replace q3 := off _ q3
  replace q4 := off4.trans q4
  replace q5 := off5.trans q5
  replace q9 := off9.trans q9
  clear off off4 off5 off9 ht1
  have hin := SetTable.toList_insertAt es (SetTable.below t.place (way t.mask (hsh P w k) K)) (hsh P w k, Value.ref x)
  generalize hpp : SetTable.below t.place (way t.mask (hsh P w k) K) = p at q2 q3 hin ⊢
  rw [List.length_map, Array.length_toList] at q2 q9
  have hm : (SetTable.insertAt es p (hsh P w k, Value.ref x)).toList.map (·.1) = (es.toList.map (·.1)).take p ++ hsh P w k :: (es.toList.map (·.1)).drop p := by
    rw [hin, List.map_append, List.map_cons, List.map_take, List.map_drop]
  have hes : (SetTable.insertAt es p (hsh P w k, Value.ref x)).size = n + 1 := by
    rw [← Array.length_toList, hin, len_ins _ (by rw [Array.length_toList]; exact q2), Array.length_toList, hsz]
  have hmem : ∀ e ∈ (SetTable.insertAt es p (hsh P w k, Value.ref x)).toList, e = (hsh P w k, Value.ref x) ∨ e ∈ es.toList := fun e he => by
    rw [hin] at he
    exact mem_ins.mp he
  rw [← hm] at q3
  generalize SetTable.insertAt es p (hsh P w k, Value.ref x) = es1 at hes hmem q3 ⊢
  refine wpAny_bind (wpAny_storeSet_of ho hd ?_ (by rw [hes, sizeLine_eq]; omega))
  have sb := Heap.SameBut.update s.heap a (Obj.putSet es1 t1)
  have ho1 := store_at (es' := es1) (t' := t1) ho hd
  generalize s.heap.update a (Obj.putSet es1 t1) = h1 at sb ho1 ⊢
  have en1 : ∀ e ∈ es1.toList, Ent P w h0 (Ks ++ [k]) e := fun e he => by
    rcases hmem e he with rfl | he
    · exact ⟨k, x, rfl, hx0, List.mem_append_right _ (List.mem_singleton.mpr rfl)⟩
    · obtain ⟨k1, b, e1, hb, hm1⟩ := R.ent e he
      exact ⟨k1, b, e1, hb, List.mem_append_left _ hm1⟩
  have led1 : w.params.followText "set-order" = true ∨ t1.led = true := by rw [q5]; exact R.led
  by_cases hf : t1.tooFull = true
  · first
      | (refine wpAny_bind ?_; refine wp_if_pos (by simp [hf]) ?_)
      | (refine wp_if_pos (by simp [hf]) ?_; refine wpAny_bind ?_)
    unfold SetTable.tooFull at hf
    rw [decide_eq_true_eq, q9] at hf
    have c : t.mask = 7 ∧ n = 4 := by
      have hfew := R.few
      rcases R.tab.mok with e | e | e
      · rw [q4, e] at hf; rw [e] at hroom; exact ⟨e, by omega⟩
      · rw [q4, e] at hf; omega
      · rw [q4, e] at hf; omega
    obtain ⟨c1, c2⟩ := c
    rw [hsz, c2]
    refine relay_five (s := { s with heap := h1 }) ho1 ⟨hex.1, hex.2.1, hex.2.2⟩ rfl (by rw [hes, c2]) q3 (q4.trans c1) en1 led1 fun h2 sb2 R2 => ?_
    refine wpAny_pure (q h2 (sb.trans sb2) ?_)
    rw [c2]
    exact R2
  · first
      | refine wp_if_neg (by simp [hf]) ?_
      | (refine wpAny_bind ?_; refine wp_if_neg (by simp [hf]) ?_; refine wpAny_pure ?_)
    unfold SetTable.tooFull at hf
    rw [decide_eq_true_eq, q9] at hf
    exact wpAny_pure (q h1 sb ⟨_, es1, _, t1, ho1, ⟨hex.1, hex.2.1, hex.2.2⟩, rfl, hes, q3, en1, led1, hn, by omega⟩)
theorem ps_fresh {h : Heap} (ho : h.get? a = some { cls := .type "set", dict := none, data := .set #[] 0 (.fresh 0 0 (!w.params.followText "set-order")) }) : Ps P w h0 h a [] 0 :=
  ⟨_, #[], 0, _, ho, ⟨rfl, rfl, rfl⟩, rfl, rfl, ⟨List.Pairwise.nil, rfl, rfl, .inl rfl, fun x hx => (by cases hx), fun i h j hi => (by simp at hi)⟩, fun e he => (by simp at he), by
    show _ ∨ (!w.params.followText "set-order") = true
    cases w.params.followText "set-order"
    · exact .inr rfl
    · exact .inl rfl, by decide, by show 0 * 5 < 7 * 3; decide⟩
theorem Ps.at {h h' : Heap} (R : Ps P w h0 h a Ks n) (k : ∀ o, h.get? a = some o → h'.get? a = some o) : Ps P w h0 h' a Ks n := by
  obtain ⟨o, es, ep, t, ho, r⟩ := R
  exact ⟨o, es, ep, t, k o ho, r⟩
theorem set_loop {I : Addr} {fp wr : List Addr} {G : Array GenState → Array GenState → Prop} {N : Nat} {Pv : Nat → Value → Prop} {St : Nat → Shared → Prop} {R : Result → Shared → Prop} (W : WalksS P w A.in1 I fp wr G N Pv St) (S : Addr) (hSf : S ∉ fp) (ks : List (Addr × List Str)) (hN : N = ks.length) (h16 : ks.length ≤ 16)
    (hnd : (ks.map (·.2)).Nodup) (hval : ∀ i v, Pv i v → ∃ p, ks[i]? = some p ∧ v = .ref p.1) (hks : ∀ p ∈ ks, IsP P w h0 p.2 p.1) (hS0 : h0.get? S = none) (hw0 : ∀ b ∈ wr, h0.get? b = none) (hu : A.in1.units < cLine) :
    ∀ (m i : Nat) (s : Shared), N - i = m → i ≤ N → St i s → (∀ b o, h0.get? b = some o → s.heap.get? b = some o) → Ps P w h0 s.heap S ((ks.take i).map (·.2)) i →
      (∀ s', Moved (S :: wr) G s s' → Ps P w h0 s'.heap S (ks.map (·.2)) N → (∀ b o, h0.get? b = some o → s'.heap.get? b = some o) → R (.ok (.ret .none)) s') →
      codeAny (model P w) A (.builtin "set.update.loop" ⟨[.ref S, .ref I], []⟩) R s := by
  have nw : S ∉ wr := fun h => hSf (W.sub _ h)
  have up : ∀ b ∈ wr, b ∈ S :: wr := fun b hb => List.mem_cons_of_mem _ hb
  have keep : ∀ {s s' : Shared}, Moved wr G s s' → (∀ b o, h0.get? b = some o → s.heap.get? b = some o) → ∀ b o, h0.get? b = some o → s'.heap.get? b = some o := fun hm k b o e =>
    hm.heap b o (fun hb => by rw [hw0 b hb] at e; cases e) (k b o e)
  intro m
  induction m with
  | zero =>
    intro i s hm hi hst k hS hR
    obtain rfl : i = N := by omega
    refine codeAny_builtin F.entry_set_update_loop ?_
    rw [Around.under_plainId F.plain_set_update_loop _]
    show wpAny _ A.in1 (pyNext (.ref I) >>= _) _ _ s
    refine wpAny_bind (W.done s _ _ hst fun s' mv => ?_)
    show wpAny _ A.in1 (ret Value.none) _ _ s'
    rw [List.take_of_length_le (by omega)] at hS
    exact wpAny_pure (hR s' (mv.mono up) (hS.at fun o e => mv.heap S o nw e) (keep mv k))
  | succ m ih =>
    intro i s hm hi hst k hS hR
    have hlt : i < N := by omega
    refine codeAny_builtin F.entry_set_update_loop ?_
    rw [Around.under_plainId F.plain_set_update_loop _]
    show wpAny _ A.in1 (pyNext (.ref I) >>= _) _ _ s
    refine wpAny_bind (W.item i s _ _ hlt hst fun v s' hP hst' mv => ?_)
    obtain ⟨p, hp, rfl⟩ := hval i v hP
    have k' := keep mv k
    have hS' := hS.at (h' := s'.heap) fun o e => mv.heap S o nw e
    have hx0 := hks p (List.mem_of_getElem? hp)
    have etk : (ks.take (i + 1)).map (·.2) = (ks.take i).map (·.2) ++ [p.2] := by
      rw [List.take_add_one, hp, List.map_append]
      rfl
    have hno : p.2 ∉ (ks.take i).map (·.2) := fun hmm => by
      have h1 : ((ks.take (i + 1)).map (·.2)).Nodup := hnd.sublist ((List.take_sublist _ _).map _)
      rw [etk] at h1
      exact (List.nodup_append.mp h1).2.2 _ hmm _ (List.mem_singleton.mpr rfl) rfl
    show wpAny _ A.in1 (holding [Value.ref p.1] (setAdd S (.ref p.1)) >>= _) _ _ s'
    refine wpAny_bind (wpAny_holding ?_)
    unfold setAdd
    refine wpAny_holding ?_
    refine wpAny_bind (wpAny_pyHash_tuple hu (IsP.old hx0 k') ?_)
    refine add_new (s := { s' with toks := s'.toks + (p.2.length + 1) }) hS' k' hx0 hno hu (by omega) fun h' sb hS2 => ?_
    rw [← etk] at hS2
    have k2 : ∀ b o, h0.get? b = some o → h'.get? b = some o := fun b o e => (sb.2 b (fun z => by rw [z, hS0] at e; cases e)).trans (k' b o e)
    refine wpAny_pure ⟨plainId_quiet F.plain_set_update_loop _, ih (i + 1) _ (by omega) hlt (W.frame _ s' _ _ hst' (Nat.le_add_right _ _) fun b hb o e => ?_) k2 hS2 fun s'' mv2 hS3 k3 => ?_⟩
    · rw [sb.2 b (fun h : b = S => hSf (by rw [← h]; exact hb))]; exact e
    · refine hR s'' (Moved.trans W.gtrans ((mv.mono up).then_heap (Nat.le_add_right _ _) fun b o hb e => ?_) mv2) hS3 k3
      rw [sb.2 b (fun h : b = S => hb (by rw [h]; exact List.mem_cons_self))]; exact e
set_option maxRecDepth 100000 in
set_option maxHeartbeats 3200000 in
theorem call_setP {l : Addr} {items : Array Value} (ks : List (Addr × List Str)) {Q : Value → Shared → Prop} (hh : A.handled = none) (hl : s.heap.IsList l items) (hit : items.toList = ks.map fun p => Value.ref p.1) (hks : ∀ p ∈ ks, IsP P w s.heap p.2 p.1) (h16 : ks.length ≤ 16) (hnd : (ks.map (·.2)).Nodup) (hu : A.units + 3 < cLine)
    (h : ∀ (h' : Heap) (tk : Nat), Ps P w s.heap h' s.heap.objs.size (ks.map (·.2)) ks.length → (∀ b o, s.heap.get? b = some o → h'.get? b = some o) → Q (.ref s.heap.objs.size) { s with heap := h', toks := tk }) :
    wpAny (model P w) A (call (.type "set") [.ref l]) Q E s := by
  have hisz : items.size = ks.length := by
    have q := congrArg List.length hit
    rwa [Array.length_toList, List.length_map] at q
  obtain ⟨c, tl, hmro⟩ := F.called_set.mro
  have hmade := F.called_set.made
  have hsub := F.called_set.sub
  refine wpAny_call (codeAny_of_tree ?_)
  show wpAny _ _ (callAny (.type "set") _) _ _ _
  refine wpAny_pure ⟨Code.quiet_builtin _ (by decide +kernel), codeAny_builtin F.entry_type_call ?_⟩
  rw [Around.under_plain (weight_type_call_type "set" [.ref l] []) rfl]
  have h1 := F.called_set.notType
  have h2 := F.called_set.canCreate
  have hct := F.typeCall_set_1 (.ref l)
  repeat (any_goals (first | assumption | wp_step))
  refine codeAny_mono (code_set_led1 (.ref l) (E := E) (Q₁ := fun obj s₁ => obj = .ref s.heap.objs.size ∧ s₁ = { s with heap := s.heap.push { cls := .type "set", dict := none, data := .set #[] 0 (.fresh 0 0 (!w.params.followText "set-order")) } }) ⟨rfl, rfl⟩) fun r s₁ hr => ?_
  cases r with
  | error e => exact hr
  | ok fl =>
    cases fl with
    | ret obj =>
      obtain ⟨rfl, rfl⟩ := hr
      have hS : (s.heap.push { cls := .type "set", dict := none, data := .set #[] 0 (.fresh 0 0 (!w.params.followText "set-order")) }).get? s.heap.objs.size = some { cls := .type "set", dict := none, data := .set #[] 0 (.fresh 0 0 (!w.params.followText "set-order")) } := Heap.get?_push_size _ rfl
      have hT : Shared.TypeIs { s with heap := s.heap.push { cls := .type "set", dict := none, data := .set #[] 0 (.fresh 0 0 (!w.params.followText "set-order")) } } (.ref s.heap.objs.size) "set" := ⟨_, hS, rfl⟩
      have hli := F.called_set.init.lookup
      have hbi := F.called_set.init.bind (.ref s.heap.objs.size)
      repeat (any_goals (first | assumption | wp_step))
      refine codeAny_mono (codeAny_call_builtin (R := wants (fun r s₂ => r = .none ∧ ∃ h' tk, s₂ = { s with heap := h', toks := tk } ∧ Ps P w s.heap h' s.heap.objs.size (ks.map (·.2)) ks.length ∧
          (∀ b o, s.heap.get? b = some o → h'.get? b = some o)) E) F.called_set.init.plain F.entry_set_init (check_set_init_1 hT ?_)) fun r₂ s₂ hr₂ => ?_
      · obtain ⟨ol, hol, hcl, nl, hdl⟩ := hl
        obtain ⟨ocls, odict, odata, oslots⟩ := ol
        simp only at hcl hdl
        subst hcl; subst hdl
        have hol' : (s.heap.push { cls := .type "set", dict := none, data := .set #[] 0 (.fresh 0 0 (!w.params.followText "set-order")) }).get? l = some { cls := .type "list", dict := odict, data := .seq items nl, slots := oslots } := Heap.get?_push_of_some _ hol
        have hsls := F.sub_list_set
        have hslf := F.sub_list_frozenset
        have hne : (Value.type "list" == Value.type "dict") = false := by decide
        have hl1 : (s.heap.push { cls := .type "set", dict := none, data := .set #[] 0 (.fresh 0 0 (!w.params.followText "set-order")) }).IsList l items := ⟨_, hol', rfl, nl, rfl⟩
        unfold Builtin.«set.__init__» noKeywords Builtin.Frozenset.updateFrom
        generalize hPI : pyIter = PI
        wp_walk
        subst hPI
        refine wpAny_pyIter_list hl1 ?_
        refine wpAny_bind (wpAny_runValue ?_)
        have hlS : l < s.heap.objs.size := Heap.lt_size hol
        have hh3 : A.in1.in1.in1.handled = none := by simp [hh]
        have hneI : l ≠ (s.heap.push { cls := .type "set", dict := none, data := .set #[] 0 (.fresh 0 0 (!w.params.followText "set-order")) }).objs.size := by
          rw [Heap.size_push]; exact Nat.ne_of_lt (Nat.lt_succ_of_lt hlS)
        have hSf : s.heap.objs.size ∉ [(s.heap.push { cls := .type "set", dict := none, data := .set #[] 0 (.fresh 0 0 (!w.params.followText "set-order")) }).objs.size, l] := by
          rw [Heap.size_push]; simp only [List.mem_cons, List.mem_singleton, List.not_mem_nil, or_false, not_or]
          exact ⟨Nat.ne_of_lt (Nat.lt_succ_self _), Nat.ne_of_gt hlS⟩
        have hval : ∀ (i : Nat) (v : Value), items[i]? = some v → ∃ p, ks[i]? = some p ∧ v = .ref p.1 := fun i v hv => by
          have q : items.toList[i]? = some v := by rw [Array.getElem?_toList]; exact hv
          rw [hit, List.getElem?_map] at q
          obtain ⟨p, hp, e⟩ := Option.map_eq_some_iff.mp q
          exact ⟨p, hp, e.symm⟩
        have new_none : ∀ b, s.heap.objs.size ≤ b → s.heap.get? b = none := fun b hb => by
          cases q : s.heap.get? b with
          | none => rfl
          | some o => exact absurd (Nat.lt_of_lt_of_le (Heap.lt_size q) hb) (Nat.lt_irrefl _)
        refine set_loop (h0 := s.heap) ((Walks.list hh3 _ l hneI items).toS) s.heap.objs.size hSf ks hisz h16 hnd hval hks (new_none _ (Nat.le_refl _)) (fun b hb => new_none b (by
            rw [List.mem_singleton.mp hb, Heap.size_push]
            exact Nat.le_succ _)) hu (items.size - 0) 0 _ (by omega) (Nat.zero_le _)
          ⟨⟨_, Heap.get?_push_size _ rfl, rfl, rfl⟩, (hl1.push _)⟩ (fun b o e => Heap.get?_push_of_some _ (Heap.get?_push_of_some _ e)) ?hS0 ?hR
        case hS0 =>
          have hget : ((s.heap.push { cls := .type "set", dict := none, data := .set #[] 0 (.fresh 0 0 (!w.params.followText "set-order")) }).push { cls := .type "list_iterator", data := .fields #[.ref l, .int 0 0] }).get? s.heap.objs.size
              = some { cls := .type "set", dict := none, data := .set #[] 0 (.fresh 0 0 (!w.params.followText "set-order")) } := Heap.get?_push_of_some _ hS
          exact ps_fresh hget
        case hR =>
          intro s' hm hS' hkp
          obtain ⟨h', g2, d', tk', os'⟩ := s'
          have eg : g2 = s.gens := hm.gens
          have ed : d' = s.drawn := hm.drawn
          have eo : os' = s.os := hm.os
          subst eg; subst ed; subst eo
          show wpAny _ _ _ _ _ _
          refine wpAny_pure ?_
          show wpAny _ _ (ret Value.none) _ _ _
          rw [hisz] at hS'
          exact wpAny_pure ⟨rfl, h', tk', rfl, hS', hkp⟩
      · cases r₂ with
        | error e => exact hr₂
        | ok fl₂ =>
          cases fl₂ with
          | ret r =>
            obtain ⟨rfl, h', tk, rfl, hS', hk'⟩ := hr₂
            repeat (any_goals (first | assumption | wp_step))
            exact h _ _ hS' hk'
          | _ => exact hr₂.elim
    | _ => exact hr.elim
end
/-- a set of n members -/
def SetN (h : Heap) (a : Addr) (n : Nat) : Prop := ∃ o es ep t, h.get? a = some o ∧ o.ExactSet ∧ o.data = .set es ep t ∧ es.size = n ∧ t.fits es.size = true ∧ n ≤ 17
def SetNO (a : Addr) (n : Nat) : HO := .ext fun h => SetN h a n
theorem Ps.setN {P : Program} {w : World} {h0 h : Heap} {a : Addr} {Ks : List (List Str)} {n : Nat} (R : Ps P w h0 h a Ks n) : SetN h a n := by
  obtain ⟨o, es, ep, t, ho, hex, hd, R⟩ := R
  exact ⟨o, es, ep, t, ho, hex, hd, R.size, Tb.fits R, R.few⟩
theorem setNO_new {P : Program} {w : World} {H : Hp} {h : Heap} {a : Addr} {n : Nat} (R : SetN h a n) : ObjOk P w H h a (SetNO a n) := by
  have ⟨o, _, _, _, ho, _⟩ := R
  exact ⟨R, ⟨o, ho⟩, fun h1 h2 ⟨o, es, ep, t, e, r⟩ k => ⟨o, es, ep, t, k o e, r⟩⟩
open Nd Nt
theorem items_txt {P : Program} {w : World} : ∀ {k : List Str} {us : List Value}, Vals (k.map V.str) us → ItemsAre (PySem.strKind P w) k us
  | [], _, .nil => .nil
  | z :: k, _, .cons r t => by
    obtain ⟨tk, rfl⟩ := (show ∃ t, _ = Value.str z t from r)
    exact .cons (strKind_is P w z tk) (items_txt t)
section
variable {X : Cx} {pins : List (Addr × Obj)} {σ : L2.St} {H : Hp} {s : Shared}
theorem isP_of (I : Inv X pins σ H s) {b : Addr} {k : List Str} (h : SqT X.K H b (k.map V.str)) : IsP X.prog X.w s.heap k b := by
  obtain ⟨its, rv, ⟨o, ho, hc, n, hd⟩, _⟩ := I.tuple h
  exact ⟨o, its.toArray, n, ho, hc, hd, by simpa using items_txt rv⟩
theorem paths_of (I : Inv X pins σ H s) : ∀ {us : List V} {ps : List Nt.Pth} {its : List Value}, TpAll X.K H us (ps.map dTx) → Vals us its → ∃ ks : List (Addr × List Str), its = ks.map (fun p => Value.ref p.1) ∧ ks.map (·.2) = ps ∧ ∀ p ∈ ks, IsP X.prog X.w s.heap p.2 p.1
  | _, [], _, .nil, .nil => ⟨[], rfl, rfl, fun p hp => (by cases hp)⟩
  | _, p :: ps, _, .cons h t, .cons r rs => by
    obtain ⟨ks, e1, e2, e3⟩ := paths_of I t rs
    obtain ⟨a, rfl, h1⟩ := path_inv h
    cases r
    refine ⟨(a, p) :: ks, by rw [e1]; rfl, by rw [← e2]; rfl, fun q hq => ?_⟩
    rcases List.mem_cons.mp hq with rfl | hq
    · exact isP_of I h1
    · exact e3 q hq
end
def rSetP (K : PySem.W.Frag) : List V → Hp → VK → Prop := fun vs H Q => ∃ (l : Addr) (us : List V) (ps : List Nt.Pth), vs = [.ref l] ∧ SqL K H l us ∧ TpAll K H us (ps.map dTx) ∧ ps.Nodup ∧ ps.length ≤ 16 ∧ ∀ p, H p = none → Q (.ref p) (upd H p (SetNO p ps.length))
def rLenN : List V → Hp → VK → Prop := fun vs H Q => ∃ (a : Addr) (n : Nat), vs = [.ref a] ∧ H a = some (SetNO a n) ∧ Q (.int n) H
section
variable {X : Cx}
theorem cr_setP (K : PySem.W.Frag) (hc : X.calm = true) (hu : X.A.units + 3 < cLine) (hK : X.K = K := by rfl) : CallR X (.type "set") (rSetP K) := by
  subst hK
  intro pins s σ H vs us Q I r h
  obtain ⟨l, us', ps, rfl, hl, ht, hn, h16, q⟩ := h
  rw [Vals.ref1 r]
  obtain ⟨its, rv, pl, _⟩ := I.list hl
  obtain ⟨ks, e1, e2, e3⟩ := paths_of I ht rv
  have hlen : ks.length = ps.length := by rw [← e2, List.length_map]
  refine call_setP ks (I.ok.hd hc) pl.isList (by simpa using e1) e3 (by omega) (by rw [e2]; exact hn) hu fun h' tk R k => ?_
  rw [hlen] at R
  exact ⟨.ref s.heap.objs.size, upd H s.heap.objs.size (SetNO s.heap.objs.size ps.length), I.laid (t' := tk) k (Nat.le_refl _) (setNO_new R.setN), rfl, q _ (I.hok.fresh (Nat.le_refl _))⟩
theorem cr_lenN : CallR X (.builtin "len") rLenN := by
  intro pins s σ H vs us Q I r h
  obtain ⟨a, n, rfl, ha, q⟩ := h
  rw [Vals.ref1 r]
  have R : SetN s.heap a n := (I.hok a _ ha).1
  obtain ⟨o, es, ep, t, ho, hex, hd, hn, hf, hb⟩ := R
  exact call_len_set ho hex hd hf (by omega) ⟨.int n, H, I.tok _, ⟨_, by rw [hn]⟩, q⟩
end
end Sx

set_option maxRecDepth 100000
set_option maxHeartbeats 4000000
namespace K82
open PySem L2 Ly Nd Nt Od
local macro_rules | `(tactic| walk_at "nx") => `(tactic| dsimp only [tNext])
section
variable {P : Program} {w : World} {K : PySem.W.Frag} {mg : Str → Option Value} {base : Heap} {ad : Adr}
theorem hu3 {A : Around} {k : Nat} (hr : Room k A) : A.units + 3 < cLine := by have := hu8 hr; omega
theorem sc_are_parts : FnScope ["value", "part", "path", "text"] ["value"] (defScope s_are_parts) := ⟨rfl, rfl, rfl, by decide +kernel, rfl, by decide +kernel, by decide +kernel⟩
theorem ok_areParts {f : Addr} {fd fdP fdI : FuncData} (F : Fun K "are_parts" "are_parts" s_are_parts f fd) (T : Txt K w mg ad) (G_is_path : FnOk P w K mg base CX0 2 ad.f_is_path fdP ["value"] (spIsPath K)) (b_is_path : Binds K fdP ["value"] [])
    (G_is_primitive_text : FnOk P w K mg base CX0 3 ad.f_is_primitive_text fdI ["text"] spIpt) (b_is_primitive_text : Binds K fdI ["text"] []) : FnOk P w K mg base CX0 4 f fd ["value"] (spAreParts K) := by
  refine F.ok sc_are_parts (fun vs H Q E h => ?_) (fun cdv A outer s H vs Q E hr h => ?_)
  · obtain ⟨l, us, parts, rfl, _⟩ := h
    rfl
  · obtain ⟨l, us, parts, rfl, hl, hp, hpp, htx, h16, hnd, k⟩ := h
    have hul := parts_len hp
    refine ⟨_, (pss_cons (ps_if (pt_not (pt_val (pe_callB (call_isiK K) (by rfl) T.n_isinstance (by decide +kernel) (pa_cons (pv 0) (pa_cons (pe_bltn (v := .ty "tuple") rfl T.n_tuple (by decide +kernel) rfl) pa_nil))))) (pss_one (ps_ret pe_bl)) pss_nil)
    (pss_cons (ps_for PassesOwn.never rfl (pi_tupK K (pv 0)) (pg_name (i := 1) sc_are_parts.nd rfl (Or.inl rfl))
    (pss_cons (ps_if (PW.pt (pw_or (pt_not (pt_val (pe_callB (call_isiK K) (by rfl) T.n_isinstance (by decide +kernel) (pa_cons (pv 1) (pa_cons (pe_bltn (v := .ty "tuple") rfl T.n_tuple (by decide +kernel) rfl) pa_nil))))) (pw_or (pt_cmpR op_ne (pe_callB (call_lenK K) (by rfl) T.n_len (by decide +kernel) (pa_cons (pv 1) pa_nil)) pe_int (nomark _)) (pw_or (pt_not (pt_val (pe_call G_is_path (hr.mono (by decide)) rfl T.g_is_path T.k_is_path b_is_path .nil pass0 (pa_cons (pe_ix (ix_tupK K) (pv 1) pe_int (fun _ _ => rfl)) pa_nil)))) (pw_or1 (pt_not (pt_val (pe_callB (call_isiK K) (by rfl) T.n_isinstance (by decide +kernel) (pa_cons (pe_ix (ix_tupK K) (pv 1) pe_int (fun _ _ => rfl)) (pa_cons (pe_bltn (v := .ty "str") rfl T.n_str (by decide +kernel) rfl) pa_nil)))))))))) (pss_one (ps_ret pe_bl)) pss_nil)
    (pss_one (ps_if (pt_not (pt_val (pe_call G_is_primitive_text (hr.mono (by decide)) rfl T.g_is_primitive_text T.k_is_primitive_text b_is_primitive_text .nil pass0 (pa_cons (pe_ix (ix_tupK K) (pv 1) pe_int (fun _ _ => rfl)) pa_nil)))) (pss_one (ps_ret pe_bl)) pss_nil))))
    (pss_one (ps_ret (pe_cmpR op_eq (pe_callB Sx.cr_lenN (by rfl) T.n_len (by decide +kernel) (pa_cons (pe_callTy (Sx.cr_setP K rfl (hu3 hr)) (by rfl) T.n_set (by decide +kernel) (pa_cons (pe_lc (own := [("path", 2), ("text", 3)]) rfl sc_are_parts.nd (pi_tupK K (pv 0)) (blkOk_by (own := [("path", 2), ("text", 3)]) (N := ["value", "part", "path", "text"]) (sc := defScope s_are_parts) (by decide +kernel)) (fun _ _ _ _ _ => (by exact (pg_tupK K (n := 2) (by rfl) (pgs_cons (pg_name (i := 2) sc_are_parts.nd rfl (Or.inl rfl)) (pgs_cons (pg_name (i := 3) sc_are_parts.nd rfl (Or.inl rfl)) pgs_nil))))) (fun _ _ _ _ _ => pts_nil) (fun _ _ _ _ _ => (pv 2))) pa_nil)) pa_nil)) (pe_callB (call_lenK K) (by rfl) T.n_len (by decide +kernel) (pa_cons (pv 0) pa_nil)) (nomark _)))))), ?_⟩
    refine ⟨_, rfl, .ref l, .ty "tuple", .type "tuple", .type "tuple", true, rfl, .ty _, ty_tup hl, kit_tup, _, rfl, iteF ?_⟩
    walk_at "nx"
    refine ⟨_, rfl, l, rfl, ⟨_, hl⟩, for_tup (K := K) (a := l) (xs := us) (fun j σ H' => Same H H' ∧ ∃ x1 x2 x3 : Option V, σ = [some (.ref l), x1, x2, x3]) ⟨Same.refl _, _, _, _, rfl⟩ (fun j σ H' _ h => same_sqt h.1 hl) ?_ ?_⟩
    · rintro j y σ H1 hj ⟨s1, x1, x2, x3, rfl⟩
      obtain ⟨x, hx, q, u, rfl, hq, hu⟩ := parts_get hp hj
      have hxm := List.mem_of_getElem? hx
      have hq1 := same_sqt s1 hq
      obtain ⟨a, rfl, ha⟩ := path_inv (hu.same s1)
      dsimp only [gName]
      have hw1 : TextOk x.2 := htx x hxm
      obtain ⟨nm, c, hpt, hpo, ez, ew⟩ := prim_of hw1
      refine ⟨_, rfl, .ref q, .ty "tuple", .type "tuple", .type "tuple", true, rfl, .ty _, ty_tup hq1, kit_tup, _, rfl, iteF ?_⟩
      refine ⟨_, rfl, q, _, rfl, .inr hq1, rfl, _, rfl, iteF ?_⟩
      refine ⟨_, rfl, q, _, _, _, rfl, rfl, hq1, atI_nat (j := 0) rfl, a, x.1, rfl, ha, hpp x hxm, fun H2 s2 => ⟨_, rfl, iteF ?_⟩⟩
      have hq2 := same_sqt s2 hq1
      refine ⟨_, rfl, q, _, _, _, rfl, rfl, hq2, atI_nat (j := 1) rfl, V.str x.2, .ty "str", .type "str", .type "str", true, rfl, .ty _, .base (.str x.2), kit_str, _, rfl, iteF ?_⟩
      walk_at "nx"
      refine ⟨_, rfl, q, _, _, _, rfl, rfl, hq2, atI_nat (j := 1) rfl, x.2, rfl, Nat.le_trans (textOk_len hw1) (by decide), fun H3 s3 => ⟨_, rfl, ?_⟩⟩
      have hps : (primOf x.2).isSome = true := by rw [hpo]; rfl
      rw [hps]
      refine iteF ?_
      walk_at "nx"
      exact ⟨(s1.trans s2).trans s3, _, _, _, rfl⟩
    · rintro σ H1 ⟨s1, x1, x2, x3, rfl⟩
      have hl1 := same_sqt s1 hl
      refine ⟨_, rfl, l, rfl, ⟨_, hl1⟩, fun D hD => run_it (walk_tup (K := K) (a := l) (xs := us)) (fun i H' => Same H1 H' ∧ ∃ ws, H' D = some (.lst ws) ∧ TpAll K H' ws (((parts.take i).map (·.1)).map dTx)) ⟨same_new hD, [], upd_same, .nil⟩ (fun i H' _ h => same_sqt h.1 hl1) ?_ ?_⟩
      · rintro m y H2 H' hm ⟨s2, ws, hws, hwt⟩ ⟨rfl, hy⟩
        obtain ⟨x, hx, q, u, rfl, hq, hu⟩ := parts_get hp hy
        have s12 := s1.trans s2
        refine ⟨q, _, rfl, same_sqt s12 hq, rfl, _, _, rfl, _, _, rfl, rfl, ?_⟩
        dsimp only [gName]
        refine ⟨rfl, ?_⟩
        dsimp only [tYes]
        have hwl : ws.length ≤ 16 := by
          have h1 := TpAll.len hwt
          rw [List.length_map, List.length_map, List.length_take] at h1
          omega
        refine iteT ⟨_, rfl, ws, hws, szt (by omega), same_mut s2 hD, _, upd_same, ?_⟩
        rw [List.take_add_one, hx, List.map_append, List.map_append]
        exact TpAll.sx (TpAll.snoc hwt (hu.same s12)) (sx_put (sx_of (Same.refl _))) (notT_lst hws)
      · rintro H2 ⟨s2, ws, hws, hwt⟩
        rw [hul, List.take_length] at hwt
        refine ⟨D, ws, parts.map (·.1), rfl, SqL.of hws, hwt, hnd, by rw [List.length_map]; exact h16, fun p hp0 => ⟨p, _, rfl, upd_same, ?_⟩⟩
        have s3 := (s1.trans s2).trans (same_new (o := Sx.SetNO p (parts.map (·.1)).length) hp0)
        refine ⟨_, rfl, l, _, rfl, .inr (same_sqt s3 hl), ?_⟩
        rw [hul, List.length_map]
        refine ⟨rfl, ?_⟩
        rw [decide_eq_true rfl]
        rw [List.length_map] at s3
        exact k _ s3

end
end K82

set_option maxRecDepth 100000
set_option maxHeartbeats 4000000
namespace K82
open PySem L2 Ly Nd Nt Od
local macro_rules | `(tactic| walk_at "nx") => `(tactic| dsimp only [tNext])
section
variable {P : Program} {w : World} {K : PySem.W.Frag} {mg : Str → Option Value} {base : Heap} {ad : Adr}
theorem const_range {ins outs : List Str} {parts : List Part} {wires : List Nt.Wir} (ok : NetOk ins outs parts wires) {p : Pth} (h : isDel parts p = true) : (constOf parts p).natAbs < 10 ^ 12 := by
  obtain ⟨x, hx, rfl, hd⟩ := isDel_iff.mp h
  rw [constOf_part ok.pn hx]
  obtain ⟨nm, c, hpt, hpo, ez, ew⟩ := prim_of (ok.tx x hx)
  unfold isD at hd
  have hn : nm = "delay" := by rw [← ew]; exact of_decide_eq_true hd
  have e := blk_delay hpt ez hn
  cases c with
  | none => cases e
  | some v =>
    have e : v = constT x.2 := by injection e
    have hr := hpt.1.2 v rfl
    rw [← e]
    have h1 := hr.1
    have h2 := hr.2
    omega
theorem src_names {ins outs : List Str} {parts : List Part} {wires : List Nt.Wir} (ok : NetOk ins outs parts wires) {q : Nt.Prt} (hq : q ∈ allSrcs ins parts) : q.1.length ≤ 3 ∧ (∀ x ∈ q.1, nameOk x = true) ∧ nameOk q.2 = true := by
  rcases List.mem_append.mp hq with h | h
  · obtain ⟨n, hn, rfl⟩ := List.mem_map.mp h
    exact ⟨by simp, fun x hx => (by cases hx), ok.nm n (List.mem_append_left _ hn)⟩
  · obtain ⟨x, hx, hm⟩ := List.mem_flatMap.mp h
    obtain ⟨n, hn, rfl⟩ := List.mem_map.mp hm
    exact ⟨(ok.pp x hx).2.1, (ok.pp x hx).2.2, (ports_small _ (rowT_of (ok.tx x hx))).2.2.1 n (List.mem_append_right _ hn)⟩
theorem srcF_in {ins outs : List Str} {parts : List Part} {wires : List Nt.Wir} (ok : NetOk ins outs parts wires) {t : Nt.Prt} (ht : t ∈ wires.map (·.1)) : srcF wires t ∈ allSrcs ins parts := ok.ws _ (src_mem ht)
theorem sAt_in {ins outs : List Str} {parts : List Part} {wires : List Nt.Wir} (ok : NetOk ins outs parts wires) {t : Nt.Prt} (ht : t ∈ tgts outs parts) {n : Nat} (he : EndsAt parts wires (srcF wires t) n) : sAt wires (srcF wires t) n ∈ allSrcs ins parts := by
  cases n with
  | zero => exact srcF_in ok (by rw [ok.wt]; exact ht)
  | succ n => exact srcF_in ok (del_tgt ok (he.del n (Nat.lt_succ_self _)))
def dLine (parts : List Part) (wires : List Nt.Wir) (s : Nt.Prt) (n : Nat) : PyData := .tuple [dPort (sAt wires s n), .list ((valsTo parts wires s n).map .int)]
theorem line_rep {ins outs : List Str} {parts : List Part} {wires : List Nt.Wir} (ok : NetOk ins outs parts wires) (hr : ¬ Ring parts wires) {t : Nt.Prt} (ht : t ∈ tgts outs parts) {n : Nat} (he : EndsAt parts wires (srcF wires t) n) : Rep 3 5000 (dLine parts wires (srcF wires t) n) := by
  obtain ⟨h1, h2, h3⟩ := src_names ok (sAt_in ok ht he)
  have hn := line_few hr he.del
  have h16 := ok.p16
  have a1 : Reps 0 ((40 + 1) * ((valsTo parts wires (srcF wires t) n).map PyData.int).length) ((valsTo parts wires (srcF wires t) n).map PyData.int) := reps_all fun d hd => by
    obtain ⟨i, hi, rfl⟩ := List.mem_map.mp hd
    unfold valsTo at hi
    obtain ⟨j, hj, rfl⟩ := List.mem_map.mp hi
    exact rep_int (const_range ok (he.del j (List.mem_range.mp hj))) (Nat.le_refl _)
  have a2 : Reps 0 1000 ((valsTo parts wires (srcF wires t) n).map PyData.int) := a1.mono (Nat.le_refl _) (by rw [List.length_map, valsTo_len]; omega)
  exact rep_tup (reps_cons (rep_port h1 h2 h3) (reps_cons ((rep_lst a2).mono (by decide) (Nat.le_refl _)) (reps_nil (w := 0)) (by decide : 1000 + 1 + 0 ≤ 1001)) (by decide))
theorem ints_dp {H : Hp} : ∀ l : List Int, DpAll K H (l.map V.int) (l.map .int)
  | [] => .nil
  | i :: l => .cons (.int i) (ints_dp l)
theorem line_dp {H : Hp} {parts : List Part} {wires : List Nt.Wir} {s : Nt.Prt} {n : Nat} {a l : Addr} {u : V} (hk : KnT H a [u, .ref l]) (hu : Tp K H u (dPort (sAt wires s n))) (hl : H l = some (.lst ((valsTo parts wires s n).map V.int))) : Dp K H (.ref a) (dLine parts wires s n) :=
  .tup hk.sqt (.cons hu.dp (.cons (.lst (SqL.of hl) (ints_dp _)) .nil))
theorem rq_told {d : PyData} (h : Rq 5 1000 d) : Rq 60 (2 ^ 20) (.list [.str "port", d]) := by
  have hs : (PyData.list [.str "port", d]).showable = true := by
    show (true && (d.showable && true)) = true
    rw [h.sh]
    rfl
  refine ⟨hs, ?_, ?_, ?_⟩
  · have e : (PyData.list [.str "port", d]).depth = max (PyData.str "port").depth (max d.depth 0) + 1 := by simp [PyData.depth, PyData.depthAll]
    have e2 : (PyData.str "port").depth = 0 := rfl
    have := h.dp
    rw [e, e2]
    omega
  · show ((PyData.str "port").leavesShort 13 && (d.leavesShort 13 && true)) = true
    rw [h.lv]
    rfl
  · have e : (PyData.list [.str "port", d]).weight = (PyData.str "port").weight + 1 + (d.weight + 1 + 0) := by simp [PyData.weight, PyData.weightAll]
    have e2 : (PyData.str "port").weight ≤ 10 := by decide +kernel
    have := h.wt
    rw [e]
    omega
theorem sc_law : FnScope ["script", "k", "feed", "net", "made", "has_ring", "target", "due", "again", "told", "turn"] ["script"] (defScope s_law) := ⟨rfl, rfl, rfl, by decide +kernel, rfl, by decide +kernel, by decide +kernel⟩
def spLaw (K : PySem.W.Frag) : Sp := fun vs H Q _ => ∃ (a : Addr) (ns : List Int), vs = [.ref a] ∧ SqL K H a (ns.map V.int) ∧ ns.length ≤ 63 ∧ ∀ H', Q (.bl true) H'
/-- what is due, or told -/
def DueAt (K : PySem.W.Frag) (H0 H : Hp) (parts : List Part) (wires : List Nt.Wir) (t : Nt.Prt) (hb : Bool) (v : V) : Prop := (hb = true ∧ v = .str "ring") ∨ (hb = false ∧ ∃ (k : Nat) (a l : Addr) (u : V), v = .ref a ∧ H0 l = none ∧ KnT H a [u, .ref l] ∧ Tp K H u (dPort (sAt wires (srcF wires t) k)) ∧ H l = some (.lst ((valsTo parts wires (srcF wires t) k).map V.int)) ∧ EndsAt parts wires (srcF wires t) k)
theorem DueAt.same {H0 H H' : Hp} {parts : List Part} {wires : List Nt.Wir} {t : Nt.Prt} {hb : Bool} {v : V} (h : DueAt K H0 H parts wires t hb v) (s : Same H H') : DueAt K H0 H' parts wires t hb v := by
  rcases h with h | ⟨hb, k, a, l, u, e, h0, h1, h2, h3, h4⟩
  · exact .inl h
  · exact .inr ⟨hb, k, a, l, u, e, h0, h1.same s, h2.same s, s _ _ h3, h4⟩
theorem ok_law {f : Addr} {fd fd1 fdn fdw fdm fdh fdl fdi fda fdo : FuncData} (F : Fun K "law" "law" s_law f fd) (T : Txt K w mg ad)
    (G_law_feed : FnOk P w K mg base CX0 1 ad.f_law_feed fd1 ["script", "k"] (spFeedS K)) (b_law_feed : Binds K fd1 ["script", "k"] [])
    (G_law_net : FnOk P w K mg base CX0 5 ad.f_law_net fdn ["feed", "words", "most"] (spNet K)) (b_law_net : Binds K fdn ["feed", "words", "most"] [])
    (G_law_delayed : FnOk P w K mg base CX0 1 ad.f_law_delayed fdw [] spWords) (b_law_delayed : Binds K fdw [] [])
    (G_law_made : FnOk P w K mg base CX0 8 ad.f_law_made fdm ["net"] (spMade P w K ad.C_Net ad.C_Primitive)) (b_law_made : Binds K fdm ["net"] [])
    (G_law_has_ring : FnOk P w K mg base CX0 2 ad.f_law_has_ring fdh ["net"] (spHasRing K)) (b_law_has_ring : Binds K fdh ["net"] [])
    (G_law_lined : FnOk P w K mg base CX0 3 ad.f_law_lined fdl ["net"] (spLined P w K)) (b_law_lined : Binds K fdl ["net"] [])
    (G_law_line : FnOk P w K mg base CX0 2 ad.f_law_line fdi ["net", "target"] (spLineL K)) (b_law_line : Binds K fdi ["net", "target"] [])
    (G_law_asked : FnOk P w K mg base CX0 5 ad.f_law_asked fda ["made", "target"] (spAsked P w K ad.C_Net ad.C_Primitive)) (b_law_asked : Binds K fda ["made", "target"] [])
    (G_law_odd : FnOk P w K mg base CX0 4 ad.f_law_odd fdo ["feed", "net"] (spOdd K)) (b_law_odd : Binds K fdo ["feed", "net"] []) :
    FnG P w K mg base CX0 9 f fd ["script"] (spLaw K) := by
  refine Ly.Fun.okG F sc_law (fun vs H Q E h => ?_) (fun cdv A outer s H vs Q E hg hr h => ?_)
  · obtain ⟨a, ns, rfl, _⟩ := h
    rfl
  · obtain ⟨sa, ns, rfl, hS, hl, k⟩ := h
    refine ⟨_, (pss_cons (ps_for PassesOwn.never rfl (pi_range1 (by rfl) T.n_range (pa_cons (pe_callB (call_max2 rfl) (by rfl) T.n_max (by decide +kernel) (pa_cons pe_int (pa_cons (pe_callB (call_min2 rfl) (by rfl) T.n_min (by decide +kernel) (pa_cons pe_int (pa_cons (pe_callB (call_lenK K) (by rfl) T.n_len (by decide +kernel) (pa_cons (pv 0) pa_nil)) pa_nil))) pa_nil))) pa_nil)) (pg_name (i := 1) sc_law.nd rfl (Or.inl rfl))
    (pss_cons (ps_set (i := 2) sc_law.nd rfl (Or.inl rfl) (pe_call G_law_feed (hr.mono (by decide)) rfl T.g__law_feed T.k__law_feed b_law_feed .nil pass0 (pa_cons (pv 0) (pa_cons (pv 1) pa_nil))))
    (pss_cons (ps_set (i := 3) sc_law.nd rfl (Or.inl rfl) (pe_call G_law_net (hr.mono (by decide)) rfl T.g__law_net T.k__law_net b_law_net .nil pass0 (pa_cons (pv 2) (pa_cons (pe_call0 G_law_delayed (hr.mono (by decide)) rfl T.g__law_delayed T.k__law_delayed b_law_delayed .nil pass0) (pa_cons pe_int pa_nil)))))
    (pss_cons (ps_par (i := 4) (j := 5) (by rfl) sc_law.nd rfl rfl (by decide) rfl rfl (pa_cons (pe_call G_law_made (hr.mono (by decide)) rfl T.g__law_made T.k__law_made b_law_made .nil pass0 (pa_cons (pv 3) pa_nil)) (pa_cons (pe_call G_law_has_ring (hr.mono (by decide)) rfl T.g__law_has_ring T.k__law_has_ring b_law_has_ring .nil pass0 (pa_cons (pv 3) pa_nil)) pa_nil)) (by rfl))
    (pss_cons (ps_for PassesOwn.never rfl (pi_listK K (pe_call G_law_lined (hr.mono (by decide)) rfl T.g__law_lined T.k__law_lined b_law_lined .nil pass0 (pa_cons (pv 3) pa_nil))) (pg_name (i := 6) sc_law.nd rfl (Or.inl rfl))
    (pss_cons (ps_set (i := 7) sc_law.nd rfl (Or.inl rfl) (pe_ifExp (pt_val (pv 5)) pe_str (pe_call G_law_line (hr.mono (by decide)) rfl T.g__law_line T.k__law_line b_law_line .nil pass0 (pa_cons (pv 3) (pa_cons (pv 6) pa_nil)))))
    (pss_one (ps_for PassesOwn.never rfl (pi_range1 (by rfl) T.n_range (pa_cons pe_int pa_nil)) (pg_name (i := 8) sc_law.nd rfl (Or.inl rfl))
    (pss_cons (ps_set (i := 9) sc_law.nd rfl (Or.inl rfl) (pe_call G_law_asked (hr.mono (by decide)) rfl T.g__law_asked T.k__law_asked b_law_asked .nil pass0 (pa_cons (pv 4) (pa_cons (pv 6) pa_nil))))
    (pss_cons (ps_if (pt_cmpR op_ne (pe_callB (call_reprV K hg hr.units) (by rfl) T.n_repr (by decide +kernel) (pa_cons (pv 9) pa_nil)) (pe_callB (call_reprV K hg hr.units) (by rfl) T.n_repr (by decide +kernel) (pa_cons (pv 7) pa_nil)) (nomark _)) (pss_one (ps_ret pe_bl)) pss_nil)
    (pss_one (ps_if (pt_not (pt_val (pv 5))) (pss_one (ps_expr (pe_bm PySem.F.plainAttrs_list PySem.F.slot_list_append PySem.F.type_list_append mt_append (pe_ix (ix_tupK K) (pv 9) pe_int (fun _ _ => rfl)) (pa_cons pe_non pa_nil)))) pss_nil))))))))
    (pss_one (ps_for PassesOwn.never rfl (pi_range1 (by rfl) T.n_range (pa_cons pe_int pa_nil)) (pg_name (i := 10) sc_law.nd rfl (Or.inl rfl))
    (pss_cons (ps_set (i := 6) sc_law.nd rfl (Or.inl rfl) (pe_call G_law_odd (hr.mono (by decide)) rfl T.g__law_odd T.k__law_odd b_law_odd .nil pass0 (pa_cons (pv 2) (pa_cons (pv 3) pa_nil))))
    (pss_one (ps_if (pt_cmpR op_ne (pe_callB (Oz.call_reprZ K hg hr.units) (by rfl) T.n_repr (by decide +kernel) (pa_cons (pe_call G_law_asked (hr.mono (by decide)) rfl T.g__law_asked T.k__law_asked b_law_asked .nil pass0 (pa_cons (pv 4) (pa_cons (pv 6) pa_nil))) pa_nil)) (pe_callB (Oz.call_reprZ K hg hr.units) (by rfl) T.n_repr (by decide +kernel) (pa_cons (Oz.pe_lstZ (pa_cons pe_str (pa_cons (pv 6) pa_nil))) pa_nil)) (nomark _)) (pss_one (ps_ret pe_bl)) pss_nil))))))))))
    (pss_one (ps_ret pe_bl))), ?_⟩
    refine ⟨_, rfl, sa, _, rfl, .inl hS, _, _, rfl, _, _, rfl, ?_⟩
    have hlen : (ns.map V.int).length ≤ 63 := by rw [List.length_map]; exact hl
    generalize hm : (if (if ((ns.map V.int).length : Int) < 5 then ((ns.map V.int).length : Int) else 5) > 1 then (if ((ns.map V.int).length : Int) < 5 then ((ns.map V.int).length : Int) else 5) else 1) = m
    have hm6 : 1 ≤ m ∧ m ≤ 5 := by
      rw [← hm]
      split <;> (try split) <;> omega
    refine ⟨m, rfl, by omega, by omega, for_range (lo := 0) (n := m.toNat) (fun i σ H' => Same H H' ∧ ∃ x1 x2 x3 x4 x5 x6 x7 x8 x9 xa : Option V, σ = [some (.ref sa), x1, x2, x3, x4, x5, x6, x7, x8, x9, xa]) ⟨Same.refl _, _, _, _, _, _, _, _, _, _, _, rfl⟩ ?_ ?_⟩
    · rintro i σ H1 hi ⟨s1, x1, x2, x3, x4, x5, x6, x7, x8, x9, xa, rfl⟩
      refine ⟨_, rfl, _, rfl, sa, ns, i, by simp, s1.seq hS, by omega, fun p a b H2 s2 hp hf => ?_⟩
      dsimp only [gName]
      refine ⟨_, rfl, rfl, fun lw ws H3 s3 hlw0 hlw hne h100 hwp => ?_⟩
      have hf3 := feed_same s3 hf
      have nlw : lw ≠ p := (ne_of_none hf.1 hlw0).symm
      refine ⟨p, lw, ws, 10, a, b, rfl, hf3, hlw, nlw, hne, h100, hwp, by decide, by decide, fun nl H4 ins outs parts wires a4 b4 x4 hf4 nnl hnet ok => ?_⟩
      dsimp only [gName]
      have s14 : Same H1 H4 := fun b u e => x4 b u (ne_of_none e hp) (s3 b u (s2 b u e))
      have s04 := s1.trans s14
      refine ⟨_, rfl, nl, ins, outs, parts, wires, rfl, hnet, ok, fun x n H5 s5 hx0 N => ?_⟩
      refine ⟨_, rfl, nl, ins, outs, parts, wires, rfl, hnet.same s5, ok, fun hb H6 s6 hbr => ⟨_, _, rfl, ?_⟩⟩
      dsimp only
      have s46 := s5.trans s6
      have N6 := N.c.same s6
      have hnet6 := hnet.same s46
      have hf6 := feed_same s46 hf4
      have s06 := s04.trans s46
      refine ⟨_, rfl, nl, ins, outs, parts, wires, rfl, hnet6, ok, fun fl ls H7 s7 hfl0 hfl hlt => ?_⟩
      have hlll : ls.length = (linedT outs parts).length := by
        have := TpAll.len hlt
        rwa [List.length_map] at this
      refine ⟨fl, rfl, ⟨_, SqL.of hfl⟩, for_list (K := K) (a := fl) (xs := ls) (fun j σ H' => Same H7 H' ∧ ∃ x6 x7 x8 x9 xa : Option V, σ = [some (.ref sa), some (.int (0 + (i : Nat))), some (.ref p), some (.ref nl), some (.ref x), some (.bl hb), x6, x7, x8, x9, xa]) ⟨Same.refl _, _, _, _, _, _, rfl⟩ (fun j σ H' _ h => SqL.of (h.1 _ _ hfl)) ?_ ?_⟩
      · rintro j y σ H8 hy ⟨s8, x6, x7, x8, x9, xa, rfl⟩
        obtain ⟨dd, hdd, htp⟩ := TpAll.get hlt hy
        rw [List.getElem?_map] at hdd
        obtain ⟨t, ht, rfl⟩ := Option.map_eq_some_iff.mp hdd
        have htm := List.mem_of_getElem? ht
        have htt := (List.mem_filter.mp htm).1
        have htp8 := htp.same s8
        have s68 := s7.trans s8
        dsimp only [gName]
        refine asg (fun v H' => Same H8 H' ∧ DueAt K H8 H' parts wires t hb v) (fun Q' q => ?_) ?_
        · refine ⟨_, rfl, hb, rfl, ?_⟩
          cases hb with
          | true => exact iteT (q _ _ ⟨Same.refl _, .inl ⟨rfl, rfl⟩⟩)
          | false => exact iteF ⟨_, rfl, _, rfl, nl, y, ins, outs, parts, wires, t, rfl, hnet6.same s68, ok, fun z => (by have := hbr.mpr z; cases this), htt, htp8, fun k a l u H' s hl hk hu hls he => q _ _ ⟨s, .inr ⟨rfl, k, a, l, u, rfl, hl, hk, hu, hls, he⟩⟩⟩
        rintro v9 H9 ⟨s9, due⟩
        dsimp only [gName]
        refine ⟨2, rfl, by decide, by decide, for_range (lo := 0) (n := 2) (fun r σ H' => Same H9 H' ∧ ∃ x8 x9 xa : Option V, σ = [some (.ref sa), some (.int (0 + (i : Nat))), some (.ref p), some (.ref nl), some (.ref x), some (.bl hb), some y, some v9, x8, x9, xa]) ⟨Same.refl _, _, _, _, rfl⟩ ?_ ?_⟩
        · rintro r σ H10 hr2 ⟨s10, x8, x9, xa, rfl⟩
          have sA := (s68.trans s9).trans s10
          refine asg (fun v H' => Same H10 H' ∧ DueAt K H10 H' parts wires t hb v) (fun Q' q => ?_) ?_
          · refine ⟨_, rfl, _, rfl, x, y, ins, outs, parts, wires, n, rfl, N6.same sA, ok, .inl ⟨t, htm, htp8.same (s9.trans s10), fun hno k a l u H' s hl hk hu hls he => q _ _ ⟨s, .inr ⟨?_, k, a, l, u, rfl, hl, hk, hu, hls, he⟩⟩, fun hrg H' s => q _ _ ⟨s, .inl ⟨hbr.mpr hrg, rfl⟩⟩⟩⟩
            cases hb with
            | false => rfl
            | true => exact absurd (hbr.mp rfl) hno
          rintro vt H11 ⟨s11, told⟩
          dsimp only [gName]
          have due11 := due.same (s10.trans s11)
          rcases told with ⟨hb1, rfl⟩ | ⟨hb0, k1, a1, l1, u1, rfl, hl10, hk1, hu1, hl1, he1⟩
          · rcases due11 with ⟨_, rfl⟩ | ⟨hb0, _⟩
            · have hrr : Rep 0 10 (.str "ring") := rep_str (by decide) (by decide +kernel)
              refine ⟨_, rfl, _, .str "ring", rfl, .str "ring", hrr.sh, hrr.nd, Nat.le_trans hrr.dp (by decide), hrr.short (by decide), _, rfl, _, .str "ring", rfl, .str "ring", hrr.sh, hrr.nd, Nat.le_trans hrr.dp (by decide), hrr.short (by decide), ?_⟩
              refine ⟨rfl, _, rfl, ?_⟩
              rw [decide_eq_true rfl]
              refine iteF ?_
              walk_at "nx"
              refine ⟨_, rfl, hb, rfl, ?_⟩
              rw [hb1]
              refine iteF ?_
              walk_at "nx"
              exact ⟨s10.trans s11, _, _, _, rfl⟩
            · rw [hb1] at hb0
              cases hb0
          · rcases due11 with ⟨hb1, _⟩ | ⟨_, k2, a2, l2, u2, rfl, hl20, hk2, hu2, hl2, he2⟩
            · rw [hb0] at hb1
              cases hb1
            · obtain rfl := he1.uniq he2
              have hno : ¬ Ring parts wires := fun z => by
                have := hbr.mpr z
                rw [hb0] at this
                cases this
              have hlr := line_rep ok hno htt he1
              have hfew := line_few hno he1.del
              have h16 := ok.p16
              refine ⟨_, rfl, _, dLine parts wires (srcF wires t) k1, rfl, line_dp hk1 hu1 hl1, hlr.sh, hlr.nd, Nat.le_trans hlr.dp (by decide), hlr.short (by decide), _, rfl, _, dLine parts wires (srcF wires t) k1, rfl, line_dp hk2 hu2 hl2, hlr.sh, hlr.nd, Nat.le_trans hlr.dp (by decide), hlr.short (by decide), ?_⟩
              refine ⟨rfl, _, rfl, ?_⟩
              rw [decide_eq_true rfl]
              refine iteF ?_
              walk_at "nx"
              refine ⟨_, rfl, hb, rfl, ?_⟩
              rw [hb0]
              refine iteT ?_
              refine ⟨_, rfl, a1, _, _, _, rfl, rfl, hk1.sqt, atI_nat (j := 1) rfl, .inl ⟨rfl, _, SqL.of hl1⟩, l1, _, _, rfl, rfl, hl1, szt (by rw [List.length_map, valsTo_len]; omega), ?_⟩
              exact ⟨same_mut (s10.trans s11) (s10.free hl10), _, _, _, rfl⟩
        · rintro σ H10 ⟨s10, x8, x9, xa, rfl⟩
          exact ⟨(s8.trans s9).trans s10, _, _, _, _, _, rfl⟩
      · rintro σ H8 ⟨s8, x6, x7, x8, x9, xa, rfl⟩
        have s68 := s7.trans s8
        have hf8 := feed_same s68 hf6
        have N8 := N6.same s68
        have hnet8 := hnet6.same s68
        have hpH : H p = none := s1.free hp
        refine ⟨3, rfl, by decide, by decide, for_range (lo := 0) (n := 3) (fun r σ H' => SameX p H8 H' ∧ (∃ a b, FeedAt H' p a b) ∧ ∃ x6 x7 x8 x9 xa : Option V, σ = [some (.ref sa), some (.int (0 + (i : Nat))), some (.ref p), some (.ref nl), some (.ref x), some (.bl hb), x6, x7, x8, x9, xa]) ⟨sx_of (Same.refl _), ⟨_, _, hf8⟩, _, _, _, _, _, rfl⟩ ?_ ?_⟩
        · rintro r σ H9 hr3 ⟨sx9, ⟨a9, b9, hf9⟩, x6, x7, x8, x9, xa, rfl⟩
          have hnet9 := hnet8.sx sx9 (notT_lst hf8.1) nnl
          refine asg (fun v H' => ∃ d, SameX p H9 H' ∧ (∃ a b, FeedAt H' p a b) ∧ Oz.Dz K (fun x => x = p) H' v d ∧ Oz.inP (linedT outs parts) d = false ∧ Rq 5 1000 d) (fun Q' q => ?_) ?_
          · exact ⟨_, rfl, _, rfl, p, nl, a9, b9, ins, outs, parts, wires, rfl, hf9, hnet9, ok, nnl, fun v d H' a' b' sx hf' hz hin hrq => q _ _ ⟨d, sx, ⟨_, _, hf'⟩, hz, hin, hrq⟩⟩
          rintro v H10 ⟨d, sx10, ⟨a10, b10, hf10⟩, hz, hin, hrq⟩
          dsimp only [gName]
          have sx810 : SameX p H8 H10 := fun b u nb e => sx10 b u nb (sx9 b u nb e)
          have N10 := N8.sx sx810 hf8.1
          refine ⟨_, rfl, _, rfl, x, v, ins, outs, parts, wires, n, rfl, N10, ok, .inr ⟨_, d, hz, hin, fun l H11 s11 hl0 hlm hl11 => ?_⟩⟩
          have hzn := dz_weak (p' := fun _ => False) (fun _ z => z.elim) (Oz.Dz.same s11 hz)
          refine ⟨fun _ => False, .ref l, .list [.str "port", d], rfl, .lst hl11 id hlm (.cons (.str _) (.cons hzn .nil)), rq_told hrq, ?_⟩
          refine ⟨_, rfl, szl (show 2 ≤ 100000 by decide), fun l2 hl2 hm2 => ?_⟩
          have s12 := same_new (o := .lst [V.str "port", v]) hl2
          refine ⟨fun _ => False, .ref l2, .list [.str "port", d], rfl, .lst upd_same id hm2 (.cons (.str _) (.cons (Oz.Dz.same s12 hzn) .nil)), rq_told hrq, ?_⟩
          refine ⟨rfl, _, rfl, ?_⟩
          rw [decide_eq_true rfl]
          refine iteF ?_
          walk_at "nx"
          have s102 := s11.trans s12
          exact ⟨fun b u nb e => s102 b u (sx810 b u nb e), ⟨_, _, feed_same s102 hf10⟩, _, _, _, _, _, rfl⟩
        · rintro σ H9 ⟨sx9, _, x6, x7, x8, x9, xa, rfl⟩
          have s08 := s06.trans s68
          exact ⟨fun b u e => sx9 b u (ne_of_none e hpH) (s08 b u e), _, _, _, _, _, _, _, _, _, _, rfl⟩
    · rintro σ H1 ⟨s1, _⟩
      exact k H1

end
theorem all_mk {l : PySem.W.OpenLaw} {w : World} {K : PySem.W.Frag} {h : Heap} {mg : Str → Option Value} {fa : Addr} (X : K.In h) (G : h.Ns mainGlobals mg) (hfa : mg "law" = some (.ref fa))
    {t_MODULUS : Tok}
    {t_MAX_NAME : Tok}
    {t_MAX_NET : Tok}
    {t_MAX_PATH : Tok}
    {t_DIGITS : Tok}
    {t_LETTERS : Tok}
    {f_number_of : Addr}
    {od_number_of an_number_of : Option Addr} {sl_number_of : Array (Option Value)} {oc_number_of kV_number_of dc_number_of pm_number_of cd_number_of ct_number_of : Value}
    {f_is_primitive_text : Addr}
    {od_is_primitive_text an_is_primitive_text : Option Addr} {sl_is_primitive_text : Array (Option Value)} {oc_is_primitive_text kV_is_primitive_text dc_is_primitive_text pm_is_primitive_text cd_is_primitive_text ct_is_primitive_text : Value}
    {f_is_name : Addr}
    {od_is_name an_is_name : Option Addr} {sl_is_name : Array (Option Value)} {oc_is_name kV_is_name dc_is_name pm_is_name cd_is_name ct_is_name : Value}
    {f_are_ports : Addr}
    {od_are_ports an_are_ports : Option Addr} {sl_are_ports : Array (Option Value)} {oc_are_ports kV_are_ports dc_are_ports pm_are_ports cd_are_ports ct_are_ports : Value}
    {f_is_path : Addr}
    {od_is_path an_is_path : Option Addr} {sl_is_path : Array (Option Value)} {oc_is_path kV_is_path dc_is_path pm_is_path cd_is_path ct_is_path : Value}
    {f_are_parts : Addr}
    {od_are_parts an_are_parts : Option Addr} {sl_are_parts : Array (Option Value)} {oc_are_parts kV_are_parts dc_are_parts pm_are_parts cd_are_parts ct_are_parts : Value}
    {f_ports_of : Addr}
    {od_ports_of an_ports_of : Option Addr} {sl_ports_of : Array (Option Value)} {oc_ports_of kV_ports_of dc_ports_of pm_ports_of cd_ports_of ct_ports_of : Value}
    {f_targets_of : Addr}
    {od_targets_of an_targets_of : Option Addr} {sl_targets_of : Array (Option Value)} {oc_targets_of kV_targets_of dc_targets_of pm_targets_of cd_targets_of ct_targets_of : Value}
    {f_sources_of : Addr}
    {od_sources_of an_sources_of : Option Addr} {sl_sources_of : Array (Option Value)} {oc_sources_of kV_sources_of dc_sources_of pm_sources_of cd_sources_of ct_sources_of : Value}
    {f_are_wires : Addr}
    {od_are_wires an_are_wires : Option Addr} {sl_are_wires : Array (Option Value)} {oc_are_wires kV_are_wires dc_are_wires pm_are_wires cd_are_wires ct_are_wires : Value}
    {f_are_good_for_net : Addr}
    {od_are_good_for_net an_are_good_for_net : Option Addr} {sl_are_good_for_net : Array (Option Value)} {oc_are_good_for_net kV_are_good_for_net dc_are_good_for_net pm_are_good_for_net cd_are_good_for_net ct_are_good_for_net : Value}
    {f_has_word : Addr}
    {od_has_word an_has_word : Option Addr} {sl_has_word : Array (Option Value)} {oc_has_word kV_has_word dc_has_word pm_has_word cd_has_word ct_has_word : Value}
    {f_check_rings : Addr}
    {od_check_rings an_check_rings : Option Addr} {sl_check_rings : Array (Option Value)} {oc_check_rings kV_check_rings dc_check_rings pm_check_rings cd_check_rings ct_check_rings : Value}
    {f_line_targets : Addr}
    {od_line_targets an_line_targets : Option Addr} {sl_line_targets : Array (Option Value)} {oc_line_targets kV_line_targets dc_line_targets pm_line_targets cd_line_targets ct_line_targets : Value}
    {f_line_at : Addr}
    {od_line_at an_line_at : Option Addr} {sl_line_at : Array (Option Value)} {oc_line_at kV_line_at dc_line_at pm_line_at cd_line_at ct_line_at : Value}
    {f_line_of : Addr}
    {od_line_of an_line_of : Option Addr} {sl_line_of : Array (Option Value)} {oc_line_of kV_line_of dc_line_of pm_line_of cd_line_of ct_line_of : Value}
    {f_law_feed : Addr}
    {od_law_feed an_law_feed : Option Addr} {sl_law_feed : Array (Option Value)} {oc_law_feed kV_law_feed dc_law_feed pm_law_feed cd_law_feed ct_law_feed : Value}
    {f_law_take : Addr}
    {od_law_take an_law_take : Option Addr} {sl_law_take : Array (Option Value)} {oc_law_take kV_law_take dc_law_take pm_law_take cd_law_take ct_law_take : Value}
    {f_law_pick : Addr}
    {od_law_pick an_law_pick : Option Addr} {sl_law_pick : Array (Option Value)} {oc_law_pick kV_law_pick dc_law_pick pm_law_pick cd_law_pick ct_law_pick : Value}
    {f_law_ports : Addr}
    {od_law_ports an_law_ports : Option Addr} {sl_law_ports : Array (Option Value)} {oc_law_ports kV_law_ports dc_law_ports pm_law_ports cd_law_ports ct_law_ports : Value}
    {f_law_number : Addr}
    {od_law_number an_law_number : Option Addr} {sl_law_number : Array (Option Value)} {oc_law_number kV_law_number dc_law_number pm_law_number cd_law_number ct_law_number : Value}
    {f_law_paths : Addr}
    {od_law_paths an_law_paths : Option Addr} {sl_law_paths : Array (Option Value)} {oc_law_paths kV_law_paths dc_law_paths pm_law_paths cd_law_paths ct_law_paths : Value}
    {f_law_sources : Addr}
    {od_law_sources an_law_sources : Option Addr} {sl_law_sources : Array (Option Value)} {oc_law_sources kV_law_sources dc_law_sources pm_law_sources cd_law_sources ct_law_sources : Value}
    {f_law_turned : Addr}
    {od_law_turned an_law_turned : Option Addr} {sl_law_turned : Array (Option Value)} {oc_law_turned kV_law_turned dc_law_turned pm_law_turned cd_law_turned ct_law_turned : Value}
    {f_law_texts : Addr}
    {od_law_texts an_law_texts : Option Addr} {sl_law_texts : Array (Option Value)} {oc_law_texts kV_law_texts dc_law_texts pm_law_texts cd_law_texts ct_law_texts : Value}
    {f_law_net : Addr}
    {od_law_net an_law_net : Option Addr} {sl_law_net : Array (Option Value)} {oc_law_net kV_law_net dc_law_net pm_law_net cd_law_net ct_law_net : Value}
    {f_law_targets : Addr}
    {od_law_targets an_law_targets : Option Addr} {sl_law_targets : Array (Option Value)} {oc_law_targets kV_law_targets dc_law_targets pm_law_targets cd_law_targets ct_law_targets : Value}
    {f_law_laid : Addr}
    {od_law_laid an_law_laid : Option Addr} {sl_law_laid : Array (Option Value)} {oc_law_laid kV_law_laid dc_law_laid pm_law_laid cd_law_laid ct_law_laid : Value}
    {f_law_first : Addr}
    {od_law_first an_law_first : Option Addr} {sl_law_first : Array (Option Value)} {oc_law_first kV_law_first dc_law_first pm_law_first cd_law_first ct_law_first : Value}
    {f_law_made : Addr}
    {od_law_made an_law_made : Option Addr} {sl_law_made : Array (Option Value)} {oc_law_made kV_law_made dc_law_made pm_law_made cd_law_made ct_law_made : Value}
    {f_law_lined : Addr}
    {od_law_lined an_law_lined : Option Addr} {sl_law_lined : Array (Option Value)} {oc_law_lined kV_law_lined dc_law_lined pm_law_lined cd_law_lined ct_law_lined : Value}
    {f_law_has_ring : Addr}
    {od_law_has_ring an_law_has_ring : Option Addr} {sl_law_has_ring : Array (Option Value)} {oc_law_has_ring kV_law_has_ring dc_law_has_ring pm_law_has_ring cd_law_has_ring ct_law_has_ring : Value}
    {f_law_line : Addr}
    {od_law_line an_law_line : Option Addr} {sl_law_line : Array (Option Value)} {oc_law_line kV_law_line dc_law_line pm_law_line cd_law_line ct_law_line : Value}
    {f_law_delayed : Addr}
    {od_law_delayed an_law_delayed : Option Addr} {sl_law_delayed : Array (Option Value)} {oc_law_delayed kV_law_delayed dc_law_delayed pm_law_delayed cd_law_delayed ct_law_delayed : Value}
    {f_law_asked : Addr}
    {od_law_asked an_law_asked : Option Addr} {sl_law_asked : Array (Option Value)} {oc_law_asked kV_law_asked dc_law_asked pm_law_asked cd_law_asked ct_law_asked : Value}
    {f_law_odd : Addr}
    {od_law_odd an_law_odd : Option Addr} {sl_law_odd : Array (Option Value)} {oc_law_odd kV_law_odd dc_law_odd pm_law_odd cd_law_odd ct_law_odd : Value}
    {f_law : Addr}
    {od_law an_law : Option Addr} {sl_law : Array (Option Value)} {oc_law kV_law dc_law pm_law cd_law ct_law : Value}
    {d_PORTS : Addr} {es_PORTS : Array DictEntry} {en_PORTS : Nat}
    {pt0 pi0 po0 : Addr} {pc0 pd0 pe0 : Option Addr} {pn0 pm_0 pq0 : Nat} {psl0 psm0 psn0 : Array (Option Value)}  {to0_0 : Tok}
    {pt1 pi1 po1 : Addr} {pc1 pd1 pe1 : Option Addr} {pn1 pm_1 pq1 : Nat} {psl1 psm1 psn1 : Array (Option Value)} {ti1_0 : Tok} {ti1_1 : Tok} {to1_0 : Tok}
    {pt2 pi2 po2 : Addr} {pc2 pd2 pe2 : Option Addr} {pn2 pm_2 pq2 : Nat} {psl2 psm2 psn2 : Array (Option Value)} {ti2_0 : Tok} {ti2_1 : Tok} {to2_0 : Tok}
    {pt3 pi3 po3 : Addr} {pc3 pd3 pe3 : Option Addr} {pn3 pm_3 pq3 : Nat} {psl3 psm3 psn3 : Array (Option Value)} {ti3_0 : Tok} {ti3_1 : Tok} {to3_0 : Tok}
    {pt4 pi4 po4 : Addr} {pc4 pd4 pe4 : Option Addr} {pn4 pm_4 pq4 : Nat} {psl4 psm4 psn4 : Array (Option Value)} {ti4_0 : Tok} {ti4_1 : Tok} {to4_0 : Tok}
    {pt5 pi5 po5 : Addr} {pc5 pd5 pe5 : Option Addr} {pn5 pm_5 pq5 : Nat} {psl5 psm5 psn5 : Array (Option Value)} {ti5_0 : Tok} {ti5_1 : Tok} {to5_0 : Tok}
    {pt6 pi6 po6 : Addr} {pc6 pd6 pe6 : Option Addr} {pn6 pm_6 pq6 : Nat} {psl6 psm6 psn6 : Array (Option Value)} {ti6_0 : Tok} {ti6_1 : Tok} {ti6_2 : Tok} {to6_0 : Tok}
    {pt7 pi7 po7 : Addr} {pc7 pd7 pe7 : Option Addr} {pn7 pm_7 pq7 : Nat} {psl7 psm7 psn7 : Array (Option Value)} {ti7_0 : Tok} {ti7_1 : Tok} {to7_0 : Tok} {to7_1 : Tok}
    {pt8 pi8 po8 : Addr} {pc8 pd8 pe8 : Option Addr} {pn8 pm_8 pq8 : Nat} {psl8 psm8 psn8 : Array (Option Value)} {ti8_0 : Tok} {to8_0 : Tok}
    {kt0 kt1 kt2 kt3 kt4 kt5 kt6 kt7 kt8 : Tok}
    {u_RESERVED : Addr} {uc_RESERVED : Option Addr} {un_RESERVED : Nat} {us_RESERVED : Array (Option Value)} {ut_RESERVED_0 : Tok} {ut_RESERVED_1 : Tok} {ut_RESERVED_2 : Tok} {ut_RESERVED_3 : Tok}
    {C_Block : Addr}
    {C_Primitive : Addr}
    {cdk_Block : ClassData}
    {f_Block_init : Addr}
    {od_Block_init an_Block_init : Option Addr} {sl_Block_init : Array (Option Value)} {oc_Block_init kV_Block_init dc_Block_init pm_Block_init cd_Block_init ct_Block_init : Value}
    {f_Primitive_init cda_Primitive cc_Primitive : Addr} {od_Primitive_init an_Primitive_init : Option Addr} {sl_Primitive_init : Array (Option Value)} {oc_Primitive_init kV_Primitive_init dc_Primitive_init pm_Primitive_init ct_Primitive_init : Value} {cdC_Primitive : ClassData} {ccl_Primitive ccv_Primitive : Value} {cdd_Primitive cvd_Primitive : Option Addr} {cvs_Primitive : Array Value} {ccs_Primitive csl_Primitive : Array (Option Value)} {file_Primitive : Str} {tf_Primitive : Tok}
    {p_Primitive_parse : Addr} {rest_Primitive_parse : List Value}
    {f_Primitive_parse : Addr}
    {od_Primitive_parse an_Primitive_parse : Option Addr} {sl_Primitive_parse : Array (Option Value)} {oc_Primitive_parse kV_Primitive_parse dc_Primitive_parse pm_Primitive_parse cd_Primitive_parse ct_Primitive_parse : Value}
    {C_Diagram : Addr}
    {tv_Diagram_MAX_PORTS : Tok}
    {C_Net : Addr}
    {f_Net_init : Addr}
    {od_Net_init an_Net_init : Option Addr} {sl_Net_init : Array (Option Value)} {oc_Net_init kV_Net_init dc_Net_init pm_Net_init cd_Net_init ct_Net_init : Value}
    {f_Net_lay : Addr}
    {od_Net_lay an_Net_lay : Option Addr} {sl_Net_lay : Array (Option Value)} {oc_Net_lay kV_Net_lay dc_Net_lay pm_Net_lay cd_Net_lay ct_Net_lay : Value}
    {f_Net_ordered : Addr}
    {od_Net_ordered an_Net_ordered : Option Addr} {sl_Net_ordered : Array (Option Value)} {oc_Net_ordered kV_Net_ordered dc_Net_ordered pm_Net_ordered cd_Net_ordered ct_Net_ordered : Value}
    {f_Net_is_fed : Addr}
    {od_Net_is_fed an_Net_is_fed : Option Addr} {sl_Net_is_fed : Array (Option Value)} {oc_Net_is_fed kV_Net_is_fed dc_Net_is_fed pm_Net_is_fed cd_Net_is_fed ct_Net_is_fed : Value}
    {f_Net_first_state : Addr}
    {od_Net_first_state an_Net_first_state : Option Addr} {sl_Net_first_state : Array (Option Value)} {oc_Net_first_state kV_Net_first_state dc_Net_first_state pm_Net_first_state cd_Net_first_state ct_Net_first_state : Value}
    {C_UnknownPort : Addr}
    {C_BlockError : Addr}
    {nm_UnknownPort q_UnknownPort : Str} {N_UnknownPort : Addr} {bs_UnknownPort : List Value} {sn_UnknownPort : List Str} {sub_UnknownPort : List Value} {ab_UnknownPort : Bool} {col_UnknownPort : Option Bool} {dd_UnknownPort : Option Addr} {m0_UnknownPort m1_UnknownPort m2_UnknownPort m3_UnknownPort m5_UnknownPort : Option Value} {cd_UnknownPort : ClassData}
    {f_UnknownPort_init : Addr}
    {od_UnknownPort_init an_UnknownPort_init : Option Addr} {sl_UnknownPort_init : Array (Option Value)} {oc_UnknownPort_init kV_UnknownPort_init dc_UnknownPort_init pm_UnknownPort_init cd_UnknownPort_init ct_UnknownPort_init : Value}
    {cdb_UnknownPort : ClassData}
    {C_DelayRing : Addr}
    (z_len : PySem.W.nsIn K mainGlobals "len" = some none)
    (z_abs : PySem.W.nsIn K mainGlobals "abs" = some none)
    (z_max : PySem.W.nsIn K mainGlobals "max" = some none)
    (z_min : PySem.W.nsIn K mainGlobals "min" = some none)
    (z_range : PySem.W.nsIn K mainGlobals "range" = some none)
    (z_isinstance : PySem.W.nsIn K mainGlobals "isinstance" = some none)
    (z_int : PySem.W.nsIn K mainGlobals "int" = some none)
    (z_str : PySem.W.nsIn K mainGlobals "str" = some none)
    (z_tuple : PySem.W.nsIn K mainGlobals "tuple" = some none)
    (z_list : PySem.W.nsIn K mainGlobals "list" = some none)
    (z_set : PySem.W.nsIn K mainGlobals "set" = some none)
    (z_dict : PySem.W.nsIn K mainGlobals "dict" = some none)
    (z_all : PySem.W.nsIn K mainGlobals "all" = some none)
    (z_repr : PySem.W.nsIn K mainGlobals "repr" = some none)
    (z_enumerate : PySem.W.nsIn K mainGlobals "enumerate" = some none)
    (z_zip : PySem.W.nsIn K mainGlobals "zip" = some none)
    (a_MODULUS : PySem.W.nsIn K mainGlobals "MODULUS" = some (some (.int 4294967296 t_MODULUS)))
    (a_MAX_NAME : PySem.W.nsIn K mainGlobals "MAX_NAME" = some (some (.int 8 t_MAX_NAME)))
    (a_MAX_NET : PySem.W.nsIn K mainGlobals "MAX_NET" = some (some (.int 48 t_MAX_NET)))
    (a_MAX_PATH : PySem.W.nsIn K mainGlobals "MAX_PATH" = some (some (.int 24 t_MAX_PATH)))
    (a_DIGITS : PySem.W.nsIn K mainGlobals "DIGITS" = some (some (.str "0123456789" t_DIGITS)))
    (a_LETTERS : PySem.W.nsIn K mainGlobals "LETTERS" = some (some (.str "abcdefghijklmnopqrstuvwxyz" t_LETTERS)))
    (a_number_of : PySem.W.nsIn K mainGlobals "number_of" = some (some (.ref f_number_of)))
    (l_number_of : K.lookup f_number_of = some ⟨oc_number_of, od_number_of, .func (PySem.W.fnOf "number_of" "number_of" (defArgs s_number_of) (defBody s_number_of) (defScope s_number_of) .none kV_number_of dc_number_of pm_number_of an_number_of cd_number_of ct_number_of), sl_number_of⟩)
    (c_number_of : PySem.W.codeIn K cd_number_of "number_of" = true)
    (k_number_of : PySem.W.keepIn K (.ref f_number_of) = true)
    (a_is_primitive_text : PySem.W.nsIn K mainGlobals "is_primitive_text" = some (some (.ref f_is_primitive_text)))
    (l_is_primitive_text : K.lookup f_is_primitive_text = some ⟨oc_is_primitive_text, od_is_primitive_text, .func (PySem.W.fnOf "is_primitive_text" "is_primitive_text" (defArgs s_is_primitive_text) (defBody s_is_primitive_text) (defScope s_is_primitive_text) .none kV_is_primitive_text dc_is_primitive_text pm_is_primitive_text an_is_primitive_text cd_is_primitive_text ct_is_primitive_text), sl_is_primitive_text⟩)
    (c_is_primitive_text : PySem.W.codeIn K cd_is_primitive_text "is_primitive_text" = true)
    (k_is_primitive_text : PySem.W.keepIn K (.ref f_is_primitive_text) = true)
    (a_is_name : PySem.W.nsIn K mainGlobals "is_name" = some (some (.ref f_is_name)))
    (l_is_name : K.lookup f_is_name = some ⟨oc_is_name, od_is_name, .func (PySem.W.fnOf "is_name" "is_name" (defArgs s_is_name) (defBody s_is_name) (defScope s_is_name) .none kV_is_name dc_is_name pm_is_name an_is_name cd_is_name ct_is_name), sl_is_name⟩)
    (c_is_name : PySem.W.codeIn K cd_is_name "is_name" = true)
    (k_is_name : PySem.W.keepIn K (.ref f_is_name) = true)
    (a_are_ports : PySem.W.nsIn K mainGlobals "are_ports" = some (some (.ref f_are_ports)))
    (l_are_ports : K.lookup f_are_ports = some ⟨oc_are_ports, od_are_ports, .func (PySem.W.fnOf "are_ports" "are_ports" (defArgs s_are_ports) (defBody s_are_ports) (defScope s_are_ports) .none kV_are_ports dc_are_ports pm_are_ports an_are_ports cd_are_ports ct_are_ports), sl_are_ports⟩)
    (c_are_ports : PySem.W.codeIn K cd_are_ports "are_ports" = true)
    (k_are_ports : PySem.W.keepIn K (.ref f_are_ports) = true)
    (a_is_path : PySem.W.nsIn K mainGlobals "is_path" = some (some (.ref f_is_path)))
    (l_is_path : K.lookup f_is_path = some ⟨oc_is_path, od_is_path, .func (PySem.W.fnOf "is_path" "is_path" (defArgs s_is_path) (defBody s_is_path) (defScope s_is_path) .none kV_is_path dc_is_path pm_is_path an_is_path cd_is_path ct_is_path), sl_is_path⟩)
    (c_is_path : PySem.W.codeIn K cd_is_path "is_path" = true)
    (k_is_path : PySem.W.keepIn K (.ref f_is_path) = true)
    (a_are_parts : PySem.W.nsIn K mainGlobals "are_parts" = some (some (.ref f_are_parts)))
    (l_are_parts : K.lookup f_are_parts = some ⟨oc_are_parts, od_are_parts, .func (PySem.W.fnOf "are_parts" "are_parts" (defArgs s_are_parts) (defBody s_are_parts) (defScope s_are_parts) .none kV_are_parts dc_are_parts pm_are_parts an_are_parts cd_are_parts ct_are_parts), sl_are_parts⟩)
    (c_are_parts : PySem.W.codeIn K cd_are_parts "are_parts" = true)
    (k_are_parts : PySem.W.keepIn K (.ref f_are_parts) = true)
    (a_ports_of : PySem.W.nsIn K mainGlobals "ports_of" = some (some (.ref f_ports_of)))
    (l_ports_of : K.lookup f_ports_of = some ⟨oc_ports_of, od_ports_of, .func (PySem.W.fnOf "ports_of" "ports_of" (defArgs s_ports_of) (defBody s_ports_of) (defScope s_ports_of) .none kV_ports_of dc_ports_of pm_ports_of an_ports_of cd_ports_of ct_ports_of), sl_ports_of⟩)
    (c_ports_of : PySem.W.codeIn K cd_ports_of "ports_of" = true)
    (k_ports_of : PySem.W.keepIn K (.ref f_ports_of) = true)
    (a_targets_of : PySem.W.nsIn K mainGlobals "targets_of" = some (some (.ref f_targets_of)))
    (l_targets_of : K.lookup f_targets_of = some ⟨oc_targets_of, od_targets_of, .func (PySem.W.fnOf "targets_of" "targets_of" (defArgs s_targets_of) (defBody s_targets_of) (defScope s_targets_of) .none kV_targets_of dc_targets_of pm_targets_of an_targets_of cd_targets_of ct_targets_of), sl_targets_of⟩)
    (c_targets_of : PySem.W.codeIn K cd_targets_of "targets_of" = true)
    (k_targets_of : PySem.W.keepIn K (.ref f_targets_of) = true)
    (a_sources_of : PySem.W.nsIn K mainGlobals "sources_of" = some (some (.ref f_sources_of)))
    (l_sources_of : K.lookup f_sources_of = some ⟨oc_sources_of, od_sources_of, .func (PySem.W.fnOf "sources_of" "sources_of" (defArgs s_sources_of) (defBody s_sources_of) (defScope s_sources_of) .none kV_sources_of dc_sources_of pm_sources_of an_sources_of cd_sources_of ct_sources_of), sl_sources_of⟩)
    (c_sources_of : PySem.W.codeIn K cd_sources_of "sources_of" = true)
    (k_sources_of : PySem.W.keepIn K (.ref f_sources_of) = true)
    (a_are_wires : PySem.W.nsIn K mainGlobals "are_wires" = some (some (.ref f_are_wires)))
    (l_are_wires : K.lookup f_are_wires = some ⟨oc_are_wires, od_are_wires, .func (PySem.W.fnOf "are_wires" "are_wires" (defArgs s_are_wires) (defBody s_are_wires) (defScope s_are_wires) .none kV_are_wires dc_are_wires pm_are_wires an_are_wires cd_are_wires ct_are_wires), sl_are_wires⟩)
    (c_are_wires : PySem.W.codeIn K cd_are_wires "are_wires" = true)
    (k_are_wires : PySem.W.keepIn K (.ref f_are_wires) = true)
    (a_are_good_for_net : PySem.W.nsIn K mainGlobals "are_good_for_net" = some (some (.ref f_are_good_for_net)))
    (l_are_good_for_net : K.lookup f_are_good_for_net = some ⟨oc_are_good_for_net, od_are_good_for_net, .func (PySem.W.fnOf "are_good_for_net" "are_good_for_net" (defArgs s_are_good_for_net) (defBody s_are_good_for_net) (defScope s_are_good_for_net) .none kV_are_good_for_net dc_are_good_for_net pm_are_good_for_net an_are_good_for_net cd_are_good_for_net ct_are_good_for_net), sl_are_good_for_net⟩)
    (c_are_good_for_net : PySem.W.codeIn K cd_are_good_for_net "are_good_for_net" = true)
    (k_are_good_for_net : PySem.W.keepIn K (.ref f_are_good_for_net) = true)
    (a_has_word : PySem.W.nsIn K mainGlobals "has_word" = some (some (.ref f_has_word)))
    (l_has_word : K.lookup f_has_word = some ⟨oc_has_word, od_has_word, .func (PySem.W.fnOf "has_word" "has_word" (defArgs s_has_word) (defBody s_has_word) (defScope s_has_word) .none kV_has_word dc_has_word pm_has_word an_has_word cd_has_word ct_has_word), sl_has_word⟩)
    (c_has_word : PySem.W.codeIn K cd_has_word "has_word" = true)
    (k_has_word : PySem.W.keepIn K (.ref f_has_word) = true)
    (a_check_rings : PySem.W.nsIn K mainGlobals "check_rings" = some (some (.ref f_check_rings)))
    (l_check_rings : K.lookup f_check_rings = some ⟨oc_check_rings, od_check_rings, .func (PySem.W.fnOf "check_rings" "check_rings" (defArgs s_check_rings) (defBody s_check_rings) (defScope s_check_rings) .none kV_check_rings dc_check_rings pm_check_rings an_check_rings cd_check_rings ct_check_rings), sl_check_rings⟩)
    (c_check_rings : PySem.W.codeIn K cd_check_rings "check_rings" = true)
    (k_check_rings : PySem.W.keepIn K (.ref f_check_rings) = true)
    (a_line_targets : PySem.W.nsIn K mainGlobals "line_targets" = some (some (.ref f_line_targets)))
    (l_line_targets : K.lookup f_line_targets = some ⟨oc_line_targets, od_line_targets, .func (PySem.W.fnOf "line_targets" "line_targets" (defArgs s_line_targets) (defBody s_line_targets) (defScope s_line_targets) .none kV_line_targets dc_line_targets pm_line_targets an_line_targets cd_line_targets ct_line_targets), sl_line_targets⟩)
    (c_line_targets : PySem.W.codeIn K cd_line_targets "line_targets" = true)
    (k_line_targets : PySem.W.keepIn K (.ref f_line_targets) = true)
    (a_line_at : PySem.W.nsIn K mainGlobals "line_at" = some (some (.ref f_line_at)))
    (l_line_at : K.lookup f_line_at = some ⟨oc_line_at, od_line_at, .func (PySem.W.fnOf "line_at" "line_at" (defArgs s_line_at) (defBody s_line_at) (defScope s_line_at) .none kV_line_at dc_line_at pm_line_at an_line_at cd_line_at ct_line_at), sl_line_at⟩)
    (c_line_at : PySem.W.codeIn K cd_line_at "line_at" = true)
    (k_line_at : PySem.W.keepIn K (.ref f_line_at) = true)
    (a_line_of : PySem.W.nsIn K mainGlobals "line_of" = some (some (.ref f_line_of)))
    (l_line_of : K.lookup f_line_of = some ⟨oc_line_of, od_line_of, .func (PySem.W.fnOf "line_of" "line_of" (defArgs s_line_of) (defBody s_line_of) (defScope s_line_of) .none kV_line_of dc_line_of pm_line_of an_line_of cd_line_of ct_line_of), sl_line_of⟩)
    (c_line_of : PySem.W.codeIn K cd_line_of "line_of" = true)
    (k_line_of : PySem.W.keepIn K (.ref f_line_of) = true)
    (a_law_feed : PySem.W.nsIn K mainGlobals "_law_feed" = some (some (.ref f_law_feed)))
    (l_law_feed : K.lookup f_law_feed = some ⟨oc_law_feed, od_law_feed, .func (PySem.W.fnOf "_law_feed" "_law_feed" (defArgs s_law_feed) (defBody s_law_feed) (defScope s_law_feed) .none kV_law_feed dc_law_feed pm_law_feed an_law_feed cd_law_feed ct_law_feed), sl_law_feed⟩)
    (c_law_feed : PySem.W.codeIn K cd_law_feed "_law_feed" = true)
    (k_law_feed : PySem.W.keepIn K (.ref f_law_feed) = true)
    (a_law_take : PySem.W.nsIn K mainGlobals "_law_take" = some (some (.ref f_law_take)))
    (l_law_take : K.lookup f_law_take = some ⟨oc_law_take, od_law_take, .func (PySem.W.fnOf "_law_take" "_law_take" (defArgs s_law_take) (defBody s_law_take) (defScope s_law_take) .none kV_law_take dc_law_take pm_law_take an_law_take cd_law_take ct_law_take), sl_law_take⟩)
    (c_law_take : PySem.W.codeIn K cd_law_take "_law_take" = true)
    (k_law_take : PySem.W.keepIn K (.ref f_law_take) = true)
    (a_law_pick : PySem.W.nsIn K mainGlobals "_law_pick" = some (some (.ref f_law_pick)))
    (l_law_pick : K.lookup f_law_pick = some ⟨oc_law_pick, od_law_pick, .func (PySem.W.fnOf "_law_pick" "_law_pick" (defArgs s_law_pick) (defBody s_law_pick) (defScope s_law_pick) .none kV_law_pick dc_law_pick pm_law_pick an_law_pick cd_law_pick ct_law_pick), sl_law_pick⟩)
    (c_law_pick : PySem.W.codeIn K cd_law_pick "_law_pick" = true)
    (k_law_pick : PySem.W.keepIn K (.ref f_law_pick) = true)
    (a_law_ports : PySem.W.nsIn K mainGlobals "_law_ports" = some (some (.ref f_law_ports)))
    (l_law_ports : K.lookup f_law_ports = some ⟨oc_law_ports, od_law_ports, .func (PySem.W.fnOf "_law_ports" "_law_ports" (defArgs s_law_ports) (defBody s_law_ports) (defScope s_law_ports) .none kV_law_ports dc_law_ports pm_law_ports an_law_ports cd_law_ports ct_law_ports), sl_law_ports⟩)
    (c_law_ports : PySem.W.codeIn K cd_law_ports "_law_ports" = true)
    (k_law_ports : PySem.W.keepIn K (.ref f_law_ports) = true)
    (a_law_number : PySem.W.nsIn K mainGlobals "_law_number" = some (some (.ref f_law_number)))
    (l_law_number : K.lookup f_law_number = some ⟨oc_law_number, od_law_number, .func (PySem.W.fnOf "_law_number" "_law_number" (defArgs s_law_number) (defBody s_law_number) (defScope s_law_number) .none kV_law_number dc_law_number pm_law_number an_law_number cd_law_number ct_law_number), sl_law_number⟩)
    (c_law_number : PySem.W.codeIn K cd_law_number "_law_number" = true)
    (k_law_number : PySem.W.keepIn K (.ref f_law_number) = true)
    (a_law_paths : PySem.W.nsIn K mainGlobals "_law_paths" = some (some (.ref f_law_paths)))
    (l_law_paths : K.lookup f_law_paths = some ⟨oc_law_paths, od_law_paths, .func (PySem.W.fnOf "_law_paths" "_law_paths" (defArgs s_law_paths) (defBody s_law_paths) (defScope s_law_paths) .none kV_law_paths dc_law_paths pm_law_paths an_law_paths cd_law_paths ct_law_paths), sl_law_paths⟩)
    (c_law_paths : PySem.W.codeIn K cd_law_paths "_law_paths" = true)
    (k_law_paths : PySem.W.keepIn K (.ref f_law_paths) = true)
    (a_law_sources : PySem.W.nsIn K mainGlobals "_law_sources" = some (some (.ref f_law_sources)))
    (l_law_sources : K.lookup f_law_sources = some ⟨oc_law_sources, od_law_sources, .func (PySem.W.fnOf "_law_sources" "_law_sources" (defArgs s_law_sources) (defBody s_law_sources) (defScope s_law_sources) .none kV_law_sources dc_law_sources pm_law_sources an_law_sources cd_law_sources ct_law_sources), sl_law_sources⟩)
    (c_law_sources : PySem.W.codeIn K cd_law_sources "_law_sources" = true)
    (k_law_sources : PySem.W.keepIn K (.ref f_law_sources) = true)
    (a_law_turned : PySem.W.nsIn K mainGlobals "_law_turned" = some (some (.ref f_law_turned)))
    (l_law_turned : K.lookup f_law_turned = some ⟨oc_law_turned, od_law_turned, .func (PySem.W.fnOf "_law_turned" "_law_turned" (defArgs s_law_turned) (defBody s_law_turned) (defScope s_law_turned) .none kV_law_turned dc_law_turned pm_law_turned an_law_turned cd_law_turned ct_law_turned), sl_law_turned⟩)
    (c_law_turned : PySem.W.codeIn K cd_law_turned "_law_turned" = true)
    (k_law_turned : PySem.W.keepIn K (.ref f_law_turned) = true)
    (a_law_texts : PySem.W.nsIn K mainGlobals "_law_texts" = some (some (.ref f_law_texts)))
    (l_law_texts : K.lookup f_law_texts = some ⟨oc_law_texts, od_law_texts, .func (PySem.W.fnOf "_law_texts" "_law_texts" (defArgs s_law_texts) (defBody s_law_texts) (defScope s_law_texts) .none kV_law_texts dc_law_texts pm_law_texts an_law_texts cd_law_texts ct_law_texts), sl_law_texts⟩)
    (c_law_texts : PySem.W.codeIn K cd_law_texts "_law_texts" = true)
    (k_law_texts : PySem.W.keepIn K (.ref f_law_texts) = true)
    (a_law_net : PySem.W.nsIn K mainGlobals "_law_net" = some (some (.ref f_law_net)))
    (l_law_net : K.lookup f_law_net = some ⟨oc_law_net, od_law_net, .func (PySem.W.fnOf "_law_net" "_law_net" (defArgs s_law_net) (defBody s_law_net) (defScope s_law_net) .none kV_law_net dc_law_net pm_law_net an_law_net cd_law_net ct_law_net), sl_law_net⟩)
    (c_law_net : PySem.W.codeIn K cd_law_net "_law_net" = true)
    (k_law_net : PySem.W.keepIn K (.ref f_law_net) = true)
    (a_law_targets : PySem.W.nsIn K mainGlobals "_law_targets" = some (some (.ref f_law_targets)))
    (l_law_targets : K.lookup f_law_targets = some ⟨oc_law_targets, od_law_targets, .func (PySem.W.fnOf "_law_targets" "_law_targets" (defArgs s_law_targets) (defBody s_law_targets) (defScope s_law_targets) .none kV_law_targets dc_law_targets pm_law_targets an_law_targets cd_law_targets ct_law_targets), sl_law_targets⟩)
    (c_law_targets : PySem.W.codeIn K cd_law_targets "_law_targets" = true)
    (k_law_targets : PySem.W.keepIn K (.ref f_law_targets) = true)
    (a_law_laid : PySem.W.nsIn K mainGlobals "_law_laid" = some (some (.ref f_law_laid)))
    (l_law_laid : K.lookup f_law_laid = some ⟨oc_law_laid, od_law_laid, .func (PySem.W.fnOf "_law_laid" "_law_laid" (defArgs s_law_laid) (defBody s_law_laid) (defScope s_law_laid) .none kV_law_laid dc_law_laid pm_law_laid an_law_laid cd_law_laid ct_law_laid), sl_law_laid⟩)
    (c_law_laid : PySem.W.codeIn K cd_law_laid "_law_laid" = true)
    (k_law_laid : PySem.W.keepIn K (.ref f_law_laid) = true)
    (a_law_first : PySem.W.nsIn K mainGlobals "_law_first" = some (some (.ref f_law_first)))
    (l_law_first : K.lookup f_law_first = some ⟨oc_law_first, od_law_first, .func (PySem.W.fnOf "_law_first" "_law_first" (defArgs s_law_first) (defBody s_law_first) (defScope s_law_first) .none kV_law_first dc_law_first pm_law_first an_law_first cd_law_first ct_law_first), sl_law_first⟩)
    (c_law_first : PySem.W.codeIn K cd_law_first "_law_first" = true)
    (k_law_first : PySem.W.keepIn K (.ref f_law_first) = true)
    (a_law_made : PySem.W.nsIn K mainGlobals "_law_made" = some (some (.ref f_law_made)))
    (l_law_made : K.lookup f_law_made = some ⟨oc_law_made, od_law_made, .func (PySem.W.fnOf "_law_made" "_law_made" (defArgs s_law_made) (defBody s_law_made) (defScope s_law_made) .none kV_law_made dc_law_made pm_law_made an_law_made cd_law_made ct_law_made), sl_law_made⟩)
    (c_law_made : PySem.W.codeIn K cd_law_made "_law_made" = true)
    (k_law_made : PySem.W.keepIn K (.ref f_law_made) = true)
    (a_law_lined : PySem.W.nsIn K mainGlobals "_law_lined" = some (some (.ref f_law_lined)))
    (l_law_lined : K.lookup f_law_lined = some ⟨oc_law_lined, od_law_lined, .func (PySem.W.fnOf "_law_lined" "_law_lined" (defArgs s_law_lined) (defBody s_law_lined) (defScope s_law_lined) .none kV_law_lined dc_law_lined pm_law_lined an_law_lined cd_law_lined ct_law_lined), sl_law_lined⟩)
    (c_law_lined : PySem.W.codeIn K cd_law_lined "_law_lined" = true)
    (k_law_lined : PySem.W.keepIn K (.ref f_law_lined) = true)
    (a_law_has_ring : PySem.W.nsIn K mainGlobals "_law_has_ring" = some (some (.ref f_law_has_ring)))
    (l_law_has_ring : K.lookup f_law_has_ring = some ⟨oc_law_has_ring, od_law_has_ring, .func (PySem.W.fnOf "_law_has_ring" "_law_has_ring" (defArgs s_law_has_ring) (defBody s_law_has_ring) (defScope s_law_has_ring) .none kV_law_has_ring dc_law_has_ring pm_law_has_ring an_law_has_ring cd_law_has_ring ct_law_has_ring), sl_law_has_ring⟩)
    (c_law_has_ring : PySem.W.codeIn K cd_law_has_ring "_law_has_ring" = true)
    (k_law_has_ring : PySem.W.keepIn K (.ref f_law_has_ring) = true)
    (a_law_line : PySem.W.nsIn K mainGlobals "_law_line" = some (some (.ref f_law_line)))
    (l_law_line : K.lookup f_law_line = some ⟨oc_law_line, od_law_line, .func (PySem.W.fnOf "_law_line" "_law_line" (defArgs s_law_line) (defBody s_law_line) (defScope s_law_line) .none kV_law_line dc_law_line pm_law_line an_law_line cd_law_line ct_law_line), sl_law_line⟩)
    (c_law_line : PySem.W.codeIn K cd_law_line "_law_line" = true)
    (k_law_line : PySem.W.keepIn K (.ref f_law_line) = true)
    (a_law_delayed : PySem.W.nsIn K mainGlobals "_law_delayed" = some (some (.ref f_law_delayed)))
    (l_law_delayed : K.lookup f_law_delayed = some ⟨oc_law_delayed, od_law_delayed, .func (PySem.W.fnOf "_law_delayed" "_law_delayed" (defArgs s_law_delayed) (defBody s_law_delayed) (defScope s_law_delayed) .none kV_law_delayed dc_law_delayed pm_law_delayed an_law_delayed cd_law_delayed ct_law_delayed), sl_law_delayed⟩)
    (c_law_delayed : PySem.W.codeIn K cd_law_delayed "_law_delayed" = true)
    (k_law_delayed : PySem.W.keepIn K (.ref f_law_delayed) = true)
    (a_law_asked : PySem.W.nsIn K mainGlobals "_law_asked" = some (some (.ref f_law_asked)))
    (l_law_asked : K.lookup f_law_asked = some ⟨oc_law_asked, od_law_asked, .func (PySem.W.fnOf "_law_asked" "_law_asked" (defArgs s_law_asked) (defBody s_law_asked) (defScope s_law_asked) .none kV_law_asked dc_law_asked pm_law_asked an_law_asked cd_law_asked ct_law_asked), sl_law_asked⟩)
    (c_law_asked : PySem.W.codeIn K cd_law_asked "_law_asked" = true)
    (k_law_asked : PySem.W.keepIn K (.ref f_law_asked) = true)
    (a_law_odd : PySem.W.nsIn K mainGlobals "_law_odd" = some (some (.ref f_law_odd)))
    (l_law_odd : K.lookup f_law_odd = some ⟨oc_law_odd, od_law_odd, .func (PySem.W.fnOf "_law_odd" "_law_odd" (defArgs s_law_odd) (defBody s_law_odd) (defScope s_law_odd) .none kV_law_odd dc_law_odd pm_law_odd an_law_odd cd_law_odd ct_law_odd), sl_law_odd⟩)
    (c_law_odd : PySem.W.codeIn K cd_law_odd "_law_odd" = true)
    (k_law_odd : PySem.W.keepIn K (.ref f_law_odd) = true)
    (a_law : PySem.W.nsIn K mainGlobals "law" = some (some (.ref f_law)))
    (l_law : K.lookup f_law = some ⟨oc_law, od_law, .func (PySem.W.fnOf "law" "law" (defArgs s_law) (defBody s_law) (defScope s_law) .none kV_law dc_law pm_law an_law cd_law ct_law), sl_law⟩)
    (c_law : PySem.W.codeIn K cd_law "law" = true)
    (k_law : PySem.W.keepIn K (.ref f_law) = true)
    (a_PORTS : PySem.W.nsIn K mainGlobals "PORTS" = some (some (.ref d_PORTS)))
    (l_PORTS : K.lookup d_PORTS = some ⟨.type "dict", none, .dict es_PORTS en_PORTS, #[]⟩)
    (h_PORTS : PySem.W.KeysLit w.params es_PORTS.toList)
    (w_PORTS : (d_PORTS == sysModules) = false)
    (ph0 : PySem.W.nsIn K d_PORTS "const" = some (some (.ref pt0)))
    (pl0 : K.lookup pt0 = some ⟨.type "tuple", pc0, .seq #[.ref pi0, .ref po0] pn0, psl0⟩)
    (pu0 : K.lookup pi0 = some ⟨.type "tuple", pd0, .seq #[] pm_0, psm0⟩)
    (pv0 : K.lookup po0 = some ⟨.type "tuple", pe0, .seq #[.str "out" to0_0] pq0, psn0⟩)
    (ph1 : PySem.W.nsIn K d_PORTS "add" = some (some (.ref pt1)))
    (pl1 : K.lookup pt1 = some ⟨.type "tuple", pc1, .seq #[.ref pi1, .ref po1] pn1, psl1⟩)
    (pu1 : K.lookup pi1 = some ⟨.type "tuple", pd1, .seq #[.str "a" ti1_0, .str "b" ti1_1] pm_1, psm1⟩)
    (pv1 : K.lookup po1 = some ⟨.type "tuple", pe1, .seq #[.str "out" to1_0] pq1, psn1⟩)
    (ph2 : PySem.W.nsIn K d_PORTS "sub" = some (some (.ref pt2)))
    (pl2 : K.lookup pt2 = some ⟨.type "tuple", pc2, .seq #[.ref pi2, .ref po2] pn2, psl2⟩)
    (pu2 : K.lookup pi2 = some ⟨.type "tuple", pd2, .seq #[.str "a" ti2_0, .str "b" ti2_1] pm_2, psm2⟩)
    (pv2 : K.lookup po2 = some ⟨.type "tuple", pe2, .seq #[.str "out" to2_0] pq2, psn2⟩)
    (ph3 : PySem.W.nsIn K d_PORTS "mul" = some (some (.ref pt3)))
    (pl3 : K.lookup pt3 = some ⟨.type "tuple", pc3, .seq #[.ref pi3, .ref po3] pn3, psl3⟩)
    (pu3 : K.lookup pi3 = some ⟨.type "tuple", pd3, .seq #[.str "a" ti3_0, .str "b" ti3_1] pm_3, psm3⟩)
    (pv3 : K.lookup po3 = some ⟨.type "tuple", pe3, .seq #[.str "out" to3_0] pq3, psn3⟩)
    (ph4 : PySem.W.nsIn K d_PORTS "less" = some (some (.ref pt4)))
    (pl4 : K.lookup pt4 = some ⟨.type "tuple", pc4, .seq #[.ref pi4, .ref po4] pn4, psl4⟩)
    (pu4 : K.lookup pi4 = some ⟨.type "tuple", pd4, .seq #[.str "a" ti4_0, .str "b" ti4_1] pm_4, psm4⟩)
    (pv4 : K.lookup po4 = some ⟨.type "tuple", pe4, .seq #[.str "out" to4_0] pq4, psn4⟩)
    (ph5 : PySem.W.nsIn K d_PORTS "equal" = some (some (.ref pt5)))
    (pl5 : K.lookup pt5 = some ⟨.type "tuple", pc5, .seq #[.ref pi5, .ref po5] pn5, psl5⟩)
    (pu5 : K.lookup pi5 = some ⟨.type "tuple", pd5, .seq #[.str "a" ti5_0, .str "b" ti5_1] pm_5, psm5⟩)
    (pv5 : K.lookup po5 = some ⟨.type "tuple", pe5, .seq #[.str "out" to5_0] pq5, psn5⟩)
    (ph6 : PySem.W.nsIn K d_PORTS "pick" = some (some (.ref pt6)))
    (pl6 : K.lookup pt6 = some ⟨.type "tuple", pc6, .seq #[.ref pi6, .ref po6] pn6, psl6⟩)
    (pu6 : K.lookup pi6 = some ⟨.type "tuple", pd6, .seq #[.str "c" ti6_0, .str "a" ti6_1, .str "b" ti6_2] pm_6, psm6⟩)
    (pv6 : K.lookup po6 = some ⟨.type "tuple", pe6, .seq #[.str "out" to6_0] pq6, psn6⟩)
    (ph7 : PySem.W.nsIn K d_PORTS "divide" = some (some (.ref pt7)))
    (pl7 : K.lookup pt7 = some ⟨.type "tuple", pc7, .seq #[.ref pi7, .ref po7] pn7, psl7⟩)
    (pu7 : K.lookup pi7 = some ⟨.type "tuple", pd7, .seq #[.str "a" ti7_0, .str "b" ti7_1] pm_7, psm7⟩)
    (pv7 : K.lookup po7 = some ⟨.type "tuple", pe7, .seq #[.str "quotient" to7_0, .str "rest" to7_1] pq7, psn7⟩)
    (ph8 : PySem.W.nsIn K d_PORTS "delay" = some (some (.ref pt8)))
    (pl8 : K.lookup pt8 = some ⟨.type "tuple", pc8, .seq #[.ref pi8, .ref po8] pn8, psl8⟩)
    (pu8 : K.lookup pi8 = some ⟨.type "tuple", pd8, .seq #[.str "in" ti8_0] pm_8, psm8⟩)
    (pv8 : K.lookup po8 = some ⟨.type "tuple", pe8, .seq #[.str "out" to8_0] pq8, psn8⟩)
    (ks_PORTS : es_PORTS.toList.map (·.key) = [.str "const" kt0, .str "add" kt1, .str "sub" kt2, .str "mul" kt3, .str "less" kt4, .str "equal" kt5, .str "pick" kt6, .str "divide" kt7, .str "delay" kt8])
    (a_RESERVED : PySem.W.nsIn K mainGlobals "RESERVED" = some (some (.ref u_RESERVED)))
    (l_RESERVED : K.lookup u_RESERVED = some ⟨.type "tuple", uc_RESERVED, .seq #[.str "block" ut_RESERVED_0, .str "part" ut_RESERVED_1, .str "end" ut_RESERVED_2, .str "self" ut_RESERVED_3] un_RESERVED, us_RESERVED⟩)
    (a_Block : PySem.W.nsIn K mainGlobals "Block" = some (some (.ref C_Block)))
    (a_Primitive : PySem.W.nsIn K mainGlobals "Primitive" = some (some (.ref C_Primitive)))
    (pg_Primitive : PySem.W.plainGet K C_Primitive Str.empty = true)
    (hd_Primitive : PySem.W.hasDictIn K C_Primitive = true)
    (po_Primitive : PySem.W.plainOver K C_Primitive = true)
    (sa_Primitive : PySem.W.findIn K (.ref C_Primitive) "__setattr__" = some (some (.builtin "object.__setattr__")))
    (mk_Primitive : PySem.W.makesIn K C_Primitive = true)
    (kc_Primitive : PySem.W.keepIn K (.ref C_Primitive) = true)
    (no_Primitive_name : PySem.W.findIn K (.ref C_Primitive) "name" = some none)
    (no_Primitive_inputs : PySem.W.findIn K (.ref C_Primitive) "inputs" = some none)
    (no_Primitive_outputs : PySem.W.findIn K (.ref C_Primitive) "outputs" = some none)
    (no_Primitive_constant : PySem.W.findIn K (.ref C_Primitive) "constant" = some none)
    (no_Primitive_text : PySem.W.findIn K (.ref C_Primitive) "text" = some none)
    (kc1_Primitive_Block : PySem.W.clsIn K C_Block = some cdk_Block)
    (kc2_Primitive_Block : PySem.W.typeIn K (.ref C_Block) = some (.type "type"))
    (kc3_Primitive_Block : PySem.W.subIn K (.ref C_Primitive) (.ref C_Block) = some true)
    (a_Block_init : PySem.W.ks_superIn K C_Primitive C_Primitive "__init__" = some (some (.ref f_Block_init)))
    (l_Block_init : K.lookup f_Block_init = some ⟨oc_Block_init, od_Block_init, .func (PySem.W.fnOf "__init__" "Block.__init__" (defArgs s_Block_init) (defBody s_Block_init) (defScope s_Block_init) .none kV_Block_init dc_Block_init pm_Block_init an_Block_init cd_Block_init ct_Block_init), sl_Block_init⟩)
    (c_Block_init : PySem.W.codeIn K cd_Block_init "Block.__init__" = true)
    (k_Block_init : PySem.W.keepIn K (.ref f_Block_init) = true)
    (t_Block_init : PySem.W.typeIn K (.ref f_Block_init) = some (.type "function"))
    (n_Block_init : PySem.W.fnIn K f_Block_init = true)
    (a_Primitive_init : PySem.W.findIn K (.ref C_Primitive) "__init__" = some (some (.ref f_Primitive_init)))
    (l_Primitive_init : K.lookup f_Primitive_init = some ⟨oc_Primitive_init, od_Primitive_init, .func (PySem.W.fnX "__init__" "Primitive.__init__" (defArgs s_Primitive_init) (defBody s_Primitive_init) (defScope s_Primitive_init) [("__class__", cc_Primitive)] .none kV_Primitive_init dc_Primitive_init pm_Primitive_init an_Primitive_init (.ref cda_Primitive) ct_Primitive_init), sl_Primitive_init⟩)
    (c_Primitive_init : PySem.W.codeIn K (.ref cda_Primitive) "Primitive.__init__" = true)
    (k_Primitive_init : PySem.W.keepIn K (.ref f_Primitive_init) = true)
    (i_Primitive_init : PySem.W.isFn K (.ref f_Primitive_init) = true)
    (cC_Primitive : PySem.W.clsIn K C_Primitive = some cdC_Primitive)
    (lc_Primitive : K.lookup cda_Primitive = some ⟨ccl_Primitive, cdd_Primitive, .fields cvs_Primitive, ccs_Primitive⟩)
    (hv_Primitive : cvs_Primitive[2]? = some (.str file_Primitive tf_Primitive))
    (hf_Primitive : ((l.prog.main.file : Str) == file_Primitive) = true)
    (lcc_Primitive : K.lookup cc_Primitive = some ⟨ccv_Primitive, cvd_Primitive, .cell (some (.ref C_Primitive)), csl_Primitive⟩)
    (sub_Primitive : PySem.W.mroIn K C_Primitive (.ref C_Primitive) = some true)
    (zS : PySem.W.nsIn K mainGlobals "super" = some none)
    (tp : PySem.W.nsIn K PySem.cStatics "thirdparty.any" = some none)
    (ht : (l.prog.main.scope.names.lookup ("super" : Str)).isSome = false)
    (q_Primitive_parse : PySem.W.findCls K (.ref C_Primitive) (.type "type") "parse" = some (.get (.builtin "classmethod.__get__") (.ref p_Primitive_parse) .none (.ref C_Primitive)))
    (a_Primitive_parse : PySem.W.recIn K p_Primitive_parse "classmethod" = some (.ref f_Primitive_parse :: rest_Primitive_parse))
    (l_Primitive_parse : K.lookup f_Primitive_parse = some ⟨oc_Primitive_parse, od_Primitive_parse, .func (PySem.W.fnOf "parse" "Primitive.parse" (defArgs s_Primitive_parse) (defBody s_Primitive_parse) (defScope s_Primitive_parse) .none kV_Primitive_parse dc_Primitive_parse pm_Primitive_parse an_Primitive_parse cd_Primitive_parse ct_Primitive_parse), sl_Primitive_parse⟩)
    (c_Primitive_parse : PySem.W.codeIn K cd_Primitive_parse "Primitive.parse" = true)
    (k_Primitive_parse : PySem.W.keepIn K (.ref f_Primitive_parse) = true)
    (n_Primitive_parse : PySem.W.fnIn K f_Primitive_parse = true)
    (rd_Primitive : PySem.W.readsIn K C_Primitive (.type "type") = true)
    (rg_Primitive : PySem.W.specialIn K (.ref C_Primitive) "__getattribute__" = some (some (.builtin "type.__getattribute__")))
    (a_Diagram : PySem.W.nsIn K mainGlobals "Diagram" = some (some (.ref C_Diagram)))
    (pg_Diagram : PySem.W.plainGet K C_Diagram Str.empty = true)
    (hd_Diagram : PySem.W.hasDictIn K C_Diagram = true)
    (po_Diagram : PySem.W.plainOver K C_Diagram = true)
    (sa_Diagram : PySem.W.findIn K (.ref C_Diagram) "__setattr__" = some (some (.builtin "object.__setattr__")))
    (mk_Diagram : PySem.W.makesIn K C_Diagram = true)
    (kc_Diagram : PySem.W.keepIn K (.ref C_Diagram) = true)
    (rd_Diagram : PySem.W.readsIn K C_Diagram (.type "type") = true)
    (rg_Diagram : PySem.W.specialIn K (.ref C_Diagram) "__getattribute__" = some (some (.builtin "type.__getattribute__")))
    (cv_Diagram_MAX_PORTS : PySem.W.findCls K (.ref C_Diagram) (.type "type") "MAX_PORTS" = some (.val (.int 8 tv_Diagram_MAX_PORTS)))
    (ci_Diagram_MAX_PORTS : PySem.W.findIn K (.ref C_Diagram) "MAX_PORTS" = some (some (.int 8 tv_Diagram_MAX_PORTS)))
    (cg_Diagram_MAX_PORTS : PySem.W.specialIn K (.int 8 tv_Diagram_MAX_PORTS) "__get__" = some none)
    (a_Net : PySem.W.nsIn K mainGlobals "Net" = some (some (.ref C_Net)))
    (pg_Net : PySem.W.plainGet K C_Net Str.empty = true)
    (hd_Net : PySem.W.hasDictIn K C_Net = true)
    (po_Net : PySem.W.plainOver K C_Net = true)
    (sa_Net : PySem.W.findIn K (.ref C_Net) "__setattr__" = some (some (.builtin "object.__setattr__")))
    (mk_Net : PySem.W.makesIn K C_Net = true)
    (kc_Net : PySem.W.keepIn K (.ref C_Net) = true)
    (no_Net_inputs : PySem.W.findIn K (.ref C_Net) "inputs" = some none)
    (no_Net_outputs : PySem.W.findIn K (.ref C_Net) "outputs" = some none)
    (no_Net_parts : PySem.W.findIn K (.ref C_Net) "parts" = some none)
    (no_Net_wires : PySem.W.findIn K (.ref C_Net) "wires" = some none)
    (no_Net_blocks : PySem.W.findIn K (.ref C_Net) "blocks" = some none)
    (no_Net_source_of : PySem.W.findIn K (.ref C_Net) "source_of" = some none)
    (no_Net_sequence : PySem.W.findIn K (.ref C_Net) "sequence" = some none)
    (a_Net_init : PySem.W.findIn K (.ref C_Net) "__init__" = some (some (.ref f_Net_init)))
    (l_Net_init : K.lookup f_Net_init = some ⟨oc_Net_init, od_Net_init, .func (PySem.W.fnOf "__init__" "Net.__init__" (defArgs s_Net_init) (defBody s_Net_init) (defScope s_Net_init) .none kV_Net_init dc_Net_init pm_Net_init an_Net_init cd_Net_init ct_Net_init), sl_Net_init⟩)
    (c_Net_init : PySem.W.codeIn K cd_Net_init "Net.__init__" = true)
    (k_Net_init : PySem.W.keepIn K (.ref f_Net_init) = true)
    (i_Net_init : PySem.W.isFn K (.ref f_Net_init) = true)
    (a_Net_lay : PySem.W.findIn K (.ref C_Net) "lay" = some (some (.ref f_Net_lay)))
    (l_Net_lay : K.lookup f_Net_lay = some ⟨oc_Net_lay, od_Net_lay, .func (PySem.W.fnOf "lay" "Net.lay" (defArgs s_Net_lay) (defBody s_Net_lay) (defScope s_Net_lay) .none kV_Net_lay dc_Net_lay pm_Net_lay an_Net_lay cd_Net_lay ct_Net_lay), sl_Net_lay⟩)
    (c_Net_lay : PySem.W.codeIn K cd_Net_lay "Net.lay" = true)
    (k_Net_lay : PySem.W.keepIn K (.ref f_Net_lay) = true)
    (i_Net_lay : PySem.W.isFn K (.ref f_Net_lay) = true)
    (a_Net_ordered : PySem.W.findIn K (.ref C_Net) "ordered" = some (some (.ref f_Net_ordered)))
    (l_Net_ordered : K.lookup f_Net_ordered = some ⟨oc_Net_ordered, od_Net_ordered, .func (PySem.W.fnOf "ordered" "Net.ordered" (defArgs s_Net_ordered) (defBody s_Net_ordered) (defScope s_Net_ordered) .none kV_Net_ordered dc_Net_ordered pm_Net_ordered an_Net_ordered cd_Net_ordered ct_Net_ordered), sl_Net_ordered⟩)
    (c_Net_ordered : PySem.W.codeIn K cd_Net_ordered "Net.ordered" = true)
    (k_Net_ordered : PySem.W.keepIn K (.ref f_Net_ordered) = true)
    (i_Net_ordered : PySem.W.isFn K (.ref f_Net_ordered) = true)
    (a_Net_is_fed : PySem.W.findIn K (.ref C_Net) "is_fed" = some (some (.ref f_Net_is_fed)))
    (l_Net_is_fed : K.lookup f_Net_is_fed = some ⟨oc_Net_is_fed, od_Net_is_fed, .func (PySem.W.fnOf "is_fed" "Net.is_fed" (defArgs s_Net_is_fed) (defBody s_Net_is_fed) (defScope s_Net_is_fed) .none kV_Net_is_fed dc_Net_is_fed pm_Net_is_fed an_Net_is_fed cd_Net_is_fed ct_Net_is_fed), sl_Net_is_fed⟩)
    (c_Net_is_fed : PySem.W.codeIn K cd_Net_is_fed "Net.is_fed" = true)
    (k_Net_is_fed : PySem.W.keepIn K (.ref f_Net_is_fed) = true)
    (i_Net_is_fed : PySem.W.isFn K (.ref f_Net_is_fed) = true)
    (a_Net_first_state : PySem.W.findIn K (.ref C_Net) "first_state" = some (some (.ref f_Net_first_state)))
    (l_Net_first_state : K.lookup f_Net_first_state = some ⟨oc_Net_first_state, od_Net_first_state, .func (PySem.W.fnOf "first_state" "Net.first_state" (defArgs s_Net_first_state) (defBody s_Net_first_state) (defScope s_Net_first_state) .none kV_Net_first_state dc_Net_first_state pm_Net_first_state an_Net_first_state cd_Net_first_state ct_Net_first_state), sl_Net_first_state⟩)
    (c_Net_first_state : PySem.W.codeIn K cd_Net_first_state "Net.first_state" = true)
    (k_Net_first_state : PySem.W.keepIn K (.ref f_Net_first_state) = true)
    (i_Net_first_state : PySem.W.isFn K (.ref f_Net_first_state) = true)
    (a_BlockError : PySem.W.nsIn K mainGlobals "BlockError" = some (some (.ref C_BlockError)))
    (eb_BlockError : PySem.W.subIn K (.ref C_BlockError) (.type "BaseException") = some true)
    (ed_BlockError : PySem.W.hasDictIn K C_BlockError = true)
    (et_BlockError : PySem.W.typeIn K (.ref C_BlockError) = some (.type "type"))
    (a_UnknownPort : PySem.W.nsIn K mainGlobals "UnknownPort" = some (some (.ref C_UnknownPort)))
    (xL_UnknownPort : K.lookup C_UnknownPort = some (excClassObj nm_UnknownPort q_UnknownPort C_UnknownPort N_UnknownPort bs_UnknownPort [.ref C_BlockError, .type "ValueError", .type "Exception", .type "BaseException", .type "object"] true sn_UnknownPort sub_UnknownPort ab_UnknownPort col_UnknownPort dd_UnknownPort m0_UnknownPort m1_UnknownPort m2_UnknownPort m3_UnknownPort m5_UnknownPort "ValueError.__new__"))
    (sa_UnknownPort : PySem.W.findIn K (.ref C_UnknownPort) "__setattr__" = some (some (.builtin "object.__setattr__")))
    (exC_UnknownPort : PySem.W.subIn K (.ref C_UnknownPort) (.type "BaseException") = some true)
    (tyC_UnknownPort : PySem.W.typeIn K (.ref C_UnknownPort) = some (.type "type"))
    (kC_UnknownPort : PySem.W.keepIn K (.ref C_UnknownPort) = true)
    (ga_UnknownPort : PySem.W.findIn K (.ref C_UnknownPort) "__getattribute__" = some (some (.builtin "BaseException.__getattribute__")))
    (gg_UnknownPort : PySem.W.findIn K (.ref C_UnknownPort) "__getattr__" = some none)
    (hd_UnknownPort : PySem.W.hasDictIn K C_UnknownPort = true)
    (ic_UnknownPort : PySem.W.findIn K (.ref C_UnknownPort) "__class__" = some (some (.builtin "object.__class__")))
    (io_UnknownPort : PySem.W.mroIn K C_UnknownPort (.type "object") = some true)
    (cd_UnknownPort : PySem.W.clsIn K C_UnknownPort = some cd_UnknownPort)
    (sv_UnknownPort : PySem.W.subIn K (.ref C_UnknownPort) (.type "ValueError") = some true)
    (sb_UnknownPort : PySem.W.subIn K (.ref C_UnknownPort) (.ref C_BlockError) = some true)
    (ocg : PySem.W.specialIn K (.builtin "object.__class__") "__get__" = some (some (.builtin "getset_descriptor.__get__")))
    (oct : PySem.W.takesIn K (.builtin "object.__class__") = some true)
    (a_UnknownPort_init : PySem.W.findIn K (.ref C_UnknownPort) "__init__" = some (some (.ref f_UnknownPort_init)))
    (l_UnknownPort_init : K.lookup f_UnknownPort_init = some ⟨oc_UnknownPort_init, od_UnknownPort_init, .func (PySem.W.fnOf "__init__" "UnknownPort.__init__" (defArgs s_UnknownPort_init) (defBody s_UnknownPort_init) (defScope s_UnknownPort_init) .none kV_UnknownPort_init dc_UnknownPort_init pm_UnknownPort_init an_UnknownPort_init cd_UnknownPort_init ct_UnknownPort_init), sl_UnknownPort_init⟩)
    (c_UnknownPort_init : PySem.W.codeIn K cd_UnknownPort_init "UnknownPort.__init__" = true)
    (k_UnknownPort_init : PySem.W.keepIn K (.ref f_UnknownPort_init) = true)
    (t_UnknownPort_init : PySem.W.typeIn K (.ref f_UnknownPort_init) = some (.type "function"))
    (ss_UnknownPort : PySem.W.subIn K (.ref C_UnknownPort) (.ref C_UnknownPort) = some true)
    (cb_UnknownPort : PySem.W.clsIn K C_BlockError = some cdb_UnknownPort)
    (no_UnknownPort_name : PySem.W.findIn K (.ref C_UnknownPort) "name" = some none)
    (a_DelayRing : PySem.W.nsIn K mainGlobals "DelayRing" = some (some (.ref C_DelayRing)))
    (xq_DelayRing : PySem.W.excIn K C_DelayRing [.type "ValueError", .type "Exception", .type "BaseException", .type "object"] "ValueError.__new__" = true)
    (xk_DelayRing : PySem.W.keepIn K (.ref C_DelayRing) = true)
    (xe_DelayRing : PySem.W.subIn K (.ref C_DelayRing) (.type "BaseException") = some true)
    (xt_DelayRing : PySem.W.typeIn K (.ref C_DelayRing) = some (.type "type"))
    (hd_DelayRing : PySem.W.hasDictIn K C_DelayRing = true)
    (ss_DelayRing : PySem.W.subIn K (.ref C_DelayRing) (.ref C_DelayRing) = some true)
    (sn_DelayRing_UnknownPort : PySem.W.subIn K (.ref C_DelayRing) (.ref C_UnknownPort) = some false) :
    ∃ fd : FuncData, (∀ (s : Shared) (v : Value), BindsTo s fd ⟨[v], []⟩ [("script", v)]) ∧ ∀ base : Heap, K.In base → base.Ns mainGlobals mg → FnG l.prog w K mg base CX0 9 fa fd ["script"] (spLaw K) := by
  have e := hfa.symm.trans (PySem.W.mg_of X G a_law)
  cases e
  let ad : Adr := { t_MODULUS := t_MODULUS, t_MAX_NAME := t_MAX_NAME, t_MAX_NET := t_MAX_NET, t_MAX_PATH := t_MAX_PATH, t_DIGITS := t_DIGITS, t_LETTERS := t_LETTERS, f_number_of := f_number_of, f_is_primitive_text := f_is_primitive_text, f_is_name := f_is_name, f_are_ports := f_are_ports, f_is_path := f_is_path, f_are_parts := f_are_parts, f_ports_of := f_ports_of, f_targets_of := f_targets_of, f_sources_of := f_sources_of, f_are_wires := f_are_wires, f_are_good_for_net := f_are_good_for_net, f_has_word := f_has_word, f_check_rings := f_check_rings, f_line_targets := f_line_targets, f_line_at := f_line_at, f_line_of := f_line_of, f_law_feed := f_law_feed, f_law_take := f_law_take, f_law_pick := f_law_pick, f_law_ports := f_law_ports, f_law_number := f_law_number, f_law_paths := f_law_paths, f_law_sources := f_law_sources, f_law_turned := f_law_turned, f_law_texts := f_law_texts, f_law_net := f_law_net, f_law_targets := f_law_targets, f_law_laid := f_law_laid, f_law_first := f_law_first, f_law_made := f_law_made, f_law_lined := f_law_lined, f_law_has_ring := f_law_has_ring, f_law_line := f_law_line, f_law_delayed := f_law_delayed, f_law_asked := f_law_asked, f_law_odd := f_law_odd, f_law := fa, d_PORTS := d_PORTS, es_PORTS := es_PORTS, en_PORTS := en_PORTS, u_RESERVED := u_RESERVED, C_Block := C_Block, C_Primitive := C_Primitive, f_Block_init := f_Block_init, f_Primitive_init := f_Primitive_init, p_Primitive_parse := p_Primitive_parse, f_Primitive_parse := f_Primitive_parse, C_Diagram := C_Diagram, tv_Diagram_MAX_PORTS := tv_Diagram_MAX_PORTS, C_Net := C_Net, f_Net_init := f_Net_init, f_Net_lay := f_Net_lay, f_Net_ordered := f_Net_ordered, f_Net_is_fed := f_Net_is_fed, f_Net_first_state := f_Net_first_state, C_UnknownPort := C_UnknownPort, C_BlockError := C_BlockError, f_UnknownPort_init := f_UnknownPort_init, C_DelayRing := C_DelayRing }
  have hports : ∀ n ins outs, (n, ins, outs) ∈ portsTab → PortsOf K w d_PORTS n ins outs := by
    intro n ins outs hp
    simp only [portsTab, List.mem_cons, List.not_mem_nil, or_false, Prod.mk.injEq] at hp
    rcases hp with ⟨rfl, rfl, rfl⟩ | ⟨rfl, rfl, rfl⟩ | ⟨rfl, rfl, rfl⟩ | ⟨rfl, rfl, rfl⟩ | ⟨rfl, rfl, rfl⟩ | ⟨rfl, rfl, rfl⟩ | ⟨rfl, rfl, rfl⟩ | ⟨rfl, rfl, rfl⟩ | ⟨rfl, rfl, rfl⟩
    · exact ⟨pt0, pi0, po0, ⟨es_PORTS, en_PORTS, _, l_PORTS, h_PORTS, ph0, rfl⟩, sqt_K pl0 (szl (show 2 ≤ 100000 by decide)) (.cons rfl (.cons rfl .nil)), sqt_K pu0 (szl (show 0 ≤ 100000 by decide)) .nil, sqt_K pv0 (szl (show 1 ≤ 100000 by decide)) (.cons ⟨_, rfl⟩ .nil)⟩
    · exact ⟨pt1, pi1, po1, ⟨es_PORTS, en_PORTS, _, l_PORTS, h_PORTS, ph1, rfl⟩, sqt_K pl1 (szl (show 2 ≤ 100000 by decide)) (.cons rfl (.cons rfl .nil)), sqt_K pu1 (szl (show 2 ≤ 100000 by decide)) (.cons ⟨_, rfl⟩ (.cons ⟨_, rfl⟩ .nil)), sqt_K pv1 (szl (show 1 ≤ 100000 by decide)) (.cons ⟨_, rfl⟩ .nil)⟩
    · exact ⟨pt2, pi2, po2, ⟨es_PORTS, en_PORTS, _, l_PORTS, h_PORTS, ph2, rfl⟩, sqt_K pl2 (szl (show 2 ≤ 100000 by decide)) (.cons rfl (.cons rfl .nil)), sqt_K pu2 (szl (show 2 ≤ 100000 by decide)) (.cons ⟨_, rfl⟩ (.cons ⟨_, rfl⟩ .nil)), sqt_K pv2 (szl (show 1 ≤ 100000 by decide)) (.cons ⟨_, rfl⟩ .nil)⟩
    · exact ⟨pt3, pi3, po3, ⟨es_PORTS, en_PORTS, _, l_PORTS, h_PORTS, ph3, rfl⟩, sqt_K pl3 (szl (show 2 ≤ 100000 by decide)) (.cons rfl (.cons rfl .nil)), sqt_K pu3 (szl (show 2 ≤ 100000 by decide)) (.cons ⟨_, rfl⟩ (.cons ⟨_, rfl⟩ .nil)), sqt_K pv3 (szl (show 1 ≤ 100000 by decide)) (.cons ⟨_, rfl⟩ .nil)⟩
    · exact ⟨pt4, pi4, po4, ⟨es_PORTS, en_PORTS, _, l_PORTS, h_PORTS, ph4, rfl⟩, sqt_K pl4 (szl (show 2 ≤ 100000 by decide)) (.cons rfl (.cons rfl .nil)), sqt_K pu4 (szl (show 2 ≤ 100000 by decide)) (.cons ⟨_, rfl⟩ (.cons ⟨_, rfl⟩ .nil)), sqt_K pv4 (szl (show 1 ≤ 100000 by decide)) (.cons ⟨_, rfl⟩ .nil)⟩
    · exact ⟨pt5, pi5, po5, ⟨es_PORTS, en_PORTS, _, l_PORTS, h_PORTS, ph5, rfl⟩, sqt_K pl5 (szl (show 2 ≤ 100000 by decide)) (.cons rfl (.cons rfl .nil)), sqt_K pu5 (szl (show 2 ≤ 100000 by decide)) (.cons ⟨_, rfl⟩ (.cons ⟨_, rfl⟩ .nil)), sqt_K pv5 (szl (show 1 ≤ 100000 by decide)) (.cons ⟨_, rfl⟩ .nil)⟩
    · exact ⟨pt6, pi6, po6, ⟨es_PORTS, en_PORTS, _, l_PORTS, h_PORTS, ph6, rfl⟩, sqt_K pl6 (szl (show 2 ≤ 100000 by decide)) (.cons rfl (.cons rfl .nil)), sqt_K pu6 (szl (show 3 ≤ 100000 by decide)) (.cons ⟨_, rfl⟩ (.cons ⟨_, rfl⟩ (.cons ⟨_, rfl⟩ .nil))), sqt_K pv6 (szl (show 1 ≤ 100000 by decide)) (.cons ⟨_, rfl⟩ .nil)⟩
    · exact ⟨pt7, pi7, po7, ⟨es_PORTS, en_PORTS, _, l_PORTS, h_PORTS, ph7, rfl⟩, sqt_K pl7 (szl (show 2 ≤ 100000 by decide)) (.cons rfl (.cons rfl .nil)), sqt_K pu7 (szl (show 2 ≤ 100000 by decide)) (.cons ⟨_, rfl⟩ (.cons ⟨_, rfl⟩ .nil)), sqt_K pv7 (szl (show 2 ≤ 100000 by decide)) (.cons ⟨_, rfl⟩ (.cons ⟨_, rfl⟩ .nil))⟩
    · exact ⟨pt8, pi8, po8, ⟨es_PORTS, en_PORTS, _, l_PORTS, h_PORTS, ph8, rfl⟩, sqt_K pl8 (szl (show 2 ≤ 100000 by decide)) (.cons rfl (.cons rfl .nil)), sqt_K pu8 (szl (show 1 ≤ 100000 by decide)) (.cons ⟨_, rfl⟩ .nil), sqt_K pv8 (szl (show 1 ≤ 100000 by decide)) (.cons ⟨_, rfl⟩ .nil)⟩
  have F_number_of := fun_mk (st := s_number_of) l_number_of c_number_of k_number_of
  have b_number_of := F_number_of.binds (ps := ["word"]) fun _ _ _ _ _ _ us hl => match us, hl with | [_], _ => rfl
  have F_is_primitive_text := fun_mk (st := s_is_primitive_text) l_is_primitive_text c_is_primitive_text k_is_primitive_text
  have b_is_primitive_text := F_is_primitive_text.binds (ps := ["text"]) fun _ _ _ _ _ _ us hl => match us, hl with | [_], _ => rfl
  have F_is_name := fun_mk (st := s_is_name) l_is_name c_is_name k_is_name
  have b_is_name := F_is_name.binds (ps := ["word"]) fun _ _ _ _ _ _ us hl => match us, hl with | [_], _ => rfl
  have F_are_ports := fun_mk (st := s_are_ports) l_are_ports c_are_ports k_are_ports
  have b_are_ports := F_are_ports.binds (ps := ["inputs", "outputs"]) fun _ _ _ _ _ _ us hl => match us, hl with | [_, _], _ => rfl
  have F_is_path := fun_mk (st := s_is_path) l_is_path c_is_path k_is_path
  have b_is_path := F_is_path.binds (ps := ["value"]) fun _ _ _ _ _ _ us hl => match us, hl with | [_], _ => rfl
  have F_are_parts := fun_mk (st := s_are_parts) l_are_parts c_are_parts k_are_parts
  have b_are_parts := F_are_parts.binds (ps := ["value"]) fun _ _ _ _ _ _ us hl => match us, hl with | [_], _ => rfl
  have F_ports_of := fun_mk (st := s_ports_of) l_ports_of c_ports_of k_ports_of
  have b_ports_of := F_ports_of.binds (ps := ["text"]) fun _ _ _ _ _ _ us hl => match us, hl with | [_], _ => rfl
  have F_targets_of := fun_mk (st := s_targets_of) l_targets_of c_targets_of k_targets_of
  have b_targets_of := F_targets_of.binds (ps := ["outputs", "parts"]) fun _ _ _ _ _ _ us hl => match us, hl with | [_, _], _ => rfl
  have F_sources_of := fun_mk (st := s_sources_of) l_sources_of c_sources_of k_sources_of
  have b_sources_of := F_sources_of.binds (ps := ["inputs", "parts"]) fun _ _ _ _ _ _ us hl => match us, hl with | [_, _], _ => rfl
  have F_are_wires := fun_mk (st := s_are_wires) l_are_wires c_are_wires k_are_wires
  have b_are_wires := F_are_wires.binds (ps := ["inputs", "outputs", "parts", "value"]) fun _ _ _ _ _ _ us hl => match us, hl with | [_, _, _, _], _ => rfl
  have F_are_good_for_net := fun_mk (st := s_are_good_for_net) l_are_good_for_net c_are_good_for_net k_are_good_for_net
  have b_are_good_for_net := F_are_good_for_net.binds (ps := ["inputs", "outputs", "parts", "wires"]) fun _ _ _ _ _ _ us hl => match us, hl with | [_, _, _, _], _ => rfl
  have F_has_word := fun_mk (st := s_has_word) l_has_word c_has_word k_has_word
  have b_has_word := F_has_word.binds (ps := ["net", "path", "word"]) fun _ _ _ _ _ _ us hl => match us, hl with | [_, _, _], _ => rfl
  have F_check_rings := fun_mk (st := s_check_rings) l_check_rings c_check_rings k_check_rings
  have b_check_rings := F_check_rings.binds (ps := ["net"]) fun _ _ _ _ _ _ us hl => match us, hl with | [_], _ => rfl
  have F_line_targets := fun_mk (st := s_line_targets) l_line_targets c_line_targets k_line_targets
  have b_line_targets := F_line_targets.binds (ps := ["net"]) fun _ _ _ _ _ _ us hl => match us, hl with | [_], _ => rfl
  have F_line_at := fun_mk (st := s_line_at) l_line_at c_line_at k_line_at
  have b_line_at := F_line_at.binds (ps := ["net", "target"]) fun _ _ _ _ _ _ us hl => match us, hl with | [_, _], _ => rfl
  have F_line_of := fun_mk (st := s_line_of) l_line_of c_line_of k_line_of
  have b_line_of := F_line_of.binds (ps := ["net", "target"]) fun _ _ _ _ _ _ us hl => match us, hl with | [_, _], _ => rfl
  have F_law_feed := fun_mk (st := s_law_feed) l_law_feed c_law_feed k_law_feed
  have b_law_feed := F_law_feed.binds (ps := ["script", "k"]) fun _ _ _ _ _ _ us hl => match us, hl with | [_, _], _ => rfl
  have F_law_take := fun_mk (st := s_law_take) l_law_take c_law_take k_law_take
  have b_law_take := F_law_take.binds (ps := ["feed", "size"]) fun _ _ _ _ _ _ us hl => match us, hl with | [_, _], _ => rfl
  have F_law_pick := fun_mk (st := s_law_pick) l_law_pick c_law_pick k_law_pick
  have b_law_pick := F_law_pick.binds (ps := ["feed", "choices"]) fun _ _ _ _ _ _ us hl => match us, hl with | [_, _], _ => rfl
  have F_law_ports := fun_mk (st := s_law_ports) l_law_ports c_law_ports k_law_ports
  have b_law_ports := F_law_ports.binds (ps := ["text"]) fun _ _ _ _ _ _ us hl => match us, hl with | [_], _ => rfl
  have F_law_number := fun_mk (st := s_law_number) l_law_number c_law_number k_law_number
  have b_law_number := F_law_number.binds (ps := ["feed"]) fun _ _ _ _ _ _ us hl => match us, hl with | [_], _ => rfl
  have F_law_paths := fun_mk (st := s_law_paths) l_law_paths c_law_paths k_law_paths
  have b_law_paths := F_law_paths.binds (ps := ["feed", "many"]) fun _ _ _ _ _ _ us hl => match us, hl with | [_, _], _ => rfl
  have F_law_sources := fun_mk (st := s_law_sources) l_law_sources c_law_sources k_law_sources
  have b_law_sources := F_law_sources.binds (ps := ["parts", "place"]) fun _ _ _ _ _ _ us hl => match us, hl with | [_, _], _ => rfl
  have F_law_turned := fun_mk (st := s_law_turned) l_law_turned c_law_turned k_law_turned
  have b_law_turned := F_law_turned.binds (ps := ["feed", "parts"]) fun _ _ _ _ _ _ us hl => match us, hl with | [_, _], _ => rfl
  have F_law_texts := fun_mk (st := s_law_texts) l_law_texts c_law_texts k_law_texts
  have b_law_texts := F_law_texts.binds (ps := ["feed", "words", "many", "is_free"]) fun _ _ _ _ _ _ us hl => match us, hl with | [_, _, _, _], _ => rfl
  have F_law_net := fun_mk (st := s_law_net) l_law_net c_law_net k_law_net
  have b_law_net := F_law_net.binds (ps := ["feed", "words", "most"]) fun _ _ _ _ _ _ us hl => match us, hl with | [_, _, _], _ => rfl
  have F_law_targets := fun_mk (st := s_law_targets) l_law_targets c_law_targets k_law_targets
  have b_law_targets := F_law_targets.binds (ps := ["outs", "parts"]) fun _ _ _ _ _ _ us hl => match us, hl with | [_, _], _ => rfl
  have F_law_laid := fun_mk (st := s_law_laid) l_law_laid c_law_laid k_law_laid
  have b_law_laid := F_law_laid.binds (ps := ["ins", "outs", "parts", "fed"]) fun _ _ _ _ _ _ us hl => match us, hl with | [_, _, _, _], _ => rfl
  have F_law_first := fun_mk (st := s_law_first) l_law_first c_law_first k_law_first
  have b_law_first := F_law_first.binds (ps := ["net"]) fun _ _ _ _ _ _ us hl => match us, hl with | [_], _ => rfl
  have F_law_made := fun_mk (st := s_law_made) l_law_made c_law_made k_law_made
  have b_law_made := F_law_made.binds (ps := ["net"]) fun _ _ _ _ _ _ us hl => match us, hl with | [_], _ => rfl
  have F_law_lined := fun_mk (st := s_law_lined) l_law_lined c_law_lined k_law_lined
  have b_law_lined := F_law_lined.binds (ps := ["net"]) fun _ _ _ _ _ _ us hl => match us, hl with | [_], _ => rfl
  have F_law_has_ring := fun_mk (st := s_law_has_ring) l_law_has_ring c_law_has_ring k_law_has_ring
  have b_law_has_ring := F_law_has_ring.binds (ps := ["net"]) fun _ _ _ _ _ _ us hl => match us, hl with | [_], _ => rfl
  have F_law_line := fun_mk (st := s_law_line) l_law_line c_law_line k_law_line
  have b_law_line := F_law_line.binds (ps := ["net", "target"]) fun _ _ _ _ _ _ us hl => match us, hl with | [_, _], _ => rfl
  have F_law_delayed := fun_mk (st := s_law_delayed) l_law_delayed c_law_delayed k_law_delayed
  have b_law_delayed := F_law_delayed.binds (ps := []) fun _ _ _ _ _ _ us hl => match us, hl with | [], _ => rfl
  have F_law_asked := fun_mk (st := s_law_asked) l_law_asked c_law_asked k_law_asked
  have b_law_asked := F_law_asked.binds (ps := ["made", "target"]) fun _ _ _ _ _ _ us hl => match us, hl with | [_, _], _ => rfl
  have F_law_odd := fun_mk (st := s_law_odd) l_law_odd c_law_odd k_law_odd
  have b_law_odd := F_law_odd.binds (ps := ["feed", "net"]) fun _ _ _ _ _ _ us hl => match us, hl with | [_, _], _ => rfl
  have F_law := fun_mk (st := s_law) l_law c_law k_law
  have b_law := F_law.binds (ps := ["script"]) fun _ _ _ _ _ _ us hl => match us, hl with | [_], _ => rfl
  have cl_Primitive : Cls K C_Primitive := ⟨pg_Primitive, hd_Primitive, po_Primitive, sa_Primitive⟩
  have F_Block_init := fun_mk (st := s_Block_init) l_Block_init c_Block_init k_Block_init
  have b_Block_init := F_Block_init.binds (ps := ["self", "name", "inputs", "outputs"]) fun _ _ _ _ _ _ us hl => match us, hl with | [_, _, _, _], _ => rfl
  have F_Primitive_init : SupX.FunS l.prog K mg "__init__" "Primitive.__init__" s_Primitive_init C_Primitive f_Primitive_init cc_Primitive cda_Primitive f_Block_init "self" _ := ⟨⟨_, _, _, _, _, _, _, _, rfl, l_Primitive_init, c_Primitive_init⟩, k_Primitive_init, ⟨cl_Primitive, ⟨_, cC_Primitive⟩, ⟨_, _, _, _, _, l_Primitive_init, rfl, rfl⟩, ⟨_, _, _, _, _, _, lc_Primitive, hv_Primitive, hf_Primitive⟩, ⟨_, _, _, lcc_Primitive⟩, sub_Primitive, PySem.W.mg_none_of X G zS, tp, a_Block_init, t_Block_init, n_Block_init, ht⟩, rfl⟩
  have b_Primitive_init := F_Primitive_init.binds (ps := ["self", "name", "constant"]) fun _ _ _ _ _ us hl => match us, hl with | [_, _, _], _ => rfl
  have F_Primitive_parse := fun_mk (st := s_Primitive_parse) l_Primitive_parse c_Primitive_parse k_Primitive_parse
  have b_Primitive_parse := F_Primitive_parse.binds (ps := ["cls", "text"]) fun _ _ _ _ _ _ us hl => match us, hl with | [_, _], _ => rfl
  have cl_Diagram : Cls K C_Diagram := ⟨pg_Diagram, hd_Diagram, po_Diagram, sa_Diagram⟩
  have cl_Net : Cls K C_Net := ⟨pg_Net, hd_Net, po_Net, sa_Net⟩
  have F_Net_init := fun_mk (st := s_Net_init) l_Net_init c_Net_init k_Net_init
  have b_Net_init := F_Net_init.binds (ps := ["self", "inputs", "outputs", "parts", "wires"]) fun _ _ _ _ _ _ us hl => match us, hl with | [_, _, _, _, _], _ => rfl
  have F_Net_lay := fun_mk (st := s_Net_lay) l_Net_lay c_Net_lay k_Net_lay
  have b_Net_lay := F_Net_lay.binds (ps := ["self", "inputs", "outputs", "parts", "wires"]) fun _ _ _ _ _ _ us hl => match us, hl with | [_, _, _, _, _], _ => rfl
  have F_Net_ordered := fun_mk (st := s_Net_ordered) l_Net_ordered c_Net_ordered k_Net_ordered
  have b_Net_ordered := F_Net_ordered.binds (ps := ["self"]) fun _ _ _ _ _ _ us hl => match us, hl with | [_], _ => rfl
  have F_Net_is_fed := fun_mk (st := s_Net_is_fed) l_Net_is_fed c_Net_is_fed k_Net_is_fed
  have b_Net_is_fed := F_Net_is_fed.binds (ps := ["self", "path", "found"]) fun _ _ _ _ _ _ us hl => match us, hl with | [_, _, _], _ => rfl
  have F_Net_first_state := fun_mk (st := s_Net_first_state) l_Net_first_state c_Net_first_state k_Net_first_state
  have b_Net_first_state := F_Net_first_state.binds (ps := ["self"]) fun _ _ _ _ _ _ us hl => match us, hl with | [_], _ => rfl
  have F_UnknownPort_init := fun_mk (st := s_UnknownPort_init) l_UnknownPort_init c_UnknownPort_init k_UnknownPort_init
  have b_UnknownPort_init := F_UnknownPort_init.binds (ps := ["self", "name"]) fun _ _ _ _ _ _ us hl => match us, hl with | [_, _], _ => rfl
  have oex_UnknownPort : OexC K C_UnknownPort := ⟨⟨_, _, _, _, _, _, _, _, _, _, _, _, _, _, _, xL_UnknownPort, (show PySem.HandSPX.refsVE PySem.HandSPX.veTail = true by decide +kernel)⟩, sa_UnknownPort, exC_UnknownPort, tyC_UnknownPort, kC_UnknownPort⟩
  have T : Txt K w mg ad := { n_len := PySem.W.mg_none_of X G z_len, n_abs := PySem.W.mg_none_of X G z_abs, n_max := PySem.W.mg_none_of X G z_max, n_min := PySem.W.mg_none_of X G z_min, n_range := PySem.W.mg_none_of X G z_range, n_isinstance := PySem.W.mg_none_of X G z_isinstance, n_int := PySem.W.mg_none_of X G z_int, n_str := PySem.W.mg_none_of X G z_str, n_tuple := PySem.W.mg_none_of X G z_tuple, n_list := PySem.W.mg_none_of X G z_list, n_set := PySem.W.mg_none_of X G z_set, n_dict := PySem.W.mg_none_of X G z_dict, n_all := PySem.W.mg_none_of X G z_all, n_repr := PySem.W.mg_none_of X G z_repr, n_enumerate := PySem.W.mg_none_of X G z_enumerate, n_zip := PySem.W.mg_none_of X G z_zip, g_MODULUS := PySem.W.mg_of X G a_MODULUS, g_MAX_NAME := PySem.W.mg_of X G a_MAX_NAME, g_MAX_NET := PySem.W.mg_of X G a_MAX_NET, g_MAX_PATH := PySem.W.mg_of X G a_MAX_PATH, g_DIGITS := PySem.W.mg_of X G a_DIGITS, g_LETTERS := PySem.W.mg_of X G a_LETTERS, g_number_of := PySem.W.mg_of X G a_number_of, k_number_of := k_number_of, g_is_primitive_text := PySem.W.mg_of X G a_is_primitive_text, k_is_primitive_text := k_is_primitive_text, g_is_name := PySem.W.mg_of X G a_is_name, k_is_name := k_is_name, g_are_ports := PySem.W.mg_of X G a_are_ports, k_are_ports := k_are_ports, g_is_path := PySem.W.mg_of X G a_is_path, k_is_path := k_is_path, g_are_parts := PySem.W.mg_of X G a_are_parts, k_are_parts := k_are_parts, g_ports_of := PySem.W.mg_of X G a_ports_of, k_ports_of := k_ports_of, g_targets_of := PySem.W.mg_of X G a_targets_of, k_targets_of := k_targets_of, g_sources_of := PySem.W.mg_of X G a_sources_of, k_sources_of := k_sources_of, g_are_wires := PySem.W.mg_of X G a_are_wires, k_are_wires := k_are_wires, g_are_good_for_net := PySem.W.mg_of X G a_are_good_for_net, k_are_good_for_net := k_are_good_for_net, g_has_word := PySem.W.mg_of X G a_has_word, k_has_word := k_has_word, g_check_rings := PySem.W.mg_of X G a_check_rings, k_check_rings := k_check_rings, g_line_targets := PySem.W.mg_of X G a_line_targets, k_line_targets := k_line_targets, g_line_at := PySem.W.mg_of X G a_line_at, k_line_at := k_line_at, g_line_of := PySem.W.mg_of X G a_line_of, k_line_of := k_line_of, g__law_feed := PySem.W.mg_of X G a_law_feed, k__law_feed := k_law_feed, g__law_take := PySem.W.mg_of X G a_law_take, k__law_take := k_law_take, g__law_pick := PySem.W.mg_of X G a_law_pick, k__law_pick := k_law_pick, g__law_ports := PySem.W.mg_of X G a_law_ports, k__law_ports := k_law_ports, g__law_number := PySem.W.mg_of X G a_law_number, k__law_number := k_law_number, g__law_paths := PySem.W.mg_of X G a_law_paths, k__law_paths := k_law_paths, g__law_sources := PySem.W.mg_of X G a_law_sources, k__law_sources := k_law_sources, g__law_turned := PySem.W.mg_of X G a_law_turned, k__law_turned := k_law_turned, g__law_texts := PySem.W.mg_of X G a_law_texts, k__law_texts := k_law_texts, g__law_net := PySem.W.mg_of X G a_law_net, k__law_net := k_law_net, g__law_targets := PySem.W.mg_of X G a_law_targets, k__law_targets := k_law_targets, g__law_laid := PySem.W.mg_of X G a_law_laid, k__law_laid := k_law_laid, g__law_first := PySem.W.mg_of X G a_law_first, k__law_first := k_law_first, g__law_made := PySem.W.mg_of X G a_law_made, k__law_made := k_law_made, g__law_lined := PySem.W.mg_of X G a_law_lined, k__law_lined := k_law_lined, g__law_has_ring := PySem.W.mg_of X G a_law_has_ring, k__law_has_ring := k_law_has_ring, g__law_line := PySem.W.mg_of X G a_law_line, k__law_line := k_law_line, g__law_delayed := PySem.W.mg_of X G a_law_delayed, k__law_delayed := k_law_delayed, g__law_asked := PySem.W.mg_of X G a_law_asked, k__law_asked := k_law_asked, g__law_odd := PySem.W.mg_of X G a_law_odd, k__law_odd := k_law_odd, g_law := PySem.W.mg_of X G a_law, k_law := k_law, g_PORTS := PySem.W.mg_of X G a_PORTS, d_PORTS := ⟨l_PORTS, h_PORTS, w_PORTS⟩, ports := hports, keys := ⟨[kt0, kt1, kt2, kt3, kt4, kt5, kt6, kt7, kt8], rfl, ks_PORTS⟩, g_RESERVED := PySem.W.mg_of X G a_RESERVED, u_RESERVED := sqt_K l_RESERVED (szl (show 4 ≤ 100000 by decide)) (.cons ⟨_, rfl⟩ (.cons ⟨_, rfl⟩ (.cons ⟨_, rfl⟩ (.cons ⟨_, rfl⟩ .nil)))), g_Block := PySem.W.mg_of X G a_Block, g_Primitive := PySem.W.mg_of X G a_Primitive, cl_Primitive := cl_Primitive, na_Primitive_name := no_Primitive_name, na_Primitive_inputs := no_Primitive_inputs, na_Primitive_outputs := no_Primitive_outputs, na_Primitive_constant := no_Primitive_constant, na_Primitive_text := no_Primitive_text, ki_Primitive_Block := kit_sub kc1_Primitive_Block kc2_Primitive_Block kc3_Primitive_Block, ki_Primitive_Primitive := kit_self, mk_Primitive := ⟨mk_Primitive, a_Primitive_init, i_Primitive_init, kc_Primitive⟩, cr_Primitive := ⟨rd_Primitive, rg_Primitive⟩, cm_Primitive_parse := ⟨q_Primitive_parse, ⟨_, a_Primitive_parse⟩, n_Primitive_parse⟩, g_Diagram := PySem.W.mg_of X G a_Diagram, cl_Diagram := cl_Diagram, cr_Diagram := ⟨rd_Diagram, rg_Diagram⟩, cv_Diagram_MAX_PORTS := ⟨cv_Diagram_MAX_PORTS, ⟨_, rfl⟩⟩, co_Diagram_MAX_PORTS := ⟨ci_Diagram_MAX_PORTS, ⟨_, rfl⟩, cg_Diagram_MAX_PORTS, by decide +kernel⟩, g_Net := PySem.W.mg_of X G a_Net, cl_Net := cl_Net, na_Net_inputs := no_Net_inputs, na_Net_outputs := no_Net_outputs, na_Net_parts := no_Net_parts, na_Net_wires := no_Net_wires, na_Net_blocks := no_Net_blocks, na_Net_source_of := no_Net_source_of, na_Net_sequence := no_Net_sequence, mk_Net := ⟨mk_Net, a_Net_init, i_Net_init, kc_Net⟩, m_Net_lay := ⟨a_Net_lay, i_Net_lay, k_Net_lay⟩, m_Net_ordered := ⟨a_Net_ordered, i_Net_ordered, k_Net_ordered⟩, m_Net_is_fed := ⟨a_Net_is_fed, i_Net_is_fed, k_Net_is_fed⟩, m_Net_first_state := ⟨a_Net_first_state, i_Net_first_state, k_Net_first_state⟩, g_BlockError := PySem.W.mg_of X G a_BlockError, g_UnknownPort := PySem.W.mg_of X G a_UnknownPort, es_UnknownPort := PySem.W.exm_ref exC_UnknownPort hd_UnknownPort tyC_UnknownPort ss_UnknownPort, oex_UnknownPort := oex_UnknownPort, in_UnknownPort := a_UnknownPort_init, tf_UnknownPort := t_UnknownPort_init, xf_UnknownPort := ⟨ga_UnknownPort, gg_UnknownPort, exC_UnknownPort, hd_UnknownPort⟩, ek_UnknownPort := ⟨by rw [cd_UnknownPort]; rfl, ga_UnknownPort, gg_UnknownPort, exC_UnknownPort, ic_UnknownPort, ocg, oct, io_UnknownPort⟩, kv_UnknownPort := kit_ve sv_UnknownPort, kb_UnknownPort := kit_sub cb_UnknownPort et_BlockError sb_UnknownPort, em_UnknownPort := PySem.W.exm_ref eb_BlockError ed_BlockError et_BlockError sb_UnknownPort, no_UnknownPort_name := no_UnknownPort_name, g_DelayRing := PySem.W.mg_of X G a_DelayRing, xq_DelayRing := xq_DelayRing, xk_DelayRing := xk_DelayRing, xe_DelayRing := xe_DelayRing, xt_DelayRing := xt_DelayRing, es_DelayRing := PySem.W.exm_ref xe_DelayRing hd_DelayRing xt_DelayRing ss_DelayRing, en_DelayRing_UnknownPort := PySem.W.exm_ref exC_UnknownPort hd_UnknownPort tyC_UnknownPort sn_DelayRing_UnknownPort }
  refine ⟨PySem.W.fnOf "law" "law" (defArgs s_law) (defBody s_law) (defScope s_law) .none kV_law dc_law pm_law an_law cd_law ct_law, fun s v => .of_eq rfl, fun base _ _ => ?_⟩
  have G_law_feed := ok_feed (P := l.prog) (base := base) (ad := ad) F_law_feed T
  have G_law_take := ok_take (P := l.prog) (base := base) (ad := ad) F_law_take T
  have G_law_pick := ok_pick (P := l.prog) (base := base) (ad := ad) F_law_pick T G_law_take b_law_take
  have G_law_number := ok_number (P := l.prog) (base := base) (ad := ad) F_law_number T G_law_take b_law_take G_law_pick b_law_pick
  have G_law_ports := ok_lports (P := l.prog) (base := base) (ad := ad) F_law_ports T
  have G_law_turned := ok_turned (P := l.prog) (base := base) (ad := ad) F_law_turned T G_law_take b_law_take
  have G_law_paths := ok_paths (P := l.prog) (base := base) (ad := ad) F_law_paths T G_law_take b_law_take
  have G_law_texts := ok_texts (P := l.prog) (base := base) (ad := ad) F_law_texts T G_law_pick b_law_pick G_law_number b_law_number
  have G_law_sources := ok_sources (P := l.prog) (base := base) (ad := ad) F_law_sources T G_law_ports b_law_ports
  have G_law_targets := ok_ltargets (P := l.prog) (base := base) (ad := ad) F_law_targets T G_law_ports b_law_ports
  have G_law_laid := ok_laid (P := l.prog) (base := base) (ad := ad) F_law_laid T G_law_targets b_law_targets
  have G_law_first := ok_first (P := l.prog) (base := base) (ad := ad) F_law_first T
  have G_law_net := ok_net (P := l.prog) (base := base) (ad := ad) F_law_net T G_law_take b_law_take G_law_pick b_law_pick G_law_texts b_law_texts G_law_paths b_law_paths G_law_sources b_law_sources G_law_ports b_law_ports G_law_turned b_law_turned G_law_laid b_law_laid
  have G_number_of := ok_num (P := l.prog) (base := base) (ad := ad) F_number_of T
  have G_is_name := ok_name (P := l.prog) (base := base) (ad := ad) F_is_name T
  have G_Block_init := ok_BI (P := l.prog) (base := base) (ad := ad) F_Block_init T
  have G_Primitive_init := ok_PI (P := l.prog) (base := base) (ad := ad) F_Primitive_init T G_Block_init b_Block_init
  have G_is_primitive_text := ok_ipt (P := l.prog) (base := base) (ad := ad) F_is_primitive_text T G_number_of b_number_of
  have G_Primitive_parse := ok_parse (P := l.prog) (base := base) (ad := ad) F_Primitive_parse T G_number_of b_number_of G_is_primitive_text b_is_primitive_text G_Primitive_init b_Primitive_init
  have R_Primitive_parse := (G_Primitive_parse.raw b_Primitive_parse .nil).imp fun vs H Q E hs => by rw [List.append_nil]; exact hs
  have G_ports_of := ok_portsof (P := l.prog) (base := base) (ad := ad) F_ports_of T
  have G_is_path := ok_isPath (P := l.prog) (base := base) (ad := ad) F_is_path T G_is_name b_is_name
  have G_targets_of := ok_targetsof (P := l.prog) (base := base) (ad := ad) F_targets_of T G_ports_of b_ports_of
  have G_sources_of := ok_sourcesof (P := l.prog) (base := base) (ad := ad) F_sources_of T G_ports_of b_ports_of
  have G_are_ports := ok_arePorts (P := l.prog) (base := base) (ad := ad) F_are_ports T G_is_name b_is_name
  have G_are_wires := ok_areWires (P := l.prog) (base := base) (ad := ad) F_are_wires T G_targets_of b_targets_of G_sources_of b_sources_of
  have G_are_parts := ok_areParts (P := l.prog) (base := base) (ad := ad) F_are_parts T G_is_path b_is_path G_is_primitive_text b_is_primitive_text
  have G_are_good_for_net := ok_goodNet (P := l.prog) (base := base) (ad := ad) F_are_good_for_net T G_are_ports b_are_ports G_are_parts b_are_parts G_are_wires b_are_wires
  have G_Net_first_state := ok_firstSt (P := l.prog) (base := base) (ad := ad) F_Net_first_state T
  have G_Net_is_fed := ok_isFed (P := l.prog) (base := base) (ad := ad) F_Net_is_fed T
  have G_Net_ordered := ok_ordered (P := l.prog) (base := base) (ad := ad) F_Net_ordered T G_Net_is_fed b_Net_is_fed
  have G_Net_lay := ok_lay (P := l.prog) (base := base) (ad := ad) F_Net_lay T R_Primitive_parse G_Net_ordered b_Net_ordered
  have G_Net_init := ok_netInit (P := l.prog) (base := base) (ad := ad) F_Net_init T G_are_good_for_net b_are_good_for_net G_Net_lay b_Net_lay
  have G_has_word := ok_hasWord (P := l.prog) (base := base) (ad := ad) F_has_word T
  have G_line_targets := ok_lineTgts (P := l.prog) (base := base) (ad := ad) F_line_targets T G_targets_of b_targets_of G_has_word b_has_word
  have G_check_rings := ok_rings (P := l.prog) (base := base) (ad := ad) F_check_rings T G_Net_first_state b_Net_first_state G_has_word b_has_word
  have G_line_at := ok_lineAt (P := l.prog) (base := base) (ad := ad) F_line_at T G_has_word b_has_word
  have G_UnknownPort_init := ok_UPI (P := l.prog) (base := base) (ad := ad) F_UnknownPort_init T
  have G_line_of := ok_lineOf (P := l.prog) (base := base) (ad := ad) F_line_of T G_line_targets b_line_targets G_check_rings b_check_rings G_line_at b_line_at G_UnknownPort_init b_UnknownPort_init
  have G_law_made := ok_made (P := l.prog) (base := base) (ad := ad) F_law_made T G_Net_init b_Net_init
  have G_law_lined := ok_lined (P := l.prog) (base := base) (ad := ad) F_law_lined T G_law_first b_law_first G_law_targets b_law_targets
  have G_law_has_ring := ok_hasRing (P := l.prog) (base := base) (ad := ad) F_law_has_ring T G_law_first b_law_first
  have G_law_line := ok_lineL (P := l.prog) (base := base) (ad := ad) F_law_line T G_law_first b_law_first
  have G_law_delayed := ok_delayed (P := l.prog) (base := base) (ad := ad) F_law_delayed T
  have G_law_asked := ok_asked (P := l.prog) (base := base) (ad := ad) F_law_asked T G_line_of b_line_of
  have G_law_odd := ok_odd (P := l.prog) (base := base) (ad := ad) F_law_odd T G_law_lined b_law_lined G_law_pick b_law_pick
  exact ok_law (ad := ad) F_law T G_law_feed b_law_feed G_law_net b_law_net G_law_delayed b_law_delayed G_law_made b_law_made G_law_has_ring b_law_has_ring G_law_lined b_law_lined G_law_line b_law_line G_law_asked b_law_asked G_law_odd b_law_odd
end K82

set_option maxRecDepth 100000
set_option maxHeartbeats 4000000
namespace K82
open PySem PySem.Spec PyProof.Rows L2 Ly Nd Nt Od
def chk0 (K : PySem.W.Frag) : Bool := He.eqO (PySem.W.nsIn K mainGlobals "len") (some none) && (He.eqO (PySem.W.nsIn K mainGlobals "abs") (some none) && (He.eqO (PySem.W.nsIn K mainGlobals "max") (some none) && (He.eqO (PySem.W.nsIn K mainGlobals "min") (some none) && (He.eqO (PySem.W.nsIn K mainGlobals "range") (some none) && (He.eqO (PySem.W.nsIn K mainGlobals "isinstance") (some none) && (He.eqO (PySem.W.nsIn K mainGlobals "int") (some none) && (He.eqO (PySem.W.nsIn K mainGlobals "str") (some none) && (He.eqO (PySem.W.nsIn K mainGlobals "tuple") (some none) && (He.eqO (PySem.W.nsIn K mainGlobals "list") (some none) && (He.eqO (PySem.W.nsIn K mainGlobals "set") (some none) && (He.eqO (PySem.W.nsIn K mainGlobals "dict") (some none) && (He.eqO (PySem.W.nsIn K mainGlobals "all") (some none) && (He.eqO (PySem.W.nsIn K mainGlobals "repr") (some none) && (He.eqO (PySem.W.nsIn K mainGlobals "enumerate") (some none) && (He.eqO (PySem.W.nsIn K mainGlobals "zip") (some none) && (He.eqO (PySem.W.nsIn K mainGlobals "MODULUS") (some (some (.int 4294967296 (Hd.tk (PySem.W.nsIn K mainGlobals "MODULUS"))))) && (He.eqO (PySem.W.nsIn K mainGlobals "MAX_NAME") (some (some (.int 8 (Hd.tk (PySem.W.nsIn K mainGlobals "MAX_NAME"))))) && (He.eqO (PySem.W.nsIn K mainGlobals "MAX_NET") (some (some (.int 48 (Hd.tk (PySem.W.nsIn K mainGlobals "MAX_NET"))))) && (He.eqO (PySem.W.nsIn K mainGlobals "MAX_PATH") (some (some (.int 24 (Hd.tk (PySem.W.nsIn K mainGlobals "MAX_PATH"))))) && (He.eqO (PySem.W.nsIn K mainGlobals "DIGITS") (some (some (.str "0123456789" (Hd.tk (PySem.W.nsIn K mainGlobals "DIGITS"))))) && (He.eqO (PySem.W.nsIn K mainGlobals "LETTERS") (some (some (.str "abcdefghijklmnopqrstuvwxyz" (Hd.tk (PySem.W.nsIn K mainGlobals "LETTERS"))))) && (He.eqO (PySem.W.nsIn K mainGlobals "number_of") (some (some (.ref (He.ga K "number_of")))) && (Hd.codeB K (He.ga K "number_of") "number_of" && (PySem.W.keepIn K (.ref (He.ga K "number_of")) && (He.eqO (PySem.W.nsIn K mainGlobals "is_primitive_text") (some (some (.ref (He.ga K "is_primitive_text")))) && (Hd.codeB K (He.ga K "is_primitive_text") "is_primitive_text" && (PySem.W.keepIn K (.ref (He.ga K "is_primitive_text")) && (He.eqO (PySem.W.nsIn K mainGlobals "is_name") (some (some (.ref (He.ga K "is_name")))) && (Hd.codeB K (He.ga K "is_name") "is_name")))))))))))))))))))))))))))))
def chk1 (K : PySem.W.Frag) : Bool := PySem.W.keepIn K (.ref (He.ga K "is_name")) && (He.eqO (PySem.W.nsIn K mainGlobals "are_ports") (some (some (.ref (He.ga K "are_ports")))) && (Hd.codeB K (He.ga K "are_ports") "are_ports" && (PySem.W.keepIn K (.ref (He.ga K "are_ports")) && (He.eqO (PySem.W.nsIn K mainGlobals "is_path") (some (some (.ref (He.ga K "is_path")))) && (Hd.codeB K (He.ga K "is_path") "is_path" && (PySem.W.keepIn K (.ref (He.ga K "is_path")) && (He.eqO (PySem.W.nsIn K mainGlobals "are_parts") (some (some (.ref (He.ga K "are_parts")))) && (Hd.codeB K (He.ga K "are_parts") "are_parts" && (PySem.W.keepIn K (.ref (He.ga K "are_parts")) && (He.eqO (PySem.W.nsIn K mainGlobals "ports_of") (some (some (.ref (He.ga K "ports_of")))) && (Hd.codeB K (He.ga K "ports_of") "ports_of" && (PySem.W.keepIn K (.ref (He.ga K "ports_of")) && (He.eqO (PySem.W.nsIn K mainGlobals "targets_of") (some (some (.ref (He.ga K "targets_of")))) && (Hd.codeB K (He.ga K "targets_of") "targets_of" && (PySem.W.keepIn K (.ref (He.ga K "targets_of")) && (He.eqO (PySem.W.nsIn K mainGlobals "sources_of") (some (some (.ref (He.ga K "sources_of")))) && (Hd.codeB K (He.ga K "sources_of") "sources_of" && (PySem.W.keepIn K (.ref (He.ga K "sources_of")) && (He.eqO (PySem.W.nsIn K mainGlobals "are_wires") (some (some (.ref (He.ga K "are_wires")))) && (Hd.codeB K (He.ga K "are_wires") "are_wires" && (PySem.W.keepIn K (.ref (He.ga K "are_wires")) && (He.eqO (PySem.W.nsIn K mainGlobals "are_good_for_net") (some (some (.ref (He.ga K "are_good_for_net")))) && (Hd.codeB K (He.ga K "are_good_for_net") "are_good_for_net" && (PySem.W.keepIn K (.ref (He.ga K "are_good_for_net")) && (He.eqO (PySem.W.nsIn K mainGlobals "has_word") (some (some (.ref (He.ga K "has_word")))) && (Hd.codeB K (He.ga K "has_word") "has_word" && (PySem.W.keepIn K (.ref (He.ga K "has_word")) && (He.eqO (PySem.W.nsIn K mainGlobals "check_rings") (some (some (.ref (He.ga K "check_rings")))) && (Hd.codeB K (He.ga K "check_rings") "check_rings")))))))))))))))))))))))))))))
def chk2 (K : PySem.W.Frag) : Bool := PySem.W.keepIn K (.ref (He.ga K "check_rings")) && (He.eqO (PySem.W.nsIn K mainGlobals "line_targets") (some (some (.ref (He.ga K "line_targets")))) && (Hd.codeB K (He.ga K "line_targets") "line_targets" && (PySem.W.keepIn K (.ref (He.ga K "line_targets")) && (He.eqO (PySem.W.nsIn K mainGlobals "line_at") (some (some (.ref (He.ga K "line_at")))) && (Hd.codeB K (He.ga K "line_at") "line_at" && (PySem.W.keepIn K (.ref (He.ga K "line_at")) && (He.eqO (PySem.W.nsIn K mainGlobals "line_of") (some (some (.ref (He.ga K "line_of")))) && (Hd.codeB K (He.ga K "line_of") "line_of" && (PySem.W.keepIn K (.ref (He.ga K "line_of")) && (He.eqO (PySem.W.nsIn K mainGlobals "_law_feed") (some (some (.ref (He.ga K "_law_feed")))) && (Hd.codeB K (He.ga K "_law_feed") "_law_feed" && (PySem.W.keepIn K (.ref (He.ga K "_law_feed")) && (He.eqO (PySem.W.nsIn K mainGlobals "_law_take") (some (some (.ref (He.ga K "_law_take")))) && (Hd.codeB K (He.ga K "_law_take") "_law_take" && (PySem.W.keepIn K (.ref (He.ga K "_law_take")) && (He.eqO (PySem.W.nsIn K mainGlobals "_law_pick") (some (some (.ref (He.ga K "_law_pick")))) && (Hd.codeB K (He.ga K "_law_pick") "_law_pick" && (PySem.W.keepIn K (.ref (He.ga K "_law_pick")) && (He.eqO (PySem.W.nsIn K mainGlobals "_law_ports") (some (some (.ref (He.ga K "_law_ports")))) && (Hd.codeB K (He.ga K "_law_ports") "_law_ports" && (PySem.W.keepIn K (.ref (He.ga K "_law_ports")) && (He.eqO (PySem.W.nsIn K mainGlobals "_law_number") (some (some (.ref (He.ga K "_law_number")))) && (Hd.codeB K (He.ga K "_law_number") "_law_number" && (PySem.W.keepIn K (.ref (He.ga K "_law_number")) && (He.eqO (PySem.W.nsIn K mainGlobals "_law_paths") (some (some (.ref (He.ga K "_law_paths")))) && (Hd.codeB K (He.ga K "_law_paths") "_law_paths" && (PySem.W.keepIn K (.ref (He.ga K "_law_paths")) && (He.eqO (PySem.W.nsIn K mainGlobals "_law_sources") (some (some (.ref (He.ga K "_law_sources")))) && (Hd.codeB K (He.ga K "_law_sources") "_law_sources")))))))))))))))))))))))))))))
def chk3 (K : PySem.W.Frag) : Bool := PySem.W.keepIn K (.ref (He.ga K "_law_sources")) && (He.eqO (PySem.W.nsIn K mainGlobals "_law_turned") (some (some (.ref (He.ga K "_law_turned")))) && (Hd.codeB K (He.ga K "_law_turned") "_law_turned" && (PySem.W.keepIn K (.ref (He.ga K "_law_turned")) && (He.eqO (PySem.W.nsIn K mainGlobals "_law_texts") (some (some (.ref (He.ga K "_law_texts")))) && (Hd.codeB K (He.ga K "_law_texts") "_law_texts" && (PySem.W.keepIn K (.ref (He.ga K "_law_texts")) && (He.eqO (PySem.W.nsIn K mainGlobals "_law_net") (some (some (.ref (He.ga K "_law_net")))) && (Hd.codeB K (He.ga K "_law_net") "_law_net" && (PySem.W.keepIn K (.ref (He.ga K "_law_net")) && (He.eqO (PySem.W.nsIn K mainGlobals "_law_targets") (some (some (.ref (He.ga K "_law_targets")))) && (Hd.codeB K (He.ga K "_law_targets") "_law_targets" && (PySem.W.keepIn K (.ref (He.ga K "_law_targets")) && (He.eqO (PySem.W.nsIn K mainGlobals "_law_laid") (some (some (.ref (He.ga K "_law_laid")))) && (Hd.codeB K (He.ga K "_law_laid") "_law_laid" && (PySem.W.keepIn K (.ref (He.ga K "_law_laid")) && (He.eqO (PySem.W.nsIn K mainGlobals "_law_first") (some (some (.ref (He.ga K "_law_first")))) && (Hd.codeB K (He.ga K "_law_first") "_law_first" && (PySem.W.keepIn K (.ref (He.ga K "_law_first")) && (He.eqO (PySem.W.nsIn K mainGlobals "_law_made") (some (some (.ref (He.ga K "_law_made")))) && (Hd.codeB K (He.ga K "_law_made") "_law_made" && (PySem.W.keepIn K (.ref (He.ga K "_law_made")) && (He.eqO (PySem.W.nsIn K mainGlobals "_law_lined") (some (some (.ref (He.ga K "_law_lined")))) && (Hd.codeB K (He.ga K "_law_lined") "_law_lined" && (PySem.W.keepIn K (.ref (He.ga K "_law_lined")) && (He.eqO (PySem.W.nsIn K mainGlobals "_law_has_ring") (some (some (.ref (He.ga K "_law_has_ring")))) && (Hd.codeB K (He.ga K "_law_has_ring") "_law_has_ring" && (PySem.W.keepIn K (.ref (He.ga K "_law_has_ring")) && (He.eqO (PySem.W.nsIn K mainGlobals "_law_line") (some (some (.ref (He.ga K "_law_line")))) && (Hd.codeB K (He.ga K "_law_line") "_law_line")))))))))))))))))))))))))))))
def chk4 (K : PySem.W.Frag) : Bool := PySem.W.keepIn K (.ref (He.ga K "_law_line")) && (He.eqO (PySem.W.nsIn K mainGlobals "_law_delayed") (some (some (.ref (He.ga K "_law_delayed")))) && (Hd.codeB K (He.ga K "_law_delayed") "_law_delayed" && (PySem.W.keepIn K (.ref (He.ga K "_law_delayed")) && (He.eqO (PySem.W.nsIn K mainGlobals "_law_asked") (some (some (.ref (He.ga K "_law_asked")))) && (Hd.codeB K (He.ga K "_law_asked") "_law_asked" && (PySem.W.keepIn K (.ref (He.ga K "_law_asked")) && (He.eqO (PySem.W.nsIn K mainGlobals "_law_odd") (some (some (.ref (He.ga K "_law_odd")))) && (Hd.codeB K (He.ga K "_law_odd") "_law_odd" && (PySem.W.keepIn K (.ref (He.ga K "_law_odd")) && (He.eqO (PySem.W.nsIn K mainGlobals "law") (some (some (.ref (He.ga K "law")))) && (Hd.codeB K (He.ga K "law") "law" && (PySem.W.keepIn K (.ref (He.ga K "law")) && (He.eqO (PySem.W.nsIn K mainGlobals "PORTS") (some (some (.ref (He.ga K "PORTS")))) && (He.eqO (PySem.W.nsIn K (He.ga K "PORTS") "const") (some (some (.ref (Hd.rf (PySem.W.nsIn K (He.ga K "PORTS") "const"))))) && (Hd.tupV K (Hd.rf (PySem.W.nsIn K (He.ga K "PORTS") "const")) [.ref (Hd.sqA K (Hd.rf (PySem.W.nsIn K (He.ga K "PORTS") "const")) 0), .ref (Hd.sqA K (Hd.rf (PySem.W.nsIn K (He.ga K "PORTS") "const")) 1)] && (Hd.tupV K (Hd.sqA K (Hd.rf (PySem.W.nsIn K (He.ga K "PORTS") "const")) 0) [] && (Hd.tupV K (Hd.sqA K (Hd.rf (PySem.W.nsIn K (He.ga K "PORTS") "const")) 1) [.str "out" (Hd.sqK K (Hd.sqA K (Hd.rf (PySem.W.nsIn K (He.ga K "PORTS") "const")) 1) 0)] && (He.eqO (PySem.W.nsIn K (He.ga K "PORTS") "add") (some (some (.ref (Hd.rf (PySem.W.nsIn K (He.ga K "PORTS") "add"))))) && (Hd.tupV K (Hd.rf (PySem.W.nsIn K (He.ga K "PORTS") "add")) [.ref (Hd.sqA K (Hd.rf (PySem.W.nsIn K (He.ga K "PORTS") "add")) 0), .ref (Hd.sqA K (Hd.rf (PySem.W.nsIn K (He.ga K "PORTS") "add")) 1)] && (Hd.tupV K (Hd.sqA K (Hd.rf (PySem.W.nsIn K (He.ga K "PORTS") "add")) 0) [.str "a" (Hd.sqK K (Hd.sqA K (Hd.rf (PySem.W.nsIn K (He.ga K "PORTS") "add")) 0) 0), .str "b" (Hd.sqK K (Hd.sqA K (Hd.rf (PySem.W.nsIn K (He.ga K "PORTS") "add")) 0) 1)] && (Hd.tupV K (Hd.sqA K (Hd.rf (PySem.W.nsIn K (He.ga K "PORTS") "add")) 1) [.str "out" (Hd.sqK K (Hd.sqA K (Hd.rf (PySem.W.nsIn K (He.ga K "PORTS") "add")) 1) 0)] && (He.eqO (PySem.W.nsIn K (He.ga K "PORTS") "sub") (some (some (.ref (Hd.rf (PySem.W.nsIn K (He.ga K "PORTS") "sub"))))) && (Hd.tupV K (Hd.rf (PySem.W.nsIn K (He.ga K "PORTS") "sub")) [.ref (Hd.sqA K (Hd.rf (PySem.W.nsIn K (He.ga K "PORTS") "sub")) 0), .ref (Hd.sqA K (Hd.rf (PySem.W.nsIn K (He.ga K "PORTS") "sub")) 1)] && (Hd.tupV K (Hd.sqA K (Hd.rf (PySem.W.nsIn K (He.ga K "PORTS") "sub")) 0) [.str "a" (Hd.sqK K (Hd.sqA K (Hd.rf (PySem.W.nsIn K (He.ga K "PORTS") "sub")) 0) 0), .str "b" (Hd.sqK K (Hd.sqA K (Hd.rf (PySem.W.nsIn K (He.ga K "PORTS") "sub")) 0) 1)] && (Hd.tupV K (Hd.sqA K (Hd.rf (PySem.W.nsIn K (He.ga K "PORTS") "sub")) 1) [.str "out" (Hd.sqK K (Hd.sqA K (Hd.rf (PySem.W.nsIn K (He.ga K "PORTS") "sub")) 1) 0)] && (He.eqO (PySem.W.nsIn K (He.ga K "PORTS") "mul") (some (some (.ref (Hd.rf (PySem.W.nsIn K (He.ga K "PORTS") "mul"))))) && (Hd.tupV K (Hd.rf (PySem.W.nsIn K (He.ga K "PORTS") "mul")) [.ref (Hd.sqA K (Hd.rf (PySem.W.nsIn K (He.ga K "PORTS") "mul")) 0), .ref (Hd.sqA K (Hd.rf (PySem.W.nsIn K (He.ga K "PORTS") "mul")) 1)] && (Hd.tupV K (Hd.sqA K (Hd.rf (PySem.W.nsIn K (He.ga K "PORTS") "mul")) 0) [.str "a" (Hd.sqK K (Hd.sqA K (Hd.rf (PySem.W.nsIn K (He.ga K "PORTS") "mul")) 0) 0), .str "b" (Hd.sqK K (Hd.sqA K (Hd.rf (PySem.W.nsIn K (He.ga K "PORTS") "mul")) 0) 1)] && (Hd.tupV K (Hd.sqA K (Hd.rf (PySem.W.nsIn K (He.ga K "PORTS") "mul")) 1) [.str "out" (Hd.sqK K (Hd.sqA K (Hd.rf (PySem.W.nsIn K (He.ga K "PORTS") "mul")) 1) 0)])))))))))))))))))))))))))))))
def chk5 (K : PySem.W.Frag) : Bool := He.eqO (PySem.W.nsIn K (He.ga K "PORTS") "less") (some (some (.ref (Hd.rf (PySem.W.nsIn K (He.ga K "PORTS") "less"))))) && (Hd.tupV K (Hd.rf (PySem.W.nsIn K (He.ga K "PORTS") "less")) [.ref (Hd.sqA K (Hd.rf (PySem.W.nsIn K (He.ga K "PORTS") "less")) 0), .ref (Hd.sqA K (Hd.rf (PySem.W.nsIn K (He.ga K "PORTS") "less")) 1)] && (Hd.tupV K (Hd.sqA K (Hd.rf (PySem.W.nsIn K (He.ga K "PORTS") "less")) 0) [.str "a" (Hd.sqK K (Hd.sqA K (Hd.rf (PySem.W.nsIn K (He.ga K "PORTS") "less")) 0) 0), .str "b" (Hd.sqK K (Hd.sqA K (Hd.rf (PySem.W.nsIn K (He.ga K "PORTS") "less")) 0) 1)] && (Hd.tupV K (Hd.sqA K (Hd.rf (PySem.W.nsIn K (He.ga K "PORTS") "less")) 1) [.str "out" (Hd.sqK K (Hd.sqA K (Hd.rf (PySem.W.nsIn K (He.ga K "PORTS") "less")) 1) 0)] && (He.eqO (PySem.W.nsIn K (He.ga K "PORTS") "equal") (some (some (.ref (Hd.rf (PySem.W.nsIn K (He.ga K "PORTS") "equal"))))) && (Hd.tupV K (Hd.rf (PySem.W.nsIn K (He.ga K "PORTS") "equal")) [.ref (Hd.sqA K (Hd.rf (PySem.W.nsIn K (He.ga K "PORTS") "equal")) 0), .ref (Hd.sqA K (Hd.rf (PySem.W.nsIn K (He.ga K "PORTS") "equal")) 1)] && (Hd.tupV K (Hd.sqA K (Hd.rf (PySem.W.nsIn K (He.ga K "PORTS") "equal")) 0) [.str "a" (Hd.sqK K (Hd.sqA K (Hd.rf (PySem.W.nsIn K (He.ga K "PORTS") "equal")) 0) 0), .str "b" (Hd.sqK K (Hd.sqA K (Hd.rf (PySem.W.nsIn K (He.ga K "PORTS") "equal")) 0) 1)] && (Hd.tupV K (Hd.sqA K (Hd.rf (PySem.W.nsIn K (He.ga K "PORTS") "equal")) 1) [.str "out" (Hd.sqK K (Hd.sqA K (Hd.rf (PySem.W.nsIn K (He.ga K "PORTS") "equal")) 1) 0)] && (He.eqO (PySem.W.nsIn K (He.ga K "PORTS") "pick") (some (some (.ref (Hd.rf (PySem.W.nsIn K (He.ga K "PORTS") "pick"))))) && (Hd.tupV K (Hd.rf (PySem.W.nsIn K (He.ga K "PORTS") "pick")) [.ref (Hd.sqA K (Hd.rf (PySem.W.nsIn K (He.ga K "PORTS") "pick")) 0), .ref (Hd.sqA K (Hd.rf (PySem.W.nsIn K (He.ga K "PORTS") "pick")) 1)] && (Hd.tupV K (Hd.sqA K (Hd.rf (PySem.W.nsIn K (He.ga K "PORTS") "pick")) 0) [.str "c" (Hd.sqK K (Hd.sqA K (Hd.rf (PySem.W.nsIn K (He.ga K "PORTS") "pick")) 0) 0), .str "a" (Hd.sqK K (Hd.sqA K (Hd.rf (PySem.W.nsIn K (He.ga K "PORTS") "pick")) 0) 1), .str "b" (Hd.sqK K (Hd.sqA K (Hd.rf (PySem.W.nsIn K (He.ga K "PORTS") "pick")) 0) 2)] && (Hd.tupV K (Hd.sqA K (Hd.rf (PySem.W.nsIn K (He.ga K "PORTS") "pick")) 1) [.str "out" (Hd.sqK K (Hd.sqA K (Hd.rf (PySem.W.nsIn K (He.ga K "PORTS") "pick")) 1) 0)] && (He.eqO (PySem.W.nsIn K (He.ga K "PORTS") "divide") (some (some (.ref (Hd.rf (PySem.W.nsIn K (He.ga K "PORTS") "divide"))))) && (Hd.tupV K (Hd.rf (PySem.W.nsIn K (He.ga K "PORTS") "divide")) [.ref (Hd.sqA K (Hd.rf (PySem.W.nsIn K (He.ga K "PORTS") "divide")) 0), .ref (Hd.sqA K (Hd.rf (PySem.W.nsIn K (He.ga K "PORTS") "divide")) 1)] && (Hd.tupV K (Hd.sqA K (Hd.rf (PySem.W.nsIn K (He.ga K "PORTS") "divide")) 0) [.str "a" (Hd.sqK K (Hd.sqA K (Hd.rf (PySem.W.nsIn K (He.ga K "PORTS") "divide")) 0) 0), .str "b" (Hd.sqK K (Hd.sqA K (Hd.rf (PySem.W.nsIn K (He.ga K "PORTS") "divide")) 0) 1)] && (Hd.tupV K (Hd.sqA K (Hd.rf (PySem.W.nsIn K (He.ga K "PORTS") "divide")) 1) [.str "quotient" (Hd.sqK K (Hd.sqA K (Hd.rf (PySem.W.nsIn K (He.ga K "PORTS") "divide")) 1) 0), .str "rest" (Hd.sqK K (Hd.sqA K (Hd.rf (PySem.W.nsIn K (He.ga K "PORTS") "divide")) 1) 1)] && (He.eqO (PySem.W.nsIn K (He.ga K "PORTS") "delay") (some (some (.ref (Hd.rf (PySem.W.nsIn K (He.ga K "PORTS") "delay"))))) && (Hd.tupV K (Hd.rf (PySem.W.nsIn K (He.ga K "PORTS") "delay")) [.ref (Hd.sqA K (Hd.rf (PySem.W.nsIn K (He.ga K "PORTS") "delay")) 0), .ref (Hd.sqA K (Hd.rf (PySem.W.nsIn K (He.ga K "PORTS") "delay")) 1)] && (Hd.tupV K (Hd.sqA K (Hd.rf (PySem.W.nsIn K (He.ga K "PORTS") "delay")) 0) [.str "in" (Hd.sqK K (Hd.sqA K (Hd.rf (PySem.W.nsIn K (He.ga K "PORTS") "delay")) 0) 0)] && (Hd.tupV K (Hd.sqA K (Hd.rf (PySem.W.nsIn K (He.ga K "PORTS") "delay")) 1) [.str "out" (Hd.sqK K (Hd.sqA K (Hd.rf (PySem.W.nsIn K (He.ga K "PORTS") "delay")) 1) 0)] && (decide (Hd.dKeys K (He.ga K "PORTS") = [.str "const" (Hd.dKeyT K (He.ga K "PORTS") 0), .str "add" (Hd.dKeyT K (He.ga K "PORTS") 1), .str "sub" (Hd.dKeyT K (He.ga K "PORTS") 2), .str "mul" (Hd.dKeyT K (He.ga K "PORTS") 3), .str "less" (Hd.dKeyT K (He.ga K "PORTS") 4), .str "equal" (Hd.dKeyT K (He.ga K "PORTS") 5), .str "pick" (Hd.dKeyT K (He.ga K "PORTS") 6), .str "divide" (Hd.dKeyT K (He.ga K "PORTS") 7), .str "delay" (Hd.dKeyT K (He.ga K "PORTS") 8)]) && (He.eqO (PySem.W.nsIn K mainGlobals "RESERVED") (some (some (.ref (He.ga K "RESERVED")))) && (Hd.tupV K (He.ga K "RESERVED") [.str "block" (Hd.sqK K (He.ga K "RESERVED") 0), .str "part" (Hd.sqK K (He.ga K "RESERVED") 1), .str "end" (Hd.sqK K (He.ga K "RESERVED") 2), .str "self" (Hd.sqK K (He.ga K "RESERVED") 3)] && (He.eqO (PySem.W.nsIn K mainGlobals "Block") (some (some (.ref (He.ga K "Block")))) && (He.eqO (PySem.W.nsIn K mainGlobals "Primitive") (some (some (.ref (He.ga K "Primitive")))) && (PySem.W.plainGet K (He.ga K "Primitive") Str.empty && (PySem.W.hasDictIn K (He.ga K "Primitive") && (PySem.W.plainOver K (He.ga K "Primitive") && (He.eqO (PySem.W.findIn K (.ref (He.ga K "Primitive")) "__setattr__") (some (some (.builtin "object.__setattr__"))) && (PySem.W.makesIn K (He.ga K "Primitive"))))))))))))))))))))))))))))))
def chk6 (K : PySem.W.Frag) : Bool := PySem.W.keepIn K (.ref (He.ga K "Primitive")) && (He.eqO (PySem.W.findIn K (.ref (He.ga K "Primitive")) "name") (some none) && (He.eqO (PySem.W.findIn K (.ref (He.ga K "Primitive")) "inputs") (some none) && (He.eqO (PySem.W.findIn K (.ref (He.ga K "Primitive")) "outputs") (some none) && (He.eqO (PySem.W.findIn K (.ref (He.ga K "Primitive")) "constant") (some none) && (He.eqO (PySem.W.findIn K (.ref (He.ga K "Primitive")) "text") (some none) && ((PySem.W.clsIn K (He.ga K "Block")).isSome && (decide (PySem.W.typeIn K (.ref (He.ga K "Block")) = some (.type "type")) && (decide (PySem.W.subIn K (.ref (He.ga K "Primitive")) (.ref (He.ga K "Block")) = some true) && (He.eqO (PySem.W.ks_superIn K (He.ga K "Primitive") (He.ga K "Primitive") "__init__") (some (some (.ref (He.ma K (He.ga K "Block") "__init__")))) && (Hd.codeB K (He.ma K (He.ga K "Block") "__init__") "Block.__init__" && (PySem.W.keepIn K (.ref (He.ma K (He.ga K "Block") "__init__")) && (decide (PySem.W.typeIn K (.ref (He.ma K (He.ga K "Block") "__init__")) = some (.type "function")) && (PySem.W.fnIn K (He.ma K (He.ga K "Block") "__init__") && (He.eqO (PySem.W.findIn K (.ref (He.ga K "Primitive")) "__init__") (some (some (.ref (He.ma K (He.ga K "Primitive") "__init__")))) && (Hd.codeB K (He.ma K (He.ga K "Primitive") "__init__") "Primitive.__init__" && (PySem.W.keepIn K (.ref (He.ma K (He.ga K "Primitive") "__init__")) && (PySem.W.isFn K (.ref (He.ma K (He.ga K "Primitive") "__init__")) && ((PySem.W.clsIn K (He.ga K "Primitive")).isSome && (Hd.fldB K (Hd.fcode K (He.ma K (He.ga K "Primitive") "__init__")) (PySem.Challenge.rw_stepblocks_k82_lines_of_targets).prog.main.file && (Hd.cellB K (Hd.fcell K (He.ma K (He.ga K "Primitive") "__init__")) (He.ga K "Primitive") && (decide (PySem.W.mroIn K (He.ga K "Primitive") (.ref (He.ga K "Primitive")) = some true) && (He.eqO (PySem.W.nsIn K mainGlobals "super") (some none) && (He.eqO (PySem.W.nsIn K PySem.cStatics "thirdparty.any") (some none) && (Hd.cfB (PySem.W.findCls K (.ref (He.ga K "Primitive")) (.type "type") "parse") (.get (.builtin "classmethod.__get__") (.ref (Hd.clsP K (He.ga K "Primitive") "parse")) .none (.ref (He.ga K "Primitive"))) && (decide (PySem.W.recIn K (Hd.clsP K (He.ga K "Primitive") "parse") "classmethod" = some (.ref (Hd.rec1 K (Hd.clsP K (He.ga K "Primitive") "parse") "classmethod") :: (Hd.recR K (Hd.clsP K (He.ga K "Primitive") "parse") "classmethod"))) && (Hd.codeB K (Hd.rec1 K (Hd.clsP K (He.ga K "Primitive") "parse") "classmethod") "Primitive.parse" && (PySem.W.keepIn K (.ref (Hd.rec1 K (Hd.clsP K (He.ga K "Primitive") "parse") "classmethod")) && (PySem.W.fnIn K (Hd.rec1 K (Hd.clsP K (He.ga K "Primitive") "parse") "classmethod") && (PySem.W.readsIn K (He.ga K "Primitive") (.type "type"))))))))))))))))))))))))))))))
def chk7 (K : PySem.W.Frag) : Bool := He.eqO (PySem.W.specialIn K (.ref (He.ga K "Primitive")) "__getattribute__") (some (some (.builtin "type.__getattribute__"))) && (He.eqO (PySem.W.nsIn K mainGlobals "Diagram") (some (some (.ref (He.ga K "Diagram")))) && (PySem.W.plainGet K (He.ga K "Diagram") Str.empty && (PySem.W.hasDictIn K (He.ga K "Diagram") && (PySem.W.plainOver K (He.ga K "Diagram") && (He.eqO (PySem.W.findIn K (.ref (He.ga K "Diagram")) "__setattr__") (some (some (.builtin "object.__setattr__"))) && (PySem.W.makesIn K (He.ga K "Diagram") && (PySem.W.keepIn K (.ref (He.ga K "Diagram")) && (PySem.W.readsIn K (He.ga K "Diagram") (.type "type") && (He.eqO (PySem.W.specialIn K (.ref (He.ga K "Diagram")) "__getattribute__") (some (some (.builtin "type.__getattribute__"))) && (Hd.cfB (PySem.W.findCls K (.ref (He.ga K "Diagram")) (.type "type") "MAX_PORTS") (.val (.int 8 (Hd.tk (PySem.W.findIn K (.ref (He.ga K "Diagram")) "MAX_PORTS")))) && (He.eqO (PySem.W.findIn K (.ref (He.ga K "Diagram")) "MAX_PORTS") (some (some (.int 8 (Hd.tk (PySem.W.findIn K (.ref (He.ga K "Diagram")) "MAX_PORTS"))))) && (He.eqO (PySem.W.specialIn K (.int 8 (Hd.tk (PySem.W.findIn K (.ref (He.ga K "Diagram")) "MAX_PORTS"))) "__get__") (some none) && (He.eqO (PySem.W.nsIn K mainGlobals "Net") (some (some (.ref (He.ga K "Net")))) && (PySem.W.plainGet K (He.ga K "Net") Str.empty && (PySem.W.hasDictIn K (He.ga K "Net") && (PySem.W.plainOver K (He.ga K "Net") && (He.eqO (PySem.W.findIn K (.ref (He.ga K "Net")) "__setattr__") (some (some (.builtin "object.__setattr__"))) && (PySem.W.makesIn K (He.ga K "Net") && (PySem.W.keepIn K (.ref (He.ga K "Net")) && (He.eqO (PySem.W.findIn K (.ref (He.ga K "Net")) "inputs") (some none) && (He.eqO (PySem.W.findIn K (.ref (He.ga K "Net")) "outputs") (some none) && (He.eqO (PySem.W.findIn K (.ref (He.ga K "Net")) "parts") (some none) && (He.eqO (PySem.W.findIn K (.ref (He.ga K "Net")) "wires") (some none) && (He.eqO (PySem.W.findIn K (.ref (He.ga K "Net")) "blocks") (some none) && (He.eqO (PySem.W.findIn K (.ref (He.ga K "Net")) "source_of") (some none) && (He.eqO (PySem.W.findIn K (.ref (He.ga K "Net")) "sequence") (some none) && (He.eqO (PySem.W.findIn K (.ref (He.ga K "Net")) "__init__") (some (some (.ref (He.ma K (He.ga K "Net") "__init__")))) && (Hd.codeB K (He.ma K (He.ga K "Net") "__init__") "Net.__init__" && (PySem.W.keepIn K (.ref (He.ma K (He.ga K "Net") "__init__")))))))))))))))))))))))))))))))
def chk8 (K : PySem.W.Frag) : Bool := PySem.W.isFn K (.ref (He.ma K (He.ga K "Net") "__init__")) && (He.eqO (PySem.W.findIn K (.ref (He.ga K "Net")) "lay") (some (some (.ref (He.ma K (He.ga K "Net") "lay")))) && (Hd.codeB K (He.ma K (He.ga K "Net") "lay") "Net.lay" && (PySem.W.keepIn K (.ref (He.ma K (He.ga K "Net") "lay")) && (PySem.W.isFn K (.ref (He.ma K (He.ga K "Net") "lay")) && (He.eqO (PySem.W.findIn K (.ref (He.ga K "Net")) "ordered") (some (some (.ref (He.ma K (He.ga K "Net") "ordered")))) && (Hd.codeB K (He.ma K (He.ga K "Net") "ordered") "Net.ordered" && (PySem.W.keepIn K (.ref (He.ma K (He.ga K "Net") "ordered")) && (PySem.W.isFn K (.ref (He.ma K (He.ga K "Net") "ordered")) && (He.eqO (PySem.W.findIn K (.ref (He.ga K "Net")) "is_fed") (some (some (.ref (He.ma K (He.ga K "Net") "is_fed")))) && (Hd.codeB K (He.ma K (He.ga K "Net") "is_fed") "Net.is_fed" && (PySem.W.keepIn K (.ref (He.ma K (He.ga K "Net") "is_fed")) && (PySem.W.isFn K (.ref (He.ma K (He.ga K "Net") "is_fed")) && (He.eqO (PySem.W.findIn K (.ref (He.ga K "Net")) "first_state") (some (some (.ref (He.ma K (He.ga K "Net") "first_state")))) && (Hd.codeB K (He.ma K (He.ga K "Net") "first_state") "Net.first_state" && (PySem.W.keepIn K (.ref (He.ma K (He.ga K "Net") "first_state")) && (PySem.W.isFn K (.ref (He.ma K (He.ga K "Net") "first_state")) && (He.eqO (PySem.W.nsIn K mainGlobals "BlockError") (some (some (.ref (He.ga K "BlockError")))) && (decide (PySem.W.subIn K (.ref (He.ga K "BlockError")) (.type "BaseException") = some true) && (PySem.W.hasDictIn K (He.ga K "BlockError") && (decide (PySem.W.typeIn K (.ref (He.ga K "BlockError")) = some (.type "type")) && (He.eqO (PySem.W.nsIn K mainGlobals "UnknownPort") (some (some (.ref (He.ga K "UnknownPort")))) && (Hd.excB K (He.ga K "UnknownPort") [.ref (He.ga K "BlockError"), .type "ValueError", .type "Exception", .type "BaseException", .type "object"] "ValueError.__new__" && (He.eqO (PySem.W.findIn K (.ref (He.ga K "UnknownPort")) "__setattr__") (some (some (.builtin "object.__setattr__"))) && (decide (PySem.W.subIn K (.ref (He.ga K "UnknownPort")) (.type "BaseException") = some true) && (decide (PySem.W.typeIn K (.ref (He.ga K "UnknownPort")) = some (.type "type")) && (PySem.W.keepIn K (.ref (He.ga K "UnknownPort")) && (He.eqO (PySem.W.findIn K (.ref (He.ga K "UnknownPort")) "__getattribute__") (some (some (.builtin "BaseException.__getattribute__"))) && (He.eqO (PySem.W.findIn K (.ref (He.ga K "UnknownPort")) "__getattr__") (some none) && (PySem.W.hasDictIn K (He.ga K "UnknownPort"))))))))))))))))))))))))))))))
def chk9 (K : PySem.W.Frag) : Bool := He.eqO (PySem.W.findIn K (.ref (He.ga K "UnknownPort")) "__class__") (some (some (.builtin "object.__class__"))) && (decide (PySem.W.mroIn K (He.ga K "UnknownPort") (.type "object") = some true) && ((PySem.W.clsIn K (He.ga K "UnknownPort")).isSome && (decide (PySem.W.subIn K (.ref (He.ga K "UnknownPort")) (.type "ValueError") = some true) && (decide (PySem.W.subIn K (.ref (He.ga K "UnknownPort")) (.ref (He.ga K "BlockError")) = some true) && (He.eqO (PySem.W.specialIn K (.builtin "object.__class__") "__get__") (some (some (.builtin "getset_descriptor.__get__"))) && (decide (PySem.W.takesIn K (.builtin "object.__class__") = some true) && (He.eqO (PySem.W.findIn K (.ref (He.ga K "UnknownPort")) "__init__") (some (some (.ref (He.ma K (He.ga K "UnknownPort") "__init__")))) && (Hd.codeB K (He.ma K (He.ga K "UnknownPort") "__init__") "UnknownPort.__init__" && (PySem.W.keepIn K (.ref (He.ma K (He.ga K "UnknownPort") "__init__")) && (decide (PySem.W.typeIn K (.ref (He.ma K (He.ga K "UnknownPort") "__init__")) = some (.type "function")) && (decide (PySem.W.subIn K (.ref (He.ga K "UnknownPort")) (.ref (He.ga K "UnknownPort")) = some true) && ((PySem.W.clsIn K (He.ga K "BlockError")).isSome && (He.eqO (PySem.W.findIn K (.ref (He.ga K "UnknownPort")) "name") (some none) && (He.eqO (PySem.W.nsIn K mainGlobals "DelayRing") (some (some (.ref (He.ga K "DelayRing")))) && (PySem.W.excIn K (He.ga K "DelayRing") [.type "ValueError", .type "Exception", .type "BaseException", .type "object"] "ValueError.__new__" && (PySem.W.keepIn K (.ref (He.ga K "DelayRing")) && (decide (PySem.W.subIn K (.ref (He.ga K "DelayRing")) (.type "BaseException") = some true) && (decide (PySem.W.typeIn K (.ref (He.ga K "DelayRing")) = some (.type "type")) && (PySem.W.hasDictIn K (He.ga K "DelayRing") && (decide (PySem.W.subIn K (.ref (He.ga K "DelayRing")) (.ref (He.ga K "DelayRing")) = some true) && (decide (PySem.W.subIn K (.ref (He.ga K "DelayRing")) (.ref (He.ga K "UnknownPort")) = some false))))))))))))))))))))))
def chkA (K : PySem.W.Frag) : Bool := chk0 K && (chk1 K && (chk2 K && (chk3 K && (chk4 K && (chk5 K && (chk6 K && (chk7 K && (chk8 K && (chk9 K)))))))))
def fnsA : List Hd.DH := [⟨fun K => (He.ga K "number_of"), "number_of", "number_of", (defArgs s_number_of), (defBody s_number_of), (defScope s_number_of), []⟩,
  ⟨fun K => (He.ga K "is_primitive_text"), "is_primitive_text", "is_primitive_text", (defArgs s_is_primitive_text), (defBody s_is_primitive_text), (defScope s_is_primitive_text), []⟩,
  ⟨fun K => (He.ga K "is_name"), "is_name", "is_name", (defArgs s_is_name), (defBody s_is_name), (defScope s_is_name), []⟩,
  ⟨fun K => (He.ga K "are_ports"), "are_ports", "are_ports", (defArgs s_are_ports), (defBody s_are_ports), (defScope s_are_ports), []⟩,
  ⟨fun K => (He.ga K "is_path"), "is_path", "is_path", (defArgs s_is_path), (defBody s_is_path), (defScope s_is_path), []⟩,
  ⟨fun K => (He.ga K "are_parts"), "are_parts", "are_parts", (defArgs s_are_parts), (defBody s_are_parts), (defScope s_are_parts), []⟩,
  ⟨fun K => (He.ga K "ports_of"), "ports_of", "ports_of", (defArgs s_ports_of), (defBody s_ports_of), (defScope s_ports_of), []⟩,
  ⟨fun K => (He.ga K "targets_of"), "targets_of", "targets_of", (defArgs s_targets_of), (defBody s_targets_of), (defScope s_targets_of), []⟩,
  ⟨fun K => (He.ga K "sources_of"), "sources_of", "sources_of", (defArgs s_sources_of), (defBody s_sources_of), (defScope s_sources_of), []⟩,
  ⟨fun K => (He.ga K "are_wires"), "are_wires", "are_wires", (defArgs s_are_wires), (defBody s_are_wires), (defScope s_are_wires), []⟩,
  ⟨fun K => (He.ga K "are_good_for_net"), "are_good_for_net", "are_good_for_net", (defArgs s_are_good_for_net), (defBody s_are_good_for_net), (defScope s_are_good_for_net), []⟩,
  ⟨fun K => (He.ga K "has_word"), "has_word", "has_word", (defArgs s_has_word), (defBody s_has_word), (defScope s_has_word), []⟩,
  ⟨fun K => (He.ga K "check_rings"), "check_rings", "check_rings", (defArgs s_check_rings), (defBody s_check_rings), (defScope s_check_rings), []⟩,
  ⟨fun K => (He.ga K "line_targets"), "line_targets", "line_targets", (defArgs s_line_targets), (defBody s_line_targets), (defScope s_line_targets), []⟩,
  ⟨fun K => (He.ga K "line_at"), "line_at", "line_at", (defArgs s_line_at), (defBody s_line_at), (defScope s_line_at), []⟩,
  ⟨fun K => (He.ga K "line_of"), "line_of", "line_of", (defArgs s_line_of), (defBody s_line_of), (defScope s_line_of), []⟩,
  ⟨fun K => (He.ga K "_law_feed"), "_law_feed", "_law_feed", (defArgs s_law_feed), (defBody s_law_feed), (defScope s_law_feed), []⟩,
  ⟨fun K => (He.ga K "_law_take"), "_law_take", "_law_take", (defArgs s_law_take), (defBody s_law_take), (defScope s_law_take), []⟩,
  ⟨fun K => (He.ga K "_law_pick"), "_law_pick", "_law_pick", (defArgs s_law_pick), (defBody s_law_pick), (defScope s_law_pick), []⟩,
  ⟨fun K => (He.ga K "_law_ports"), "_law_ports", "_law_ports", (defArgs s_law_ports), (defBody s_law_ports), (defScope s_law_ports), []⟩,
  ⟨fun K => (He.ga K "_law_number"), "_law_number", "_law_number", (defArgs s_law_number), (defBody s_law_number), (defScope s_law_number), []⟩,
  ⟨fun K => (He.ga K "_law_paths"), "_law_paths", "_law_paths", (defArgs s_law_paths), (defBody s_law_paths), (defScope s_law_paths), []⟩,
  ⟨fun K => (He.ga K "_law_sources"), "_law_sources", "_law_sources", (defArgs s_law_sources), (defBody s_law_sources), (defScope s_law_sources), []⟩,
  ⟨fun K => (He.ga K "_law_turned"), "_law_turned", "_law_turned", (defArgs s_law_turned), (defBody s_law_turned), (defScope s_law_turned), []⟩,
  ⟨fun K => (He.ga K "_law_texts"), "_law_texts", "_law_texts", (defArgs s_law_texts), (defBody s_law_texts), (defScope s_law_texts), []⟩,
  ⟨fun K => (He.ga K "_law_net"), "_law_net", "_law_net", (defArgs s_law_net), (defBody s_law_net), (defScope s_law_net), []⟩,
  ⟨fun K => (He.ga K "_law_targets"), "_law_targets", "_law_targets", (defArgs s_law_targets), (defBody s_law_targets), (defScope s_law_targets), []⟩,
  ⟨fun K => (He.ga K "_law_laid"), "_law_laid", "_law_laid", (defArgs s_law_laid), (defBody s_law_laid), (defScope s_law_laid), []⟩,
  ⟨fun K => (He.ga K "_law_first"), "_law_first", "_law_first", (defArgs s_law_first), (defBody s_law_first), (defScope s_law_first), []⟩,
  ⟨fun K => (He.ga K "_law_made"), "_law_made", "_law_made", (defArgs s_law_made), (defBody s_law_made), (defScope s_law_made), []⟩,
  ⟨fun K => (He.ga K "_law_lined"), "_law_lined", "_law_lined", (defArgs s_law_lined), (defBody s_law_lined), (defScope s_law_lined), []⟩,
  ⟨fun K => (He.ga K "_law_has_ring"), "_law_has_ring", "_law_has_ring", (defArgs s_law_has_ring), (defBody s_law_has_ring), (defScope s_law_has_ring), []⟩,
  ⟨fun K => (He.ga K "_law_line"), "_law_line", "_law_line", (defArgs s_law_line), (defBody s_law_line), (defScope s_law_line), []⟩,
  ⟨fun K => (He.ga K "_law_delayed"), "_law_delayed", "_law_delayed", (defArgs s_law_delayed), (defBody s_law_delayed), (defScope s_law_delayed), []⟩,
  ⟨fun K => (He.ga K "_law_asked"), "_law_asked", "_law_asked", (defArgs s_law_asked), (defBody s_law_asked), (defScope s_law_asked), []⟩,
  ⟨fun K => (He.ga K "_law_odd"), "_law_odd", "_law_odd", (defArgs s_law_odd), (defBody s_law_odd), (defScope s_law_odd), []⟩,
  ⟨fun K => (He.ga K "law"), "law", "law", (defArgs s_law), (defBody s_law), (defScope s_law), []⟩,
  ⟨fun K => (He.ma K (He.ga K "Block") "__init__"), "__init__", "Block.__init__", (defArgs s_Block_init), (defBody s_Block_init), (defScope s_Block_init), []⟩,
  ⟨fun K => (He.ma K (He.ga K "Primitive") "__init__"), "__init__", "Primitive.__init__", (defArgs s_Primitive_init), (defBody s_Primitive_init), (defScope s_Primitive_init), ["__class__"]⟩,
  ⟨fun K => (Hd.rec1 K (Hd.clsP K (He.ga K "Primitive") "parse") "classmethod"), "parse", "Primitive.parse", (defArgs s_Primitive_parse), (defBody s_Primitive_parse), (defScope s_Primitive_parse), []⟩,
  ⟨fun K => (He.ma K (He.ga K "Net") "__init__"), "__init__", "Net.__init__", (defArgs s_Net_init), (defBody s_Net_init), (defScope s_Net_init), []⟩,
  ⟨fun K => (He.ma K (He.ga K "Net") "lay"), "lay", "Net.lay", (defArgs s_Net_lay), (defBody s_Net_lay), (defScope s_Net_lay), []⟩,
  ⟨fun K => (He.ma K (He.ga K "Net") "ordered"), "ordered", "Net.ordered", (defArgs s_Net_ordered), (defBody s_Net_ordered), (defScope s_Net_ordered), []⟩,
  ⟨fun K => (He.ma K (He.ga K "Net") "is_fed"), "is_fed", "Net.is_fed", (defArgs s_Net_is_fed), (defBody s_Net_is_fed), (defScope s_Net_is_fed), []⟩,
  ⟨fun K => (He.ma K (He.ga K "Net") "first_state"), "first_state", "Net.first_state", (defArgs s_Net_first_state), (defBody s_Net_first_state), (defScope s_Net_first_state), []⟩,
  ⟨fun K => (He.ma K (He.ga K "UnknownPort") "__init__"), "__init__", "UnknownPort.__init__", (defArgs s_UnknownPort_init), (defBody s_UnknownPort_init), (defScope s_UnknownPort_init), []⟩]
def tabA : List He.Tab := [(fun K => (He.ga K "PORTS"), ["const", "add", "sub", "mul", "less", "equal", "pick", "divide", "delay"])]
def nms0 : List Str := ["_wall", "__name__", "BlockError", "InvalidText", "TooLarge", "WrongCount", "UnknownPort", "BadValue", "BadNet", "DelayRing", "MODULUS", "MAX_NAME", "LETTERS", "DIGITS", "RESERVED", "PORTS", "is_value", "is_name", "number_of", "is_primitive_text", "is_block_text", "Block", "Primitive", "port_text", "text_of", "Diagram", "Reader", "is_port_name", "MAX_PARTS_AT_ALL_DEPTHS", "count_parts"]
def nms1 : List Str := ["check_size", "placed", "add_primitive", "port_graph", "primitives_of", "flatten", "MAX_NET", "MAX_PATH", "are_ports", "is_path", "are_parts", "ports_of", "targets_of", "sources_of", "are_wires", "are_good_for_net", "Net", "has_word", "check_rings", "line_targets", "line_at", "line_of", "_law_feed", "_law_take", "_law_pick", "_law_ports", "_law_number", "_law_paths", "_law_sources", "_law_turned"]
def nms2 : List Str := ["_law_texts", "_law_net", "_law_targets", "_law_laid", "_law_first", "_law_made", "_law_word", "_law_lined", "_law_has_ring", "_law_line", "_law_delayed", "_law_asked", "_law_odd"]
def nmsA : List Str := nms0 ++ nms1 ++ nms2
abbrev RowA : PySem.W.OpenRow := PySem.W.OpenLaw.row PySem.Challenge.rw_stepblocks_k82_lines_of_targets
abbrev viewA : Program := PySem.W.view RowA.prog [79]
abbrev hookA : PySem.W.Hook := Hd.hookH 1200 chkA fnsA tabA
def obA (s : PySem.W.SharedT) : Hd.AlH := Hd.obsHG 1200 chkA fnsA tabA (HandSHeadRun.getT s)
theorem obA_eq (s : PySem.W.SharedT) : obA s = hookA.obs s.abs := Hd.obsHG_eq (HandSHeadRun.getT_eq s)
set_option maxHeartbeats 0 in
theorem run_false (w : World) : HandSHeadRun.RunEq RowA viewA hookA obA 12000 nmsA (w.withFollow "special-get-raises" false) := by
  intro os
  kernel_rfl
set_option maxHeartbeats 0 in
theorem run_true (w : World) : HandSHeadRun.RunEq RowA viewA hookA obA 12000 nmsA (w.withFollow "special-get-raises" true) := by
  intro os
  kernel_rfl
theorem run_all (w : World) : HandSHeadRun.RunEq RowA viewA hookA obA 12000 nmsA w := PySem.W.byRow2 "special-get-raises" (P := fun w => HandSHeadRun.RunEq RowA viewA hookA obA 12000 nmsA w) run_false run_true w
theorem all_says {w : World} {K : PySem.W.Frag} {h : Heap} {mg : Str → Option Value} {fa : Addr} (X : K.In h) (G : h.Ns mainGlobals mg) (hfa : mg "law" = some (.ref fa)) (c : Hd.SaysH chkA fnsA tabA w K) :
    ∃ fd : FuncData, (∀ (s : Shared) (v : Value), BindsTo s fd ⟨[v], []⟩ [("script", v)]) ∧ ∀ base : Heap, K.In base → base.Ns mainGlobals mg → FnG (PySem.Challenge.rw_stepblocks_k82_lines_of_targets).prog w K mg base CX0 9 fa fd ["script"] (spLaw K) := by
  have z := c.bo
  unfold chkA at z
  obtain ⟨y, z⟩ := He.ba z
  unfold chk0 at y
  obtain ⟨q0, y⟩ := He.ba y
  obtain ⟨q1, y⟩ := He.ba y
  obtain ⟨q2, y⟩ := He.ba y
  obtain ⟨q3, y⟩ := He.ba y
  obtain ⟨q4, y⟩ := He.ba y
  obtain ⟨q5, y⟩ := He.ba y
  obtain ⟨q6, y⟩ := He.ba y
  obtain ⟨q7, y⟩ := He.ba y
  obtain ⟨q8, y⟩ := He.ba y
  obtain ⟨q9, y⟩ := He.ba y
  obtain ⟨q10, y⟩ := He.ba y
  obtain ⟨q11, y⟩ := He.ba y
  obtain ⟨q12, y⟩ := He.ba y
  obtain ⟨q13, y⟩ := He.ba y
  obtain ⟨q14, y⟩ := He.ba y
  obtain ⟨q15, y⟩ := He.ba y
  obtain ⟨q16, y⟩ := He.ba y
  obtain ⟨q17, y⟩ := He.ba y
  obtain ⟨q18, y⟩ := He.ba y
  obtain ⟨q19, y⟩ := He.ba y
  obtain ⟨q20, y⟩ := He.ba y
  obtain ⟨q21, y⟩ := He.ba y
  obtain ⟨q22, y⟩ := He.ba y
  obtain ⟨q23, y⟩ := He.ba y
  obtain ⟨q24, y⟩ := He.ba y
  obtain ⟨q25, y⟩ := He.ba y
  obtain ⟨q26, y⟩ := He.ba y
  obtain ⟨q27, y⟩ := He.ba y
  obtain ⟨q28, y⟩ := He.ba y
  have q29 := y
  clear y
  obtain ⟨y, z⟩ := He.ba z
  unfold chk1 at y
  obtain ⟨q30, y⟩ := He.ba y
  obtain ⟨q31, y⟩ := He.ba y
  obtain ⟨q32, y⟩ := He.ba y
  obtain ⟨q33, y⟩ := He.ba y
  obtain ⟨q34, y⟩ := He.ba y
  obtain ⟨q35, y⟩ := He.ba y
  obtain ⟨q36, y⟩ := He.ba y
  obtain ⟨q37, y⟩ := He.ba y
  obtain ⟨q38, y⟩ := He.ba y
  obtain ⟨q39, y⟩ := He.ba y
  obtain ⟨q40, y⟩ := He.ba y
  obtain ⟨q41, y⟩ := He.ba y
  obtain ⟨q42, y⟩ := He.ba y
  obtain ⟨q43, y⟩ := He.ba y
  obtain ⟨q44, y⟩ := He.ba y
  obtain ⟨q45, y⟩ := He.ba y
  obtain ⟨q46, y⟩ := He.ba y
  obtain ⟨q47, y⟩ := He.ba y
  obtain ⟨q48, y⟩ := He.ba y
  obtain ⟨q49, y⟩ := He.ba y
  obtain ⟨q50, y⟩ := He.ba y
  obtain ⟨q51, y⟩ := He.ba y
  obtain ⟨q52, y⟩ := He.ba y
  obtain ⟨q53, y⟩ := He.ba y
  obtain ⟨q54, y⟩ := He.ba y
  obtain ⟨q55, y⟩ := He.ba y
  obtain ⟨q56, y⟩ := He.ba y
  obtain ⟨q57, y⟩ := He.ba y
  obtain ⟨q58, y⟩ := He.ba y
  have q59 := y
  clear y
  obtain ⟨y, z⟩ := He.ba z
  unfold chk2 at y
  obtain ⟨q60, y⟩ := He.ba y
  obtain ⟨q61, y⟩ := He.ba y
  obtain ⟨q62, y⟩ := He.ba y
  obtain ⟨q63, y⟩ := He.ba y
  obtain ⟨q64, y⟩ := He.ba y
  obtain ⟨q65, y⟩ := He.ba y
  obtain ⟨q66, y⟩ := He.ba y
  obtain ⟨q67, y⟩ := He.ba y
  obtain ⟨q68, y⟩ := He.ba y
  obtain ⟨q69, y⟩ := He.ba y
  obtain ⟨q70, y⟩ := He.ba y
  obtain ⟨q71, y⟩ := He.ba y
  obtain ⟨q72, y⟩ := He.ba y
  obtain ⟨q73, y⟩ := He.ba y
  obtain ⟨q74, y⟩ := He.ba y
  obtain ⟨q75, y⟩ := He.ba y
  obtain ⟨q76, y⟩ := He.ba y
  obtain ⟨q77, y⟩ := He.ba y
  obtain ⟨q78, y⟩ := He.ba y
  obtain ⟨q79, y⟩ := He.ba y
  obtain ⟨q80, y⟩ := He.ba y
  obtain ⟨q81, y⟩ := He.ba y
  obtain ⟨q82, y⟩ := He.ba y
  obtain ⟨q83, y⟩ := He.ba y
  obtain ⟨q84, y⟩ := He.ba y
  obtain ⟨q85, y⟩ := He.ba y
  obtain ⟨q86, y⟩ := He.ba y
  obtain ⟨q87, y⟩ := He.ba y
  obtain ⟨q88, y⟩ := He.ba y
  have q89 := y
  clear y
  obtain ⟨y, z⟩ := He.ba z
  unfold chk3 at y
  obtain ⟨q90, y⟩ := He.ba y
  obtain ⟨q91, y⟩ := He.ba y
  obtain ⟨q92, y⟩ := He.ba y
  obtain ⟨q93, y⟩ := He.ba y
  obtain ⟨q94, y⟩ := He.ba y
  obtain ⟨q95, y⟩ := He.ba y
  obtain ⟨q96, y⟩ := He.ba y
  obtain ⟨q97, y⟩ := He.ba y
  obtain ⟨q98, y⟩ := He.ba y
  obtain ⟨q99, y⟩ := He.ba y
  obtain ⟨q100, y⟩ := He.ba y
  obtain ⟨q101, y⟩ := He.ba y
  obtain ⟨q102, y⟩ := He.ba y
  obtain ⟨q103, y⟩ := He.ba y
  obtain ⟨q104, y⟩ := He.ba y
  obtain ⟨q105, y⟩ := He.ba y
  obtain ⟨q106, y⟩ := He.ba y
  obtain ⟨q107, y⟩ := He.ba y
  obtain ⟨q108, y⟩ := He.ba y
  obtain ⟨q109, y⟩ := He.ba y
  obtain ⟨q110, y⟩ := He.ba y
  obtain ⟨q111, y⟩ := He.ba y
  obtain ⟨q112, y⟩ := He.ba y
  obtain ⟨q113, y⟩ := He.ba y
  obtain ⟨q114, y⟩ := He.ba y
  obtain ⟨q115, y⟩ := He.ba y
  obtain ⟨q116, y⟩ := He.ba y
  obtain ⟨q117, y⟩ := He.ba y
  obtain ⟨q118, y⟩ := He.ba y
  have q119 := y
  clear y
  obtain ⟨y, z⟩ := He.ba z
  unfold chk4 at y
  obtain ⟨q120, y⟩ := He.ba y
  obtain ⟨q121, y⟩ := He.ba y
  obtain ⟨q122, y⟩ := He.ba y
  obtain ⟨q123, y⟩ := He.ba y
  obtain ⟨q124, y⟩ := He.ba y
  obtain ⟨q125, y⟩ := He.ba y
  obtain ⟨q126, y⟩ := He.ba y
  obtain ⟨q127, y⟩ := He.ba y
  obtain ⟨q128, y⟩ := He.ba y
  obtain ⟨q129, y⟩ := He.ba y
  obtain ⟨q130, y⟩ := He.ba y
  obtain ⟨q131, y⟩ := He.ba y
  obtain ⟨q132, y⟩ := He.ba y
  obtain ⟨q133, y⟩ := He.ba y
  obtain ⟨q134, y⟩ := He.ba y
  obtain ⟨q135, y⟩ := He.ba y
  obtain ⟨q136, y⟩ := He.ba y
  obtain ⟨q137, y⟩ := He.ba y
  obtain ⟨q138, y⟩ := He.ba y
  obtain ⟨q139, y⟩ := He.ba y
  obtain ⟨q140, y⟩ := He.ba y
  obtain ⟨q141, y⟩ := He.ba y
  obtain ⟨q142, y⟩ := He.ba y
  obtain ⟨q143, y⟩ := He.ba y
  obtain ⟨q144, y⟩ := He.ba y
  obtain ⟨q145, y⟩ := He.ba y
  obtain ⟨q146, y⟩ := He.ba y
  obtain ⟨q147, y⟩ := He.ba y
  obtain ⟨q148, y⟩ := He.ba y
  have q149 := y
  clear y
  obtain ⟨y, z⟩ := He.ba z
  unfold chk5 at y
  obtain ⟨q150, y⟩ := He.ba y
  obtain ⟨q151, y⟩ := He.ba y
  obtain ⟨q152, y⟩ := He.ba y
  obtain ⟨q153, y⟩ := He.ba y
  obtain ⟨q154, y⟩ := He.ba y
  obtain ⟨q155, y⟩ := He.ba y
  obtain ⟨q156, y⟩ := He.ba y
  obtain ⟨q157, y⟩ := He.ba y
  obtain ⟨q158, y⟩ := He.ba y
  obtain ⟨q159, y⟩ := He.ba y
  obtain ⟨q160, y⟩ := He.ba y
  obtain ⟨q161, y⟩ := He.ba y
  obtain ⟨q162, y⟩ := He.ba y
  obtain ⟨q163, y⟩ := He.ba y
  obtain ⟨q164, y⟩ := He.ba y
  obtain ⟨q165, y⟩ := He.ba y
  obtain ⟨q166, y⟩ := He.ba y
  obtain ⟨q167, y⟩ := He.ba y
  obtain ⟨q168, y⟩ := He.ba y
  obtain ⟨q169, y⟩ := He.ba y
  obtain ⟨q170, y⟩ := He.ba y
  obtain ⟨q171, y⟩ := He.ba y
  obtain ⟨q172, y⟩ := He.ba y
  obtain ⟨q173, y⟩ := He.ba y
  obtain ⟨q174, y⟩ := He.ba y
  obtain ⟨q175, y⟩ := He.ba y
  obtain ⟨q176, y⟩ := He.ba y
  obtain ⟨q177, y⟩ := He.ba y
  obtain ⟨q178, y⟩ := He.ba y
  have q179 := y
  clear y
  obtain ⟨y, z⟩ := He.ba z
  unfold chk6 at y
  obtain ⟨q180, y⟩ := He.ba y
  obtain ⟨q181, y⟩ := He.ba y
  obtain ⟨q182, y⟩ := He.ba y
  obtain ⟨q183, y⟩ := He.ba y
  obtain ⟨q184, y⟩ := He.ba y
  obtain ⟨q185, y⟩ := He.ba y
  obtain ⟨q186, y⟩ := He.ba y
  obtain ⟨q187, y⟩ := He.ba y
  obtain ⟨q188, y⟩ := He.ba y
  obtain ⟨q189, y⟩ := He.ba y
  obtain ⟨q190, y⟩ := He.ba y
  obtain ⟨q191, y⟩ := He.ba y
  obtain ⟨q192, y⟩ := He.ba y
  obtain ⟨q193, y⟩ := He.ba y
  obtain ⟨q194, y⟩ := He.ba y
  obtain ⟨q195, y⟩ := He.ba y
  obtain ⟨q196, y⟩ := He.ba y
  obtain ⟨q197, y⟩ := He.ba y
  obtain ⟨q198, y⟩ := He.ba y
  obtain ⟨q199, y⟩ := He.ba y
  obtain ⟨q200, y⟩ := He.ba y
  obtain ⟨q201, y⟩ := He.ba y
  obtain ⟨q202, y⟩ := He.ba y
  obtain ⟨q203, y⟩ := He.ba y
  obtain ⟨q204, y⟩ := He.ba y
  obtain ⟨q205, y⟩ := He.ba y
  obtain ⟨q206, y⟩ := He.ba y
  obtain ⟨q207, y⟩ := He.ba y
  obtain ⟨q208, y⟩ := He.ba y
  have q209 := y
  clear y
  obtain ⟨y, z⟩ := He.ba z
  unfold chk7 at y
  obtain ⟨q210, y⟩ := He.ba y
  obtain ⟨q211, y⟩ := He.ba y
  obtain ⟨q212, y⟩ := He.ba y
  obtain ⟨q213, y⟩ := He.ba y
  obtain ⟨q214, y⟩ := He.ba y
  obtain ⟨q215, y⟩ := He.ba y
  obtain ⟨q216, y⟩ := He.ba y
  obtain ⟨q217, y⟩ := He.ba y
  obtain ⟨q218, y⟩ := He.ba y
  obtain ⟨q219, y⟩ := He.ba y
  obtain ⟨q220, y⟩ := He.ba y
  obtain ⟨q221, y⟩ := He.ba y
  obtain ⟨q222, y⟩ := He.ba y
  obtain ⟨q223, y⟩ := He.ba y
  obtain ⟨q224, y⟩ := He.ba y
  obtain ⟨q225, y⟩ := He.ba y
  obtain ⟨q226, y⟩ := He.ba y
  obtain ⟨q227, y⟩ := He.ba y
  obtain ⟨q228, y⟩ := He.ba y
  obtain ⟨q229, y⟩ := He.ba y
  obtain ⟨q230, y⟩ := He.ba y
  obtain ⟨q231, y⟩ := He.ba y
  obtain ⟨q232, y⟩ := He.ba y
  obtain ⟨q233, y⟩ := He.ba y
  obtain ⟨q234, y⟩ := He.ba y
  obtain ⟨q235, y⟩ := He.ba y
  obtain ⟨q236, y⟩ := He.ba y
  obtain ⟨q237, y⟩ := He.ba y
  obtain ⟨q238, y⟩ := He.ba y
  have q239 := y
  clear y
  obtain ⟨y, z⟩ := He.ba z
  unfold chk8 at y
  obtain ⟨q240, y⟩ := He.ba y
  obtain ⟨q241, y⟩ := He.ba y
  obtain ⟨q242, y⟩ := He.ba y
  obtain ⟨q243, y⟩ := He.ba y
  obtain ⟨q244, y⟩ := He.ba y
  obtain ⟨q245, y⟩ := He.ba y
  obtain ⟨q246, y⟩ := He.ba y
  obtain ⟨q247, y⟩ := He.ba y
  obtain ⟨q248, y⟩ := He.ba y
  obtain ⟨q249, y⟩ := He.ba y
  obtain ⟨q250, y⟩ := He.ba y
  obtain ⟨q251, y⟩ := He.ba y
  obtain ⟨q252, y⟩ := He.ba y
  obtain ⟨q253, y⟩ := He.ba y
  obtain ⟨q254, y⟩ := He.ba y
  obtain ⟨q255, y⟩ := He.ba y
  obtain ⟨q256, y⟩ := He.ba y
  obtain ⟨q257, y⟩ := He.ba y
  obtain ⟨q258, y⟩ := He.ba y
  obtain ⟨q259, y⟩ := He.ba y
  obtain ⟨q260, y⟩ := He.ba y
  obtain ⟨q261, y⟩ := He.ba y
  obtain ⟨q262, y⟩ := He.ba y
  obtain ⟨q263, y⟩ := He.ba y
  obtain ⟨q264, y⟩ := He.ba y
  obtain ⟨q265, y⟩ := He.ba y
  obtain ⟨q266, y⟩ := He.ba y
  obtain ⟨q267, y⟩ := He.ba y
  obtain ⟨q268, y⟩ := He.ba y
  have q269 := y
  clear y
  have y := z
  unfold chk9 at y
  obtain ⟨q270, y⟩ := He.ba y
  obtain ⟨q271, y⟩ := He.ba y
  obtain ⟨q272, y⟩ := He.ba y
  obtain ⟨q273, y⟩ := He.ba y
  obtain ⟨q274, y⟩ := He.ba y
  obtain ⟨q275, y⟩ := He.ba y
  obtain ⟨q276, y⟩ := He.ba y
  obtain ⟨q277, y⟩ := He.ba y
  obtain ⟨q278, y⟩ := He.ba y
  obtain ⟨q279, y⟩ := He.ba y
  obtain ⟨q280, y⟩ := He.ba y
  obtain ⟨q281, y⟩ := He.ba y
  obtain ⟨q282, y⟩ := He.ba y
  obtain ⟨q283, y⟩ := He.ba y
  obtain ⟨q284, y⟩ := He.ba y
  obtain ⟨q285, y⟩ := He.ba y
  obtain ⟨q286, y⟩ := He.ba y
  obtain ⟨q287, y⟩ := He.ba y
  obtain ⟨q288, y⟩ := He.ba y
  obtain ⟨q289, y⟩ := He.ba y
  obtain ⟨q290, y⟩ := He.ba y
  have q291 := y
  clear y
  have z_len : PySem.W.nsIn K mainGlobals "len" = some none := He.eqO_ok q0
  have z_abs : PySem.W.nsIn K mainGlobals "abs" = some none := He.eqO_ok q1
  have z_max : PySem.W.nsIn K mainGlobals "max" = some none := He.eqO_ok q2
  have z_min : PySem.W.nsIn K mainGlobals "min" = some none := He.eqO_ok q3
  have z_range : PySem.W.nsIn K mainGlobals "range" = some none := He.eqO_ok q4
  have z_isinstance : PySem.W.nsIn K mainGlobals "isinstance" = some none := He.eqO_ok q5
  have z_int : PySem.W.nsIn K mainGlobals "int" = some none := He.eqO_ok q6
  have z_str : PySem.W.nsIn K mainGlobals "str" = some none := He.eqO_ok q7
  have z_tuple : PySem.W.nsIn K mainGlobals "tuple" = some none := He.eqO_ok q8
  have z_list : PySem.W.nsIn K mainGlobals "list" = some none := He.eqO_ok q9
  have z_set : PySem.W.nsIn K mainGlobals "set" = some none := He.eqO_ok q10
  have z_dict : PySem.W.nsIn K mainGlobals "dict" = some none := He.eqO_ok q11
  have z_all : PySem.W.nsIn K mainGlobals "all" = some none := He.eqO_ok q12
  have z_repr : PySem.W.nsIn K mainGlobals "repr" = some none := He.eqO_ok q13
  have z_enumerate : PySem.W.nsIn K mainGlobals "enumerate" = some none := He.eqO_ok q14
  have z_zip : PySem.W.nsIn K mainGlobals "zip" = some none := He.eqO_ok q15
  have a_MODULUS : PySem.W.nsIn K mainGlobals "MODULUS" = some (some (.int 4294967296 (Hd.tk (PySem.W.nsIn K mainGlobals "MODULUS")))) := He.eqO_ok q16
  have a_MAX_NAME : PySem.W.nsIn K mainGlobals "MAX_NAME" = some (some (.int 8 (Hd.tk (PySem.W.nsIn K mainGlobals "MAX_NAME")))) := He.eqO_ok q17
  have a_MAX_NET : PySem.W.nsIn K mainGlobals "MAX_NET" = some (some (.int 48 (Hd.tk (PySem.W.nsIn K mainGlobals "MAX_NET")))) := He.eqO_ok q18
  have a_MAX_PATH : PySem.W.nsIn K mainGlobals "MAX_PATH" = some (some (.int 24 (Hd.tk (PySem.W.nsIn K mainGlobals "MAX_PATH")))) := He.eqO_ok q19
  have a_DIGITS : PySem.W.nsIn K mainGlobals "DIGITS" = some (some (.str "0123456789" (Hd.tk (PySem.W.nsIn K mainGlobals "DIGITS")))) := He.eqO_ok q20
  have a_LETTERS : PySem.W.nsIn K mainGlobals "LETTERS" = some (some (.str "abcdefghijklmnopqrstuvwxyz" (Hd.tk (PySem.W.nsIn K mainGlobals "LETTERS")))) := He.eqO_ok q21
  have a_number_of : PySem.W.nsIn K mainGlobals "number_of" = some (some (.ref (He.ga K "number_of"))) := He.eqO_ok q22
  obtain ⟨_, _, _, _, _, _, _, _, _, l_number_of, c_number_of⟩ := Hd.fn0 (nm := "number_of") (qual := "number_of") (params := (defArgs s_number_of)) (body := (defBody s_number_of)) (scope := (defScope s_number_of)) (c.de 0 rfl) q23
  have k_number_of : PySem.W.keepIn K (.ref (He.ga K "number_of")) = true := q24
  have a_is_primitive_text : PySem.W.nsIn K mainGlobals "is_primitive_text" = some (some (.ref (He.ga K "is_primitive_text"))) := He.eqO_ok q25
  obtain ⟨_, _, _, _, _, _, _, _, _, l_is_primitive_text, c_is_primitive_text⟩ := Hd.fn0 (nm := "is_primitive_text") (qual := "is_primitive_text") (params := (defArgs s_is_primitive_text)) (body := (defBody s_is_primitive_text)) (scope := (defScope s_is_primitive_text)) (c.de 1 rfl) q26
  have k_is_primitive_text : PySem.W.keepIn K (.ref (He.ga K "is_primitive_text")) = true := q27
  have a_is_name : PySem.W.nsIn K mainGlobals "is_name" = some (some (.ref (He.ga K "is_name"))) := He.eqO_ok q28
  obtain ⟨_, _, _, _, _, _, _, _, _, l_is_name, c_is_name⟩ := Hd.fn0 (nm := "is_name") (qual := "is_name") (params := (defArgs s_is_name)) (body := (defBody s_is_name)) (scope := (defScope s_is_name)) (c.de 2 rfl) q29
  have k_is_name : PySem.W.keepIn K (.ref (He.ga K "is_name")) = true := q30
  have a_are_ports : PySem.W.nsIn K mainGlobals "are_ports" = some (some (.ref (He.ga K "are_ports"))) := He.eqO_ok q31
  obtain ⟨_, _, _, _, _, _, _, _, _, l_are_ports, c_are_ports⟩ := Hd.fn0 (nm := "are_ports") (qual := "are_ports") (params := (defArgs s_are_ports)) (body := (defBody s_are_ports)) (scope := (defScope s_are_ports)) (c.de 3 rfl) q32
  have k_are_ports : PySem.W.keepIn K (.ref (He.ga K "are_ports")) = true := q33
  have a_is_path : PySem.W.nsIn K mainGlobals "is_path" = some (some (.ref (He.ga K "is_path"))) := He.eqO_ok q34
  obtain ⟨_, _, _, _, _, _, _, _, _, l_is_path, c_is_path⟩ := Hd.fn0 (nm := "is_path") (qual := "is_path") (params := (defArgs s_is_path)) (body := (defBody s_is_path)) (scope := (defScope s_is_path)) (c.de 4 rfl) q35
  have k_is_path : PySem.W.keepIn K (.ref (He.ga K "is_path")) = true := q36
  have a_are_parts : PySem.W.nsIn K mainGlobals "are_parts" = some (some (.ref (He.ga K "are_parts"))) := He.eqO_ok q37
  obtain ⟨_, _, _, _, _, _, _, _, _, l_are_parts, c_are_parts⟩ := Hd.fn0 (nm := "are_parts") (qual := "are_parts") (params := (defArgs s_are_parts)) (body := (defBody s_are_parts)) (scope := (defScope s_are_parts)) (c.de 5 rfl) q38
  have k_are_parts : PySem.W.keepIn K (.ref (He.ga K "are_parts")) = true := q39
  have a_ports_of : PySem.W.nsIn K mainGlobals "ports_of" = some (some (.ref (He.ga K "ports_of"))) := He.eqO_ok q40
  obtain ⟨_, _, _, _, _, _, _, _, _, l_ports_of, c_ports_of⟩ := Hd.fn0 (nm := "ports_of") (qual := "ports_of") (params := (defArgs s_ports_of)) (body := (defBody s_ports_of)) (scope := (defScope s_ports_of)) (c.de 6 rfl) q41
  have k_ports_of : PySem.W.keepIn K (.ref (He.ga K "ports_of")) = true := q42
  have a_targets_of : PySem.W.nsIn K mainGlobals "targets_of" = some (some (.ref (He.ga K "targets_of"))) := He.eqO_ok q43
  obtain ⟨_, _, _, _, _, _, _, _, _, l_targets_of, c_targets_of⟩ := Hd.fn0 (nm := "targets_of") (qual := "targets_of") (params := (defArgs s_targets_of)) (body := (defBody s_targets_of)) (scope := (defScope s_targets_of)) (c.de 7 rfl) q44
  have k_targets_of : PySem.W.keepIn K (.ref (He.ga K "targets_of")) = true := q45
  have a_sources_of : PySem.W.nsIn K mainGlobals "sources_of" = some (some (.ref (He.ga K "sources_of"))) := He.eqO_ok q46
  obtain ⟨_, _, _, _, _, _, _, _, _, l_sources_of, c_sources_of⟩ := Hd.fn0 (nm := "sources_of") (qual := "sources_of") (params := (defArgs s_sources_of)) (body := (defBody s_sources_of)) (scope := (defScope s_sources_of)) (c.de 8 rfl) q47
  have k_sources_of : PySem.W.keepIn K (.ref (He.ga K "sources_of")) = true := q48
  have a_are_wires : PySem.W.nsIn K mainGlobals "are_wires" = some (some (.ref (He.ga K "are_wires"))) := He.eqO_ok q49
  obtain ⟨_, _, _, _, _, _, _, _, _, l_are_wires, c_are_wires⟩ := Hd.fn0 (nm := "are_wires") (qual := "are_wires") (params := (defArgs s_are_wires)) (body := (defBody s_are_wires)) (scope := (defScope s_are_wires)) (c.de 9 rfl) q50
  have k_are_wires : PySem.W.keepIn K (.ref (He.ga K "are_wires")) = true := q51
  have a_are_good_for_net : PySem.W.nsIn K mainGlobals "are_good_for_net" = some (some (.ref (He.ga K "are_good_for_net"))) := He.eqO_ok q52
  obtain ⟨_, _, _, _, _, _, _, _, _, l_are_good_for_net, c_are_good_for_net⟩ := Hd.fn0 (nm := "are_good_for_net") (qual := "are_good_for_net") (params := (defArgs s_are_good_for_net)) (body := (defBody s_are_good_for_net)) (scope := (defScope s_are_good_for_net)) (c.de 10 rfl) q53
  have k_are_good_for_net : PySem.W.keepIn K (.ref (He.ga K "are_good_for_net")) = true := q54
  have a_has_word : PySem.W.nsIn K mainGlobals "has_word" = some (some (.ref (He.ga K "has_word"))) := He.eqO_ok q55
  obtain ⟨_, _, _, _, _, _, _, _, _, l_has_word, c_has_word⟩ := Hd.fn0 (nm := "has_word") (qual := "has_word") (params := (defArgs s_has_word)) (body := (defBody s_has_word)) (scope := (defScope s_has_word)) (c.de 11 rfl) q56
  have k_has_word : PySem.W.keepIn K (.ref (He.ga K "has_word")) = true := q57
  have a_check_rings : PySem.W.nsIn K mainGlobals "check_rings" = some (some (.ref (He.ga K "check_rings"))) := He.eqO_ok q58
  obtain ⟨_, _, _, _, _, _, _, _, _, l_check_rings, c_check_rings⟩ := Hd.fn0 (nm := "check_rings") (qual := "check_rings") (params := (defArgs s_check_rings)) (body := (defBody s_check_rings)) (scope := (defScope s_check_rings)) (c.de 12 rfl) q59
  have k_check_rings : PySem.W.keepIn K (.ref (He.ga K "check_rings")) = true := q60
  have a_line_targets : PySem.W.nsIn K mainGlobals "line_targets" = some (some (.ref (He.ga K "line_targets"))) := He.eqO_ok q61
  obtain ⟨_, _, _, _, _, _, _, _, _, l_line_targets, c_line_targets⟩ := Hd.fn0 (nm := "line_targets") (qual := "line_targets") (params := (defArgs s_line_targets)) (body := (defBody s_line_targets)) (scope := (defScope s_line_targets)) (c.de 13 rfl) q62
  have k_line_targets : PySem.W.keepIn K (.ref (He.ga K "line_targets")) = true := q63
  have a_line_at : PySem.W.nsIn K mainGlobals "line_at" = some (some (.ref (He.ga K "line_at"))) := He.eqO_ok q64
  obtain ⟨_, _, _, _, _, _, _, _, _, l_line_at, c_line_at⟩ := Hd.fn0 (nm := "line_at") (qual := "line_at") (params := (defArgs s_line_at)) (body := (defBody s_line_at)) (scope := (defScope s_line_at)) (c.de 14 rfl) q65
  have k_line_at : PySem.W.keepIn K (.ref (He.ga K "line_at")) = true := q66
  have a_line_of : PySem.W.nsIn K mainGlobals "line_of" = some (some (.ref (He.ga K "line_of"))) := He.eqO_ok q67
  obtain ⟨_, _, _, _, _, _, _, _, _, l_line_of, c_line_of⟩ := Hd.fn0 (nm := "line_of") (qual := "line_of") (params := (defArgs s_line_of)) (body := (defBody s_line_of)) (scope := (defScope s_line_of)) (c.de 15 rfl) q68
  have k_line_of : PySem.W.keepIn K (.ref (He.ga K "line_of")) = true := q69
  have a_law_feed : PySem.W.nsIn K mainGlobals "_law_feed" = some (some (.ref (He.ga K "_law_feed"))) := He.eqO_ok q70
  obtain ⟨_, _, _, _, _, _, _, _, _, l_law_feed, c_law_feed⟩ := Hd.fn0 (nm := "_law_feed") (qual := "_law_feed") (params := (defArgs s_law_feed)) (body := (defBody s_law_feed)) (scope := (defScope s_law_feed)) (c.de 16 rfl) q71
  have k_law_feed : PySem.W.keepIn K (.ref (He.ga K "_law_feed")) = true := q72
  have a_law_take : PySem.W.nsIn K mainGlobals "_law_take" = some (some (.ref (He.ga K "_law_take"))) := He.eqO_ok q73
  obtain ⟨_, _, _, _, _, _, _, _, _, l_law_take, c_law_take⟩ := Hd.fn0 (nm := "_law_take") (qual := "_law_take") (params := (defArgs s_law_take)) (body := (defBody s_law_take)) (scope := (defScope s_law_take)) (c.de 17 rfl) q74
  have k_law_take : PySem.W.keepIn K (.ref (He.ga K "_law_take")) = true := q75
  have a_law_pick : PySem.W.nsIn K mainGlobals "_law_pick" = some (some (.ref (He.ga K "_law_pick"))) := He.eqO_ok q76
  obtain ⟨_, _, _, _, _, _, _, _, _, l_law_pick, c_law_pick⟩ := Hd.fn0 (nm := "_law_pick") (qual := "_law_pick") (params := (defArgs s_law_pick)) (body := (defBody s_law_pick)) (scope := (defScope s_law_pick)) (c.de 18 rfl) q77
  have k_law_pick : PySem.W.keepIn K (.ref (He.ga K "_law_pick")) = true := q78
  have a_law_ports : PySem.W.nsIn K mainGlobals "_law_ports" = some (some (.ref (He.ga K "_law_ports"))) := He.eqO_ok q79
  obtain ⟨_, _, _, _, _, _, _, _, _, l_law_ports, c_law_ports⟩ := Hd.fn0 (nm := "_law_ports") (qual := "_law_ports") (params := (defArgs s_law_ports)) (body := (defBody s_law_ports)) (scope := (defScope s_law_ports)) (c.de 19 rfl) q80
  have k_law_ports : PySem.W.keepIn K (.ref (He.ga K "_law_ports")) = true := q81
  have a_law_number : PySem.W.nsIn K mainGlobals "_law_number" = some (some (.ref (He.ga K "_law_number"))) := He.eqO_ok q82
  obtain ⟨_, _, _, _, _, _, _, _, _, l_law_number, c_law_number⟩ := Hd.fn0 (nm := "_law_number") (qual := "_law_number") (params := (defArgs s_law_number)) (body := (defBody s_law_number)) (scope := (defScope s_law_number)) (c.de 20 rfl) q83
  have k_law_number : PySem.W.keepIn K (.ref (He.ga K "_law_number")) = true := q84
  have a_law_paths : PySem.W.nsIn K mainGlobals "_law_paths" = some (some (.ref (He.ga K "_law_paths"))) := He.eqO_ok q85
  obtain ⟨_, _, _, _, _, _, _, _, _, l_law_paths, c_law_paths⟩ := Hd.fn0 (nm := "_law_paths") (qual := "_law_paths") (params := (defArgs s_law_paths)) (body := (defBody s_law_paths)) (scope := (defScope s_law_paths)) (c.de 21 rfl) q86
  have k_law_paths : PySem.W.keepIn K (.ref (He.ga K "_law_paths")) = true := q87
  have a_law_sources : PySem.W.nsIn K mainGlobals "_law_sources" = some (some (.ref (He.ga K "_law_sources"))) := He.eqO_ok q88
  obtain ⟨_, _, _, _, _, _, _, _, _, l_law_sources, c_law_sources⟩ := Hd.fn0 (nm := "_law_sources") (qual := "_law_sources") (params := (defArgs s_law_sources)) (body := (defBody s_law_sources)) (scope := (defScope s_law_sources)) (c.de 22 rfl) q89
  have k_law_sources : PySem.W.keepIn K (.ref (He.ga K "_law_sources")) = true := q90
  have a_law_turned : PySem.W.nsIn K mainGlobals "_law_turned" = some (some (.ref (He.ga K "_law_turned"))) := He.eqO_ok q91
  obtain ⟨_, _, _, _, _, _, _, _, _, l_law_turned, c_law_turned⟩ := Hd.fn0 (nm := "_law_turned") (qual := "_law_turned") (params := (defArgs s_law_turned)) (body := (defBody s_law_turned)) (scope := (defScope s_law_turned)) (c.de 23 rfl) q92
  have k_law_turned : PySem.W.keepIn K (.ref (He.ga K "_law_turned")) = true := q93
  have a_law_texts : PySem.W.nsIn K mainGlobals "_law_texts" = some (some (.ref (He.ga K "_law_texts"))) := He.eqO_ok q94
  obtain ⟨_, _, _, _, _, _, _, _, _, l_law_texts, c_law_texts⟩ := Hd.fn0 (nm := "_law_texts") (qual := "_law_texts") (params := (defArgs s_law_texts)) (body := (defBody s_law_texts)) (scope := (defScope s_law_texts)) (c.de 24 rfl) q95
  have k_law_texts : PySem.W.keepIn K (.ref (He.ga K "_law_texts")) = true := q96
  have a_law_net : PySem.W.nsIn K mainGlobals "_law_net" = some (some (.ref (He.ga K "_law_net"))) := He.eqO_ok q97
  obtain ⟨_, _, _, _, _, _, _, _, _, l_law_net, c_law_net⟩ := Hd.fn0 (nm := "_law_net") (qual := "_law_net") (params := (defArgs s_law_net)) (body := (defBody s_law_net)) (scope := (defScope s_law_net)) (c.de 25 rfl) q98
  have k_law_net : PySem.W.keepIn K (.ref (He.ga K "_law_net")) = true := q99
  have a_law_targets : PySem.W.nsIn K mainGlobals "_law_targets" = some (some (.ref (He.ga K "_law_targets"))) := He.eqO_ok q100
  obtain ⟨_, _, _, _, _, _, _, _, _, l_law_targets, c_law_targets⟩ := Hd.fn0 (nm := "_law_targets") (qual := "_law_targets") (params := (defArgs s_law_targets)) (body := (defBody s_law_targets)) (scope := (defScope s_law_targets)) (c.de 26 rfl) q101
  have k_law_targets : PySem.W.keepIn K (.ref (He.ga K "_law_targets")) = true := q102
  have a_law_laid : PySem.W.nsIn K mainGlobals "_law_laid" = some (some (.ref (He.ga K "_law_laid"))) := He.eqO_ok q103
  obtain ⟨_, _, _, _, _, _, _, _, _, l_law_laid, c_law_laid⟩ := Hd.fn0 (nm := "_law_laid") (qual := "_law_laid") (params := (defArgs s_law_laid)) (body := (defBody s_law_laid)) (scope := (defScope s_law_laid)) (c.de 27 rfl) q104
  have k_law_laid : PySem.W.keepIn K (.ref (He.ga K "_law_laid")) = true := q105
  have a_law_first : PySem.W.nsIn K mainGlobals "_law_first" = some (some (.ref (He.ga K "_law_first"))) := He.eqO_ok q106
  obtain ⟨_, _, _, _, _, _, _, _, _, l_law_first, c_law_first⟩ := Hd.fn0 (nm := "_law_first") (qual := "_law_first") (params := (defArgs s_law_first)) (body := (defBody s_law_first)) (scope := (defScope s_law_first)) (c.de 28 rfl) q107
  have k_law_first : PySem.W.keepIn K (.ref (He.ga K "_law_first")) = true := q108
  have a_law_made : PySem.W.nsIn K mainGlobals "_law_made" = some (some (.ref (He.ga K "_law_made"))) := He.eqO_ok q109
  obtain ⟨_, _, _, _, _, _, _, _, _, l_law_made, c_law_made⟩ := Hd.fn0 (nm := "_law_made") (qual := "_law_made") (params := (defArgs s_law_made)) (body := (defBody s_law_made)) (scope := (defScope s_law_made)) (c.de 29 rfl) q110
  have k_law_made : PySem.W.keepIn K (.ref (He.ga K "_law_made")) = true := q111
  have a_law_lined : PySem.W.nsIn K mainGlobals "_law_lined" = some (some (.ref (He.ga K "_law_lined"))) := He.eqO_ok q112
  obtain ⟨_, _, _, _, _, _, _, _, _, l_law_lined, c_law_lined⟩ := Hd.fn0 (nm := "_law_lined") (qual := "_law_lined") (params := (defArgs s_law_lined)) (body := (defBody s_law_lined)) (scope := (defScope s_law_lined)) (c.de 30 rfl) q113
  have k_law_lined : PySem.W.keepIn K (.ref (He.ga K "_law_lined")) = true := q114
  have a_law_has_ring : PySem.W.nsIn K mainGlobals "_law_has_ring" = some (some (.ref (He.ga K "_law_has_ring"))) := He.eqO_ok q115
  obtain ⟨_, _, _, _, _, _, _, _, _, l_law_has_ring, c_law_has_ring⟩ := Hd.fn0 (nm := "_law_has_ring") (qual := "_law_has_ring") (params := (defArgs s_law_has_ring)) (body := (defBody s_law_has_ring)) (scope := (defScope s_law_has_ring)) (c.de 31 rfl) q116
  have k_law_has_ring : PySem.W.keepIn K (.ref (He.ga K "_law_has_ring")) = true := q117
  have a_law_line : PySem.W.nsIn K mainGlobals "_law_line" = some (some (.ref (He.ga K "_law_line"))) := He.eqO_ok q118
  obtain ⟨_, _, _, _, _, _, _, _, _, l_law_line, c_law_line⟩ := Hd.fn0 (nm := "_law_line") (qual := "_law_line") (params := (defArgs s_law_line)) (body := (defBody s_law_line)) (scope := (defScope s_law_line)) (c.de 32 rfl) q119
  have k_law_line : PySem.W.keepIn K (.ref (He.ga K "_law_line")) = true := q120
  have a_law_delayed : PySem.W.nsIn K mainGlobals "_law_delayed" = some (some (.ref (He.ga K "_law_delayed"))) := He.eqO_ok q121
  obtain ⟨_, _, _, _, _, _, _, _, _, l_law_delayed, c_law_delayed⟩ := Hd.fn0 (nm := "_law_delayed") (qual := "_law_delayed") (params := (defArgs s_law_delayed)) (body := (defBody s_law_delayed)) (scope := (defScope s_law_delayed)) (c.de 33 rfl) q122
  have k_law_delayed : PySem.W.keepIn K (.ref (He.ga K "_law_delayed")) = true := q123
  have a_law_asked : PySem.W.nsIn K mainGlobals "_law_asked" = some (some (.ref (He.ga K "_law_asked"))) := He.eqO_ok q124
  obtain ⟨_, _, _, _, _, _, _, _, _, l_law_asked, c_law_asked⟩ := Hd.fn0 (nm := "_law_asked") (qual := "_law_asked") (params := (defArgs s_law_asked)) (body := (defBody s_law_asked)) (scope := (defScope s_law_asked)) (c.de 34 rfl) q125
  have k_law_asked : PySem.W.keepIn K (.ref (He.ga K "_law_asked")) = true := q126
  have a_law_odd : PySem.W.nsIn K mainGlobals "_law_odd" = some (some (.ref (He.ga K "_law_odd"))) := He.eqO_ok q127
  obtain ⟨_, _, _, _, _, _, _, _, _, l_law_odd, c_law_odd⟩ := Hd.fn0 (nm := "_law_odd") (qual := "_law_odd") (params := (defArgs s_law_odd)) (body := (defBody s_law_odd)) (scope := (defScope s_law_odd)) (c.de 35 rfl) q128
  have k_law_odd : PySem.W.keepIn K (.ref (He.ga K "_law_odd")) = true := q129
  have a_law : PySem.W.nsIn K mainGlobals "law" = some (some (.ref (He.ga K "law"))) := He.eqO_ok q130
  obtain ⟨_, _, _, _, _, _, _, _, _, l_law, c_law⟩ := Hd.fn0 (nm := "law") (qual := "law") (params := (defArgs s_law)) (body := (defBody s_law)) (scope := (defScope s_law)) (c.de 36 rfl) q131
  have k_law : PySem.W.keepIn K (.ref (He.ga K "law")) = true := q132
  have a_PORTS : PySem.W.nsIn K mainGlobals "PORTS" = some (some (.ref (He.ga K "PORTS"))) := He.eqO_ok q133
  obtain ⟨_, _, l_PORTS, h_PORTS, w_PORTS⟩ := c.tab 0 rfl
  have ph0 : PySem.W.nsIn K (He.ga K "PORTS") "const" = some (some (.ref (Hd.rf (PySem.W.nsIn K (He.ga K "PORTS") "const")))) := He.eqO_ok q134
  obtain ⟨_, _, _, pl0⟩ := Hd.tup_ok (vs := [.ref (Hd.sqA K (Hd.rf (PySem.W.nsIn K (He.ga K "PORTS") "const")) 0), .ref (Hd.sqA K (Hd.rf (PySem.W.nsIn K (He.ga K "PORTS") "const")) 1)]) q135
  obtain ⟨_, _, _, pu0⟩ := Hd.tup_ok (vs := []) q136
  obtain ⟨_, _, _, pv0⟩ := Hd.tup_ok (vs := [.str "out" (Hd.sqK K (Hd.sqA K (Hd.rf (PySem.W.nsIn K (He.ga K "PORTS") "const")) 1) 0)]) q137
  have ph1 : PySem.W.nsIn K (He.ga K "PORTS") "add" = some (some (.ref (Hd.rf (PySem.W.nsIn K (He.ga K "PORTS") "add")))) := He.eqO_ok q138
  obtain ⟨_, _, _, pl1⟩ := Hd.tup_ok (vs := [.ref (Hd.sqA K (Hd.rf (PySem.W.nsIn K (He.ga K "PORTS") "add")) 0), .ref (Hd.sqA K (Hd.rf (PySem.W.nsIn K (He.ga K "PORTS") "add")) 1)]) q139
  obtain ⟨_, _, _, pu1⟩ := Hd.tup_ok (vs := [.str "a" (Hd.sqK K (Hd.sqA K (Hd.rf (PySem.W.nsIn K (He.ga K "PORTS") "add")) 0) 0), .str "b" (Hd.sqK K (Hd.sqA K (Hd.rf (PySem.W.nsIn K (He.ga K "PORTS") "add")) 0) 1)]) q140
  obtain ⟨_, _, _, pv1⟩ := Hd.tup_ok (vs := [.str "out" (Hd.sqK K (Hd.sqA K (Hd.rf (PySem.W.nsIn K (He.ga K "PORTS") "add")) 1) 0)]) q141
  have ph2 : PySem.W.nsIn K (He.ga K "PORTS") "sub" = some (some (.ref (Hd.rf (PySem.W.nsIn K (He.ga K "PORTS") "sub")))) := He.eqO_ok q142
  obtain ⟨_, _, _, pl2⟩ := Hd.tup_ok (vs := [.ref (Hd.sqA K (Hd.rf (PySem.W.nsIn K (He.ga K "PORTS") "sub")) 0), .ref (Hd.sqA K (Hd.rf (PySem.W.nsIn K (He.ga K "PORTS") "sub")) 1)]) q143
  obtain ⟨_, _, _, pu2⟩ := Hd.tup_ok (vs := [.str "a" (Hd.sqK K (Hd.sqA K (Hd.rf (PySem.W.nsIn K (He.ga K "PORTS") "sub")) 0) 0), .str "b" (Hd.sqK K (Hd.sqA K (Hd.rf (PySem.W.nsIn K (He.ga K "PORTS") "sub")) 0) 1)]) q144
  obtain ⟨_, _, _, pv2⟩ := Hd.tup_ok (vs := [.str "out" (Hd.sqK K (Hd.sqA K (Hd.rf (PySem.W.nsIn K (He.ga K "PORTS") "sub")) 1) 0)]) q145
  have ph3 : PySem.W.nsIn K (He.ga K "PORTS") "mul" = some (some (.ref (Hd.rf (PySem.W.nsIn K (He.ga K "PORTS") "mul")))) := He.eqO_ok q146
  obtain ⟨_, _, _, pl3⟩ := Hd.tup_ok (vs := [.ref (Hd.sqA K (Hd.rf (PySem.W.nsIn K (He.ga K "PORTS") "mul")) 0), .ref (Hd.sqA K (Hd.rf (PySem.W.nsIn K (He.ga K "PORTS") "mul")) 1)]) q147
  obtain ⟨_, _, _, pu3⟩ := Hd.tup_ok (vs := [.str "a" (Hd.sqK K (Hd.sqA K (Hd.rf (PySem.W.nsIn K (He.ga K "PORTS") "mul")) 0) 0), .str "b" (Hd.sqK K (Hd.sqA K (Hd.rf (PySem.W.nsIn K (He.ga K "PORTS") "mul")) 0) 1)]) q148
  obtain ⟨_, _, _, pv3⟩ := Hd.tup_ok (vs := [.str "out" (Hd.sqK K (Hd.sqA K (Hd.rf (PySem.W.nsIn K (He.ga K "PORTS") "mul")) 1) 0)]) q149
  have ph4 : PySem.W.nsIn K (He.ga K "PORTS") "less" = some (some (.ref (Hd.rf (PySem.W.nsIn K (He.ga K "PORTS") "less")))) := He.eqO_ok q150
  obtain ⟨_, _, _, pl4⟩ := Hd.tup_ok (vs := [.ref (Hd.sqA K (Hd.rf (PySem.W.nsIn K (He.ga K "PORTS") "less")) 0), .ref (Hd.sqA K (Hd.rf (PySem.W.nsIn K (He.ga K "PORTS") "less")) 1)]) q151
  obtain ⟨_, _, _, pu4⟩ := Hd.tup_ok (vs := [.str "a" (Hd.sqK K (Hd.sqA K (Hd.rf (PySem.W.nsIn K (He.ga K "PORTS") "less")) 0) 0), .str "b" (Hd.sqK K (Hd.sqA K (Hd.rf (PySem.W.nsIn K (He.ga K "PORTS") "less")) 0) 1)]) q152
  obtain ⟨_, _, _, pv4⟩ := Hd.tup_ok (vs := [.str "out" (Hd.sqK K (Hd.sqA K (Hd.rf (PySem.W.nsIn K (He.ga K "PORTS") "less")) 1) 0)]) q153
  have ph5 : PySem.W.nsIn K (He.ga K "PORTS") "equal" = some (some (.ref (Hd.rf (PySem.W.nsIn K (He.ga K "PORTS") "equal")))) := He.eqO_ok q154
  obtain ⟨_, _, _, pl5⟩ := Hd.tup_ok (vs := [.ref (Hd.sqA K (Hd.rf (PySem.W.nsIn K (He.ga K "PORTS") "equal")) 0), .ref (Hd.sqA K (Hd.rf (PySem.W.nsIn K (He.ga K "PORTS") "equal")) 1)]) q155
  obtain ⟨_, _, _, pu5⟩ := Hd.tup_ok (vs := [.str "a" (Hd.sqK K (Hd.sqA K (Hd.rf (PySem.W.nsIn K (He.ga K "PORTS") "equal")) 0) 0), .str "b" (Hd.sqK K (Hd.sqA K (Hd.rf (PySem.W.nsIn K (He.ga K "PORTS") "equal")) 0) 1)]) q156
  obtain ⟨_, _, _, pv5⟩ := Hd.tup_ok (vs := [.str "out" (Hd.sqK K (Hd.sqA K (Hd.rf (PySem.W.nsIn K (He.ga K "PORTS") "equal")) 1) 0)]) q157
  have ph6 : PySem.W.nsIn K (He.ga K "PORTS") "pick" = some (some (.ref (Hd.rf (PySem.W.nsIn K (He.ga K "PORTS") "pick")))) := He.eqO_ok q158
  obtain ⟨_, _, _, pl6⟩ := Hd.tup_ok (vs := [.ref (Hd.sqA K (Hd.rf (PySem.W.nsIn K (He.ga K "PORTS") "pick")) 0), .ref (Hd.sqA K (Hd.rf (PySem.W.nsIn K (He.ga K "PORTS") "pick")) 1)]) q159
  obtain ⟨_, _, _, pu6⟩ := Hd.tup_ok (vs := [.str "c" (Hd.sqK K (Hd.sqA K (Hd.rf (PySem.W.nsIn K (He.ga K "PORTS") "pick")) 0) 0), .str "a" (Hd.sqK K (Hd.sqA K (Hd.rf (PySem.W.nsIn K (He.ga K "PORTS") "pick")) 0) 1), .str "b" (Hd.sqK K (Hd.sqA K (Hd.rf (PySem.W.nsIn K (He.ga K "PORTS") "pick")) 0) 2)]) q160
  obtain ⟨_, _, _, pv6⟩ := Hd.tup_ok (vs := [.str "out" (Hd.sqK K (Hd.sqA K (Hd.rf (PySem.W.nsIn K (He.ga K "PORTS") "pick")) 1) 0)]) q161
  have ph7 : PySem.W.nsIn K (He.ga K "PORTS") "divide" = some (some (.ref (Hd.rf (PySem.W.nsIn K (He.ga K "PORTS") "divide")))) := He.eqO_ok q162
  obtain ⟨_, _, _, pl7⟩ := Hd.tup_ok (vs := [.ref (Hd.sqA K (Hd.rf (PySem.W.nsIn K (He.ga K "PORTS") "divide")) 0), .ref (Hd.sqA K (Hd.rf (PySem.W.nsIn K (He.ga K "PORTS") "divide")) 1)]) q163
  obtain ⟨_, _, _, pu7⟩ := Hd.tup_ok (vs := [.str "a" (Hd.sqK K (Hd.sqA K (Hd.rf (PySem.W.nsIn K (He.ga K "PORTS") "divide")) 0) 0), .str "b" (Hd.sqK K (Hd.sqA K (Hd.rf (PySem.W.nsIn K (He.ga K "PORTS") "divide")) 0) 1)]) q164
  obtain ⟨_, _, _, pv7⟩ := Hd.tup_ok (vs := [.str "quotient" (Hd.sqK K (Hd.sqA K (Hd.rf (PySem.W.nsIn K (He.ga K "PORTS") "divide")) 1) 0), .str "rest" (Hd.sqK K (Hd.sqA K (Hd.rf (PySem.W.nsIn K (He.ga K "PORTS") "divide")) 1) 1)]) q165
  have ph8 : PySem.W.nsIn K (He.ga K "PORTS") "delay" = some (some (.ref (Hd.rf (PySem.W.nsIn K (He.ga K "PORTS") "delay")))) := He.eqO_ok q166
  obtain ⟨_, _, _, pl8⟩ := Hd.tup_ok (vs := [.ref (Hd.sqA K (Hd.rf (PySem.W.nsIn K (He.ga K "PORTS") "delay")) 0), .ref (Hd.sqA K (Hd.rf (PySem.W.nsIn K (He.ga K "PORTS") "delay")) 1)]) q167
  obtain ⟨_, _, _, pu8⟩ := Hd.tup_ok (vs := [.str "in" (Hd.sqK K (Hd.sqA K (Hd.rf (PySem.W.nsIn K (He.ga K "PORTS") "delay")) 0) 0)]) q168
  obtain ⟨_, _, _, pv8⟩ := Hd.tup_ok (vs := [.str "out" (Hd.sqK K (Hd.sqA K (Hd.rf (PySem.W.nsIn K (He.ga K "PORTS") "delay")) 1) 0)]) q169
  have ks_PORTS := Hd.keys_ok l_PORTS q170
  have a_RESERVED : PySem.W.nsIn K mainGlobals "RESERVED" = some (some (.ref (He.ga K "RESERVED"))) := He.eqO_ok q171
  obtain ⟨_, _, _, l_RESERVED⟩ := Hd.tup_ok (vs := [.str "block" (Hd.sqK K (He.ga K "RESERVED") 0), .str "part" (Hd.sqK K (He.ga K "RESERVED") 1), .str "end" (Hd.sqK K (He.ga K "RESERVED") 2), .str "self" (Hd.sqK K (He.ga K "RESERVED") 3)]) q172
  have a_Block : PySem.W.nsIn K mainGlobals "Block" = some (some (.ref (He.ga K "Block"))) := He.eqO_ok q173
  have a_Primitive : PySem.W.nsIn K mainGlobals "Primitive" = some (some (.ref (He.ga K "Primitive"))) := He.eqO_ok q174
  have pg_Primitive : PySem.W.plainGet K (He.ga K "Primitive") Str.empty = true := q175
  have hd_Primitive : PySem.W.hasDictIn K (He.ga K "Primitive") = true := q176
  have po_Primitive : PySem.W.plainOver K (He.ga K "Primitive") = true := q177
  have sa_Primitive : PySem.W.findIn K (.ref (He.ga K "Primitive")) "__setattr__" = some (some (.builtin "object.__setattr__")) := He.eqO_ok q178
  have mk_Primitive : PySem.W.makesIn K (He.ga K "Primitive") = true := q179
  have kc_Primitive : PySem.W.keepIn K (.ref (He.ga K "Primitive")) = true := q180
  have no_Primitive_name : PySem.W.findIn K (.ref (He.ga K "Primitive")) "name" = some none := He.eqO_ok q181
  have no_Primitive_inputs : PySem.W.findIn K (.ref (He.ga K "Primitive")) "inputs" = some none := He.eqO_ok q182
  have no_Primitive_outputs : PySem.W.findIn K (.ref (He.ga K "Primitive")) "outputs" = some none := He.eqO_ok q183
  have no_Primitive_constant : PySem.W.findIn K (.ref (He.ga K "Primitive")) "constant" = some none := He.eqO_ok q184
  have no_Primitive_text : PySem.W.findIn K (.ref (He.ga K "Primitive")) "text" = some none := He.eqO_ok q185
  obtain ⟨_, kc1_Primitive_Block⟩ := Hd.so_ok q186
  have kc2_Primitive_Block : PySem.W.typeIn K (.ref (He.ga K "Block")) = some (.type "type") := of_decide_eq_true q187
  have kc3_Primitive_Block : PySem.W.subIn K (.ref (He.ga K "Primitive")) (.ref (He.ga K "Block")) = some true := of_decide_eq_true q188
  have a_Block_init : PySem.W.ks_superIn K (He.ga K "Primitive") (He.ga K "Primitive") "__init__" = some (some (.ref (He.ma K (He.ga K "Block") "__init__"))) := He.eqO_ok q189
  obtain ⟨_, _, _, _, _, _, _, _, _, l_Block_init, c_Block_init⟩ := Hd.fn0 (nm := "__init__") (qual := "Block.__init__") (params := (defArgs s_Block_init)) (body := (defBody s_Block_init)) (scope := (defScope s_Block_init)) (c.de 37 rfl) q190
  have k_Block_init : PySem.W.keepIn K (.ref (He.ma K (He.ga K "Block") "__init__")) = true := q191
  have t_Block_init : PySem.W.typeIn K (.ref (He.ma K (He.ga K "Block") "__init__")) = some (.type "function") := of_decide_eq_true q192
  have n_Block_init : PySem.W.fnIn K (He.ma K (He.ga K "Block") "__init__") = true := q193
  have a_Primitive_init : PySem.W.findIn K (.ref (He.ga K "Primitive")) "__init__" = some (some (.ref (He.ma K (He.ga K "Primitive") "__init__"))) := He.eqO_ok q194
  obtain ⟨_, _, _, _, _, _, _, _, l_Primitive_init, c_Primitive_init⟩ := Hd.fn1 (nm := "__init__") (qual := "Primitive.__init__") (params := (defArgs s_Primitive_init)) (body := (defBody s_Primitive_init)) (scope := (defScope s_Primitive_init)) (c.de 38 rfl) q195
  have k_Primitive_init : PySem.W.keepIn K (.ref (He.ma K (He.ga K "Primitive") "__init__")) = true := q196
  have i_Primitive_init : PySem.W.isFn K (.ref (He.ma K (He.ga K "Primitive") "__init__")) = true := q197
  obtain ⟨_, cC_Primitive⟩ := Hd.so_ok q198
  obtain ⟨_, _, _, _, _, _, lc_Primitive, hv_Primitive, hf_Primitive⟩ := Hd.fld_ok (file := (PySem.Challenge.rw_stepblocks_k82_lines_of_targets).prog.main.file) q199
  obtain ⟨_, _, _, lcc_Primitive⟩ := Hd.cell_ok q200
  have sub_Primitive : PySem.W.mroIn K (He.ga K "Primitive") (.ref (He.ga K "Primitive")) = some true := of_decide_eq_true q201
  have zS : PySem.W.nsIn K mainGlobals "super" = some none := He.eqO_ok q202
  have tp : PySem.W.nsIn K PySem.cStatics "thirdparty.any" = some none := He.eqO_ok q203
  have ht : ((PySem.Challenge.rw_stepblocks_k82_lines_of_targets).prog.main.scope.names.lookup ("super" : Str)).isSome = false := by rfl
  have q_Primitive_parse : PySem.W.findCls K (.ref (He.ga K "Primitive")) (.type "type") "parse" = some (.get (.builtin "classmethod.__get__") (.ref (Hd.clsP K (He.ga K "Primitive") "parse")) .none (.ref (He.ga K "Primitive"))) := Hd.cf_ok q204
  have a_Primitive_parse : PySem.W.recIn K (Hd.clsP K (He.ga K "Primitive") "parse") "classmethod" = some (.ref (Hd.rec1 K (Hd.clsP K (He.ga K "Primitive") "parse") "classmethod") :: (Hd.recR K (Hd.clsP K (He.ga K "Primitive") "parse") "classmethod")) := of_decide_eq_true q205
  obtain ⟨_, _, _, _, _, _, _, _, _, l_Primitive_parse, c_Primitive_parse⟩ := Hd.fn0 (nm := "parse") (qual := "Primitive.parse") (params := (defArgs s_Primitive_parse)) (body := (defBody s_Primitive_parse)) (scope := (defScope s_Primitive_parse)) (c.de 39 rfl) q206
  have k_Primitive_parse : PySem.W.keepIn K (.ref (Hd.rec1 K (Hd.clsP K (He.ga K "Primitive") "parse") "classmethod")) = true := q207
  have n_Primitive_parse : PySem.W.fnIn K (Hd.rec1 K (Hd.clsP K (He.ga K "Primitive") "parse") "classmethod") = true := q208
  have rd_Primitive : PySem.W.readsIn K (He.ga K "Primitive") (.type "type") = true := q209
  have rg_Primitive : PySem.W.specialIn K (.ref (He.ga K "Primitive")) "__getattribute__" = some (some (.builtin "type.__getattribute__")) := He.eqO_ok q210
  have a_Diagram : PySem.W.nsIn K mainGlobals "Diagram" = some (some (.ref (He.ga K "Diagram"))) := He.eqO_ok q211
  have pg_Diagram : PySem.W.plainGet K (He.ga K "Diagram") Str.empty = true := q212
  have hd_Diagram : PySem.W.hasDictIn K (He.ga K "Diagram") = true := q213
  have po_Diagram : PySem.W.plainOver K (He.ga K "Diagram") = true := q214
  have sa_Diagram : PySem.W.findIn K (.ref (He.ga K "Diagram")) "__setattr__" = some (some (.builtin "object.__setattr__")) := He.eqO_ok q215
  have mk_Diagram : PySem.W.makesIn K (He.ga K "Diagram") = true := q216
  have kc_Diagram : PySem.W.keepIn K (.ref (He.ga K "Diagram")) = true := q217
  have rd_Diagram : PySem.W.readsIn K (He.ga K "Diagram") (.type "type") = true := q218
  have rg_Diagram : PySem.W.specialIn K (.ref (He.ga K "Diagram")) "__getattribute__" = some (some (.builtin "type.__getattribute__")) := He.eqO_ok q219
  have cv_Diagram_MAX_PORTS : PySem.W.findCls K (.ref (He.ga K "Diagram")) (.type "type") "MAX_PORTS" = some (.val (.int 8 (Hd.tk (PySem.W.findIn K (.ref (He.ga K "Diagram")) "MAX_PORTS")))) := Hd.cf_ok q220
  have ci_Diagram_MAX_PORTS : PySem.W.findIn K (.ref (He.ga K "Diagram")) "MAX_PORTS" = some (some (.int 8 (Hd.tk (PySem.W.findIn K (.ref (He.ga K "Diagram")) "MAX_PORTS")))) := He.eqO_ok q221
  have cg_Diagram_MAX_PORTS : PySem.W.specialIn K (.int 8 (Hd.tk (PySem.W.findIn K (.ref (He.ga K "Diagram")) "MAX_PORTS"))) "__get__" = some none := He.eqO_ok q222
  have a_Net : PySem.W.nsIn K mainGlobals "Net" = some (some (.ref (He.ga K "Net"))) := He.eqO_ok q223
  have pg_Net : PySem.W.plainGet K (He.ga K "Net") Str.empty = true := q224
  have hd_Net : PySem.W.hasDictIn K (He.ga K "Net") = true := q225
  have po_Net : PySem.W.plainOver K (He.ga K "Net") = true := q226
  have sa_Net : PySem.W.findIn K (.ref (He.ga K "Net")) "__setattr__" = some (some (.builtin "object.__setattr__")) := He.eqO_ok q227
  have mk_Net : PySem.W.makesIn K (He.ga K "Net") = true := q228
  have kc_Net : PySem.W.keepIn K (.ref (He.ga K "Net")) = true := q229
  have no_Net_inputs : PySem.W.findIn K (.ref (He.ga K "Net")) "inputs" = some none := He.eqO_ok q230
  have no_Net_outputs : PySem.W.findIn K (.ref (He.ga K "Net")) "outputs" = some none := He.eqO_ok q231
  have no_Net_parts : PySem.W.findIn K (.ref (He.ga K "Net")) "parts" = some none := He.eqO_ok q232
  have no_Net_wires : PySem.W.findIn K (.ref (He.ga K "Net")) "wires" = some none := He.eqO_ok q233
  have no_Net_blocks : PySem.W.findIn K (.ref (He.ga K "Net")) "blocks" = some none := He.eqO_ok q234
  have no_Net_source_of : PySem.W.findIn K (.ref (He.ga K "Net")) "source_of" = some none := He.eqO_ok q235
  have no_Net_sequence : PySem.W.findIn K (.ref (He.ga K "Net")) "sequence" = some none := He.eqO_ok q236
  have a_Net_init : PySem.W.findIn K (.ref (He.ga K "Net")) "__init__" = some (some (.ref (He.ma K (He.ga K "Net") "__init__"))) := He.eqO_ok q237
  obtain ⟨_, _, _, _, _, _, _, _, _, l_Net_init, c_Net_init⟩ := Hd.fn0 (nm := "__init__") (qual := "Net.__init__") (params := (defArgs s_Net_init)) (body := (defBody s_Net_init)) (scope := (defScope s_Net_init)) (c.de 40 rfl) q238
  have k_Net_init : PySem.W.keepIn K (.ref (He.ma K (He.ga K "Net") "__init__")) = true := q239
  have i_Net_init : PySem.W.isFn K (.ref (He.ma K (He.ga K "Net") "__init__")) = true := q240
  have a_Net_lay : PySem.W.findIn K (.ref (He.ga K "Net")) "lay" = some (some (.ref (He.ma K (He.ga K "Net") "lay"))) := He.eqO_ok q241
  obtain ⟨_, _, _, _, _, _, _, _, _, l_Net_lay, c_Net_lay⟩ := Hd.fn0 (nm := "lay") (qual := "Net.lay") (params := (defArgs s_Net_lay)) (body := (defBody s_Net_lay)) (scope := (defScope s_Net_lay)) (c.de 41 rfl) q242
  have k_Net_lay : PySem.W.keepIn K (.ref (He.ma K (He.ga K "Net") "lay")) = true := q243
  have i_Net_lay : PySem.W.isFn K (.ref (He.ma K (He.ga K "Net") "lay")) = true := q244
  have a_Net_ordered : PySem.W.findIn K (.ref (He.ga K "Net")) "ordered" = some (some (.ref (He.ma K (He.ga K "Net") "ordered"))) := He.eqO_ok q245
  obtain ⟨_, _, _, _, _, _, _, _, _, l_Net_ordered, c_Net_ordered⟩ := Hd.fn0 (nm := "ordered") (qual := "Net.ordered") (params := (defArgs s_Net_ordered)) (body := (defBody s_Net_ordered)) (scope := (defScope s_Net_ordered)) (c.de 42 rfl) q246
  have k_Net_ordered : PySem.W.keepIn K (.ref (He.ma K (He.ga K "Net") "ordered")) = true := q247
  have i_Net_ordered : PySem.W.isFn K (.ref (He.ma K (He.ga K "Net") "ordered")) = true := q248
  have a_Net_is_fed : PySem.W.findIn K (.ref (He.ga K "Net")) "is_fed" = some (some (.ref (He.ma K (He.ga K "Net") "is_fed"))) := He.eqO_ok q249
  obtain ⟨_, _, _, _, _, _, _, _, _, l_Net_is_fed, c_Net_is_fed⟩ := Hd.fn0 (nm := "is_fed") (qual := "Net.is_fed") (params := (defArgs s_Net_is_fed)) (body := (defBody s_Net_is_fed)) (scope := (defScope s_Net_is_fed)) (c.de 43 rfl) q250
  have k_Net_is_fed : PySem.W.keepIn K (.ref (He.ma K (He.ga K "Net") "is_fed")) = true := q251
  have i_Net_is_fed : PySem.W.isFn K (.ref (He.ma K (He.ga K "Net") "is_fed")) = true := q252
  have a_Net_first_state : PySem.W.findIn K (.ref (He.ga K "Net")) "first_state" = some (some (.ref (He.ma K (He.ga K "Net") "first_state"))) := He.eqO_ok q253
  obtain ⟨_, _, _, _, _, _, _, _, _, l_Net_first_state, c_Net_first_state⟩ := Hd.fn0 (nm := "first_state") (qual := "Net.first_state") (params := (defArgs s_Net_first_state)) (body := (defBody s_Net_first_state)) (scope := (defScope s_Net_first_state)) (c.de 44 rfl) q254
  have k_Net_first_state : PySem.W.keepIn K (.ref (He.ma K (He.ga K "Net") "first_state")) = true := q255
  have i_Net_first_state : PySem.W.isFn K (.ref (He.ma K (He.ga K "Net") "first_state")) = true := q256
  have a_BlockError : PySem.W.nsIn K mainGlobals "BlockError" = some (some (.ref (He.ga K "BlockError"))) := He.eqO_ok q257
  have eb_BlockError : PySem.W.subIn K (.ref (He.ga K "BlockError")) (.type "BaseException") = some true := of_decide_eq_true q258
  have ed_BlockError : PySem.W.hasDictIn K (He.ga K "BlockError") = true := q259
  have et_BlockError : PySem.W.typeIn K (.ref (He.ga K "BlockError")) = some (.type "type") := of_decide_eq_true q260
  have a_UnknownPort : PySem.W.nsIn K mainGlobals "UnknownPort" = some (some (.ref (He.ga K "UnknownPort"))) := He.eqO_ok q261
  obtain ⟨_, _, _, _, _, _, _, _, _, _, _, _, _, _, xL_UnknownPort⟩ := Hd.exc_ok q262
  have sa_UnknownPort : PySem.W.findIn K (.ref (He.ga K "UnknownPort")) "__setattr__" = some (some (.builtin "object.__setattr__")) := He.eqO_ok q263
  have exC_UnknownPort : PySem.W.subIn K (.ref (He.ga K "UnknownPort")) (.type "BaseException") = some true := of_decide_eq_true q264
  have tyC_UnknownPort : PySem.W.typeIn K (.ref (He.ga K "UnknownPort")) = some (.type "type") := of_decide_eq_true q265
  have kC_UnknownPort : PySem.W.keepIn K (.ref (He.ga K "UnknownPort")) = true := q266
  have ga_UnknownPort : PySem.W.findIn K (.ref (He.ga K "UnknownPort")) "__getattribute__" = some (some (.builtin "BaseException.__getattribute__")) := He.eqO_ok q267
  have gg_UnknownPort : PySem.W.findIn K (.ref (He.ga K "UnknownPort")) "__getattr__" = some none := He.eqO_ok q268
  have hd_UnknownPort : PySem.W.hasDictIn K (He.ga K "UnknownPort") = true := q269
  have ic_UnknownPort : PySem.W.findIn K (.ref (He.ga K "UnknownPort")) "__class__" = some (some (.builtin "object.__class__")) := He.eqO_ok q270
  have io_UnknownPort : PySem.W.mroIn K (He.ga K "UnknownPort") (.type "object") = some true := of_decide_eq_true q271
  obtain ⟨_, cd_UnknownPort⟩ := Hd.so_ok q272
  have sv_UnknownPort : PySem.W.subIn K (.ref (He.ga K "UnknownPort")) (.type "ValueError") = some true := of_decide_eq_true q273
  have sb_UnknownPort : PySem.W.subIn K (.ref (He.ga K "UnknownPort")) (.ref (He.ga K "BlockError")) = some true := of_decide_eq_true q274
  have ocg : PySem.W.specialIn K (.builtin "object.__class__") "__get__" = some (some (.builtin "getset_descriptor.__get__")) := He.eqO_ok q275
  have oct : PySem.W.takesIn K (.builtin "object.__class__") = some true := of_decide_eq_true q276
  have a_UnknownPort_init : PySem.W.findIn K (.ref (He.ga K "UnknownPort")) "__init__" = some (some (.ref (He.ma K (He.ga K "UnknownPort") "__init__"))) := He.eqO_ok q277
  obtain ⟨_, _, _, _, _, _, _, _, _, l_UnknownPort_init, c_UnknownPort_init⟩ := Hd.fn0 (nm := "__init__") (qual := "UnknownPort.__init__") (params := (defArgs s_UnknownPort_init)) (body := (defBody s_UnknownPort_init)) (scope := (defScope s_UnknownPort_init)) (c.de 45 rfl) q278
  have k_UnknownPort_init : PySem.W.keepIn K (.ref (He.ma K (He.ga K "UnknownPort") "__init__")) = true := q279
  have t_UnknownPort_init : PySem.W.typeIn K (.ref (He.ma K (He.ga K "UnknownPort") "__init__")) = some (.type "function") := of_decide_eq_true q280
  have ss_UnknownPort : PySem.W.subIn K (.ref (He.ga K "UnknownPort")) (.ref (He.ga K "UnknownPort")) = some true := of_decide_eq_true q281
  obtain ⟨_, cb_UnknownPort⟩ := Hd.so_ok q282
  have no_UnknownPort_name : PySem.W.findIn K (.ref (He.ga K "UnknownPort")) "name" = some none := He.eqO_ok q283
  have a_DelayRing : PySem.W.nsIn K mainGlobals "DelayRing" = some (some (.ref (He.ga K "DelayRing"))) := He.eqO_ok q284
  have xq_DelayRing : PySem.W.excIn K (He.ga K "DelayRing") [.type "ValueError", .type "Exception", .type "BaseException", .type "object"] "ValueError.__new__" = true := q285
  have xk_DelayRing : PySem.W.keepIn K (.ref (He.ga K "DelayRing")) = true := q286
  have xe_DelayRing : PySem.W.subIn K (.ref (He.ga K "DelayRing")) (.type "BaseException") = some true := of_decide_eq_true q287
  have xt_DelayRing : PySem.W.typeIn K (.ref (He.ga K "DelayRing")) = some (.type "type") := of_decide_eq_true q288
  have hd_DelayRing : PySem.W.hasDictIn K (He.ga K "DelayRing") = true := q289
  have ss_DelayRing : PySem.W.subIn K (.ref (He.ga K "DelayRing")) (.ref (He.ga K "DelayRing")) = some true := of_decide_eq_true q290
  have sn_DelayRing_UnknownPort : PySem.W.subIn K (.ref (He.ga K "DelayRing")) (.ref (He.ga K "UnknownPort")) = some false := of_decide_eq_true q291
  exact all_mk (l := PySem.Challenge.rw_stepblocks_k82_lines_of_targets) X G hfa z_len z_abs z_max z_min z_range z_isinstance z_int z_str z_tuple z_list z_set z_dict z_all z_repr z_enumerate z_zip a_MODULUS a_MAX_NAME a_MAX_NET a_MAX_PATH a_DIGITS a_LETTERS a_number_of l_number_of c_number_of k_number_of a_is_primitive_text l_is_primitive_text c_is_primitive_text k_is_primitive_text a_is_name l_is_name c_is_name k_is_name a_are_ports l_are_ports c_are_ports k_are_ports a_is_path l_is_path c_is_path k_is_path a_are_parts l_are_parts c_are_parts k_are_parts a_ports_of l_ports_of c_ports_of k_ports_of a_targets_of l_targets_of c_targets_of k_targets_of a_sources_of l_sources_of c_sources_of k_sources_of a_are_wires l_are_wires c_are_wires k_are_wires a_are_good_for_net l_are_good_for_net c_are_good_for_net k_are_good_for_net a_has_word l_has_word c_has_word k_has_word a_check_rings l_check_rings c_check_rings k_check_rings a_line_targets l_line_targets c_line_targets k_line_targets a_line_at l_line_at c_line_at k_line_at a_line_of l_line_of c_line_of k_line_of a_law_feed l_law_feed c_law_feed k_law_feed a_law_take l_law_take c_law_take k_law_take a_law_pick l_law_pick c_law_pick k_law_pick a_law_ports l_law_ports c_law_ports k_law_ports a_law_number l_law_number c_law_number k_law_number a_law_paths l_law_paths c_law_paths k_law_paths a_law_sources l_law_sources c_law_sources k_law_sources a_law_turned l_law_turned c_law_turned k_law_turned a_law_texts l_law_texts c_law_texts k_law_texts a_law_net l_law_net c_law_net k_law_net a_law_targets l_law_targets c_law_targets k_law_targets a_law_laid l_law_laid c_law_laid k_law_laid a_law_first l_law_first c_law_first k_law_first a_law_made l_law_made c_law_made k_law_made a_law_lined l_law_lined c_law_lined k_law_lined a_law_has_ring l_law_has_ring c_law_has_ring k_law_has_ring a_law_line l_law_line c_law_line k_law_line a_law_delayed l_law_delayed c_law_delayed k_law_delayed a_law_asked l_law_asked c_law_asked k_law_asked a_law_odd l_law_odd c_law_odd k_law_odd a_law l_law c_law k_law a_PORTS l_PORTS h_PORTS w_PORTS ph0 pl0 pu0 pv0 ph1 pl1 pu1 pv1 ph2 pl2 pu2 pv2 ph3 pl3 pu3 pv3 ph4 pl4 pu4 pv4 ph5 pl5 pu5 pv5 ph6 pl6 pu6 pv6 ph7 pl7 pu7 pv7 ph8 pl8 pu8 pv8 ks_PORTS a_RESERVED l_RESERVED a_Block a_Primitive pg_Primitive hd_Primitive po_Primitive sa_Primitive mk_Primitive kc_Primitive no_Primitive_name no_Primitive_inputs no_Primitive_outputs no_Primitive_constant no_Primitive_text kc1_Primitive_Block kc2_Primitive_Block kc3_Primitive_Block a_Block_init l_Block_init c_Block_init k_Block_init t_Block_init n_Block_init a_Primitive_init l_Primitive_init c_Primitive_init k_Primitive_init i_Primitive_init cC_Primitive lc_Primitive hv_Primitive hf_Primitive lcc_Primitive sub_Primitive zS tp ht q_Primitive_parse a_Primitive_parse l_Primitive_parse c_Primitive_parse k_Primitive_parse n_Primitive_parse rd_Primitive rg_Primitive a_Diagram pg_Diagram hd_Diagram po_Diagram sa_Diagram mk_Diagram kc_Diagram rd_Diagram rg_Diagram cv_Diagram_MAX_PORTS ci_Diagram_MAX_PORTS cg_Diagram_MAX_PORTS a_Net pg_Net hd_Net po_Net sa_Net mk_Net kc_Net no_Net_inputs no_Net_outputs no_Net_parts no_Net_wires no_Net_blocks no_Net_source_of no_Net_sequence a_Net_init l_Net_init c_Net_init k_Net_init i_Net_init a_Net_lay l_Net_lay c_Net_lay k_Net_lay i_Net_lay a_Net_ordered l_Net_ordered c_Net_ordered k_Net_ordered i_Net_ordered a_Net_is_fed l_Net_is_fed c_Net_is_fed k_Net_is_fed i_Net_is_fed a_Net_first_state l_Net_first_state c_Net_first_state k_Net_first_state i_Net_first_state a_BlockError eb_BlockError ed_BlockError et_BlockError a_UnknownPort xL_UnknownPort sa_UnknownPort exC_UnknownPort tyC_UnknownPort kC_UnknownPort ga_UnknownPort gg_UnknownPort hd_UnknownPort ic_UnknownPort io_UnknownPort cd_UnknownPort sv_UnknownPort sb_UnknownPort ocg oct a_UnknownPort_init l_UnknownPort_init c_UnknownPort_init k_UnknownPort_init t_UnknownPort_init ss_UnknownPort cb_UnknownPort no_UnknownPort_name a_DelayRing xq_DelayRing xk_DelayRing xe_DelayRing xt_DelayRing hd_DelayRing ss_DelayRing sn_DelayRing_UnknownPort
end K82

set_option maxRecDepth 100000
open PySem PySem.W PyProof.Rows

open PySem PySem.W PyProof.Rows in
set_option maxRecDepth 100000 in
set_option maxHeartbeats 0 in
theorem PySem.Challenge.cw_stepblocks_k82_lines_of_targets_holds : PySem.Challenge.rw_stepblocks_k82_lines_of_targets.Holds := by
  w_on; o_law
  refine HandSHeadRun.head_any (r := OpenLaw.row PySem.Challenge.rw_stepblocks_k82_lines_of_targets) (q := K82.viewA) (H := K82.hookA) (ob := K82.obA) (M := 12000) (loose := K82.nmsA) (d := HandSHeadRun.topDef (OpenLaw.row PySem.Challenge.rw_stepblocks_k82_lines_of_targets).prog 79) (kwd := []) K82.obA_eq (by kernel_rfl) (fun s => by kernel_rfl) K82.run_all (by kernel_rfl) (by kernel_rfl) (by kernel_rfl) (by rfl) (by first | assumption | decide +kernel) (by decide +kernel) ⟨rfl, rfl, rfl, rfl, rfl, by decide +kernel⟩ ?hw ?hc
  case hw => w_witness2
  case hc =>
    refine Hd.walk_ofH (l := PySem.Challenge.rw_stepblocks_k82_lines_of_targets) (n := 63) (k := 9) (x := "script") rfl (by decide) (by kernel_rfl) ⟨rfl, by decide, by decide⟩ ?F
    intro w mg fa h Y G hmg0
    obtain ⟨K, KX, c⟩ := Y
    have hmg : mg ("law" : PySem.Str) = some (.ref fa) := by
      have e : (HandSHeadRun.topDef (OpenLaw.row PySem.Challenge.rw_stepblocks_k82_lines_of_targets).prog 79).name = ("law" : PySem.Str) := by kernel_rfl
      rw [← e]
      exact hmg0
    obtain ⟨fd, hb, hF⟩ := K82.all_says KX G hmg c
    exact ⟨K, fd, K82.spLaw K, KX, hb, fun H a ns hl hS => ⟨a, ns, rfl, hS, hl, fun _ => rfl⟩, hF⟩
#print axioms PySem.Challenge.cw_stepblocks_k82_lines_of_targets_holds
