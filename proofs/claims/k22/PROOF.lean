import PyProof.Rows.All
import Wide.All
import OpenK.AllK
import Wide.FinOn
import HandS.ForMost
import KE.KSuper
import HandS.Wide
import HandS.IsInst
import HandS.ClsMeth
import HandS.FStr
import HandS.RaiseMore
import KE.KCallOwn
import PyProof.ReprRoads
import HandS.Walk
import HandS.Codes
import KE.KIntText
import KE.IntTextLaws
import KE.KxText
import KE.KxLen
import PyProof.ReprLen
import PyProof.StrLawsChain
import PyProof.StrBlock2
import HandS.Exc
import HandS.ExcOwn
import HandS.ExcValue
import HandS.ExcInit
import HandS.ExcField
import KE.KExcIs
import HandS.Style
import HandS.Sort
import HandS.SortOrd
import HandS.SortRule
import KE.KSortTup
import KE.KSortTupAny
import HandS.Dict
import HandS.DictEq
import KE.KEqDict
import PyProof.Rows.SetFrom
import PyProof.Rows.SortShellAny
import HandS.Set
import HandS.SetFor
import HandS.Strs
import KE.KAssignIn
import PyProof.Rows.RegReprOcc
import PyProof.EnumMake
import PyProof.EnumFor
import KE.GoesMore
import KE.GoesEnum
import HandS.Iter
import HandS.DictComp
import PyProof.ListStr
import PyProof.Rows.StrJoinStr
import KE.KLam
import KE.SortKeyHeap
import HandS.Keys
import HandS.Lambda
import HandS.EndTab
import HandS.SortKw
import KE.SortCalls
import PyProof.TupleOfSeq
import HandS.TupAny
import HandS.Words
import HandS.Deep
import PyProof.TupleOfStr
import HandS.SortInts
import HandS.NoneIn
import PySem.Challenge.RW_stepblocks_k22_interfaces_judged
set_option Elab.async false
set_option linter.all false
set_option maxRecDepth 100000
set_option maxHeartbeats 2000000
/-! a def of a class whose first statement is super().__init__(..): its promise by the rest of its body -/
namespace SupX
open PySem PySem.W PyProof.Rows L2

theorem cellsFrom_app : ∀ (names : List (Str × NameKind)) (n : Nat) (a b : List (Str × Addr)), cellsFrom n names (a ++ b) = cellsFrom n names a ++ b
  | [], _, _, _ => rfl
  | (name, kind) :: r, n, a, b => by
    unfold cellsFrom
    split
    · exact cellsFrom_app r (n + 1) ((name, n) :: a) b
    · exact cellsFrom_app r n a b
theorem look_app {l r : List (Str × Addr)} {x : Str} {c : Addr} (h : l.lookup x = some c) : (l ++ r).lookup x = some c := by
  rw [List.lookup_append, h] <;> rfl

section
variable {M : Model} {A : Around} {E : Value → Shared → Prop} {s₀ s : Shared} {m cm : Str → Option Value} {env : Env} {cs : List (Str × Addr)}
theorem stLX {n : Str} {v : Value} {Q : Unit → Shared → Prop} (x : InCallC s₀ env.locals m cs cm s) (hk : env.scope.kind = .function) (hl : env.kindOf n = some .local)
    (h : ∀ s', InCallC s₀ env.locals (fun y => if y = n then some v else m y) cs cm s' → Q () s') : wpAny M A (storeName env n v) Q E s := by
  refine wpAny_storeName_local hl x.toInCall.ns (fun h' hn' hs' => h _ ⟨⟨?_, hn', fun b o e => ?_, x.toInCall.fresh⟩, fun k c hc => ?_, x.apart, x.above⟩) (by rw [hk]; rfl)
  · obtain ⟨h₁, tk, rfl⟩ := x.toInCall.same
    exact ⟨h', _, rfl⟩
  · exact hs'.extBut b o (Nat.ne_of_lt (Nat.lt_of_lt_of_le (Heap.lt_size e) x.toInCall.fresh)) (x.toInCall.keep b o e)
  · exact (x.cell k c hc).sameBut hs' (Nat.ne_of_gt (x.above k c (PySem.mem_of_lookup hc)))
theorem stCX {n : Str} {c : Addr} {v : Value} {Q : Unit → Shared → Prop} (x : InCallC s₀ env.locals m cs cm s) (hk : env.scope.kind = .function) (hl : env.kindOf n = some .cell)
    (hc0 : cs.lookup n = some c) (hc : env.cells.lookup n = some c)
    (h : ∀ s', InCallC s₀ env.locals m cs (fun y => if y = n then some v else cm y) s' → Q () s') : wpAny M A (storeName env n v) Q E s := by
  have hLc := x.above n c (PySem.mem_of_lookup hc0)
  refine wpAny_storeName_cell hk hl hc (x.cell n c hc0) fun h' hc' hs' => h _ ⟨⟨?_, x.toInCall.ns.sameBut hs' (Nat.ne_of_lt hLc), fun b o e => ?_, x.toInCall.fresh⟩, fun k c' hk' => ?_, x.apart, x.above⟩
  · obtain ⟨h₁, tk, rfl⟩ := x.toInCall.same
    exact ⟨h', _, rfl⟩
  · exact hs'.extBut b o (Nat.ne_of_lt (Nat.lt_trans (Nat.lt_of_lt_of_le (Heap.lt_size e) x.toInCall.fresh) hLc)) (x.toInCall.keep b o e)
  · by_cases hkn : k = n
    · subst hkn
      rw [hc0] at hk'; cases hk'
      simpa using hc'
    · rw [if_neg hkn]
      exact (x.cell k c' hk').sameBut hs' fun e => hkn (name_of_addr x.apart (PySem.mem_of_lookup hk') (e ▸ PySem.mem_of_lookup hc0))
theorem bindX (f : Str × Value → PUnit → Sem (ForInStep PUnit)) (hf : ∀ n v u, f (n, v) u = (do storeName env n v; pure (.yield ⟨⟩))) (hk : env.scope.kind = .function) (hcs : ∀ n c, cs.lookup n = some c → env.cells.lookup n = some c) :
    ∀ (binds : List (Str × Value)) (m cm : Str → Option Value) (s : Shared) (Q : PUnit → Shared → Prop), InCallC s₀ env.locals m cs cm s →
      (∀ x ∈ binds, env.kindOf x.1 = some .local ∨ (env.kindOf x.1 = some .cell ∧ (cs.lookup x.1).isSome = true)) →
      (∀ s', InCallC s₀ env.locals (bindL env.kindOf binds m) cs (bindC env.kindOf binds cm) s' → Q ⟨⟩ s') → wpAny M A (forIn binds ⟨⟩ f) Q E s
  | [], m, cm, s, Q, x, _, h => by rw [List.forIn_nil]; exact wpAny_pure (h s x)
  | (n, v) :: r, m, cm, s, Q, x, hkind, h => by
    rw [List.forIn_cons, hf]
    have hr : ∀ y ∈ r, env.kindOf y.1 = some .local ∨ (env.kindOf y.1 = some .cell ∧ (cs.lookup y.1).isSome = true) := fun y hy => hkind y (List.mem_cons_of_mem _ hy)
    rcases hkind (n, v) List.mem_cons_self with hl | ⟨hl, hc⟩
    · refine wpAny_bind (wpAny_bind (stLX x hk hl fun s' x' => wpAny_pure (bindX f hf hk hcs r _ _ s' Q x' hr fun s'' x'' => h s'' ?_)))
      unfold bindL bindC; rw [if_pos hl, if_pos hl]; exact x''
    · obtain ⟨c, hc⟩ := Option.isSome_iff_exists.mp hc
      have hnl : ¬ env.kindOf n = some .local := by rw [hl]; decide
      refine wpAny_bind (wpAny_bind (stCX x hk hl hc (hcs _ _ hc) fun s' x' => wpAny_pure (bindX f hf hk hcs r _ _ s' Q x' hr fun s'' x'' => h s'' ?_)))
      unfold bindL bindC; rw [if_neg hnl, if_neg hnl]; exact x''
theorem newEnvX {scope : Scope} {globals : Addr} {clo : List (Str × Addr)} {binds : List (Str × Value)} {qual : Str} {func : Option Addr} {code : Value} {builtins : Addr} {Q : Env → Shared → Prop}
    (hk : scope.kind = .function)
    (hkind : ∀ x ∈ binds, scope.names.lookup x.1 = some .local ∨ (scope.names.lookup x.1 = some .cell ∧ ((cellsFrom (s.heap.objs.size + 1) scope.names []).lookup x.1).isSome = true))
    (hQ : ∀ env, env = newEnv scope s.heap.objs.size globals (cellsFrom (s.heap.objs.size + 1) scope.names clo) qual func code none builtins →
      ∀ s', InCallC s env.locals (bindL env.kindOf binds fun _ => none) (cellsFrom (s.heap.objs.size + 1) scope.names []) (bindC env.kindOf binds fun _ => none) s' → Q env s') :
    wpAny M A (newFunctionEnv scope globals clo binds qual func code none builtins) Q E s := by
  simp only [newFunctionEnv, Option.isSome_none, Bool.false_eq_true, if_false]
  refine wpAny_bind (wpAny_alloc ?_)
  refine wpAny_bind (wpAny_layCells _ (fun name kind cells => by cases hkc : kind == NameKind.cell <;> simp [hkc]) _ _ _ _ ?_)
  have ok := cellsFrom_ok scope.names (s.heap.push { cls := .type "frame", data := .dict #[] }) (s.heap.objs.size + 1) [] ⟨fun _ _ hm => (nomatch hm), List.Pairwise.nil⟩ (by rw [Heap.size_push]; exact Nat.le_refl _)
  rw [Heap.size_push] at ok
  rw [show ({ s with heap := s.heap.push { cls := .type "frame", data := .dict #[] } } : Shared).heap.objs.size = s.heap.objs.size + 1 from Heap.size_push ..]
  refine wpAny_bind (bindX (s₀ := s) (cs := cellsFrom (s.heap.objs.size + 1) scope.names []) (env := newEnv scope s.heap.objs.size globals (cellsFrom (s.heap.objs.size + 1) scope.names clo) qual func code none builtins)
    _ (fun _ _ _ => rfl) hk (fun n c h => ?_) binds (fun _ => none) (fun _ => none) _ _
    ⟨⟨⟨_, _, rfl⟩, (Heap.Ns.new s.heap (.type "frame")).keeps (pushCells_keeps _ _), fun b o e => pushCells_keeps _ _ b o (Heap.get?_push_of_some _ e), Nat.le_refl _⟩,
      fun n c hc => (ok.empty n c (PySem.mem_of_lookup hc)).1, ok.apart, fun n c hm => (ok.empty n c hm).2⟩
    hkind fun s' x => wpAny_pure (hQ _ rfl s' x))
  show (cellsFrom (s.heap.objs.size + 1) scope.names clo).lookup n = some c
  rw [show clo = [] ++ clo from rfl, cellsFrom_app]
  exact look_app h
end

/-! ### the frame of such a def -/
abbrev envS (qual : Str) (scope : Scope) (L a : Addr) (cd : Value) (cc : Addr) : Env :=
  { scope := scope, locals := L, globals := mainGlobals, cells := cellsFrom (L + 1) scope.names [("__class__", cc)], qual := qual ++ ".<locals>.", func := some a, code := cd, frame := some L, builtins := builtinsNs }
structure SScope (N ps : List Str) (sc : Scope) : Prop where
  kind : sc.kind = .function
  co : sc.isCoroutine = false
  gen : sc.isGenerator = false
  nd : N.Nodup
  pre : N.take ps.length = ps
  par : ∀ x ∈ ps, sc.names.lookup x = some .local ∨ sc.names.lookup x = some .cell
  free : ∀ y ∈ sc.names, y.2 = NameKind.free → y.1 = ("__class__" : Str)
  cls : sc.names.lookup ("__class__" : Str) = some NameKind.free
  nocls : (("__class__" : Str), NameKind.cell) ∉ sc.names
  sup : sc.names.lookup ("super" : Str) = some NameKind.globalImplicit
def cxS (CX : CXT) (P : Program) (w : World) (K : PySem.W.Frag) (mg : Str → Option Value) (base : Heap) (N : List Str) (qual : Str) (scope : Scope) (f : Addr) (cd : Value) (cc : Addr) (A : Around) (outer : List Env) (s : Shared) (H : Hp) (E : XK) : Cx where
  prog := P
  w := w
  K := K
  mg := mg
  base := base
  A := A.deeper (envS qual scope s.heap.objs.size f cd cc)
  N := N
  s_0 := s
  H_0 := H
  env := envS qual scope s.heap.objs.size f cd cc
  outer := outer
  stack := envS qual scope s.heap.objs.size f cd cc :: outer
  ex := []
  calm := true
  fn := fun y => !(y == "__class__")
  pn := []
  xe := fun e s' => wpAny (model P w) (A.deeper (envS qual scope s.heap.objs.size f cd cc)) (leaving (envS qual scope s.heap.objs.size f cd cc) e) (fun _ s'' => CX outer H s E e s'') (fun e' s'' => CX outer H s E e' s'') s'

theorem cells_eq (n : Nat) (names : List (Str × NameKind)) (cc : Addr) : cellsFrom n names [(("__class__" : Str), cc)] = cellsFrom n names [] ++ [(("__class__" : Str), cc)] := cellsFrom_app names n [] _
theorem names_of_cells : ∀ {names : List (Str × NameKind)} {n : Nat} {acc : List (Str × Addr)} {x : Str} {c : Addr}, (x, c) ∈ cellsFrom n names acc → (x, c) ∈ acc ∨ (x, NameKind.cell) ∈ names
  | [], _, _, _, _, h => .inl h
  | (name, kind) :: r, n, acc, x, c, h => by
    unfold cellsFrom at h
    split at h
    · rename_i hk
      rcases names_of_cells h with q | q
      · rcases List.mem_cons.mp q with e | q
        · cases e
          exact .inr (by rw [beq_iff_eq.mp hk]; exact List.mem_cons_self)
        · exact .inl q
      · exact .inr (List.mem_cons_of_mem _ q)
    · rcases names_of_cells h with q | q
      · exact .inl q
      · exact .inr (List.mem_cons_of_mem _ q)
/-- a name's cell: one of the frame's own, or the class's -/
theorem cell_cases {n : Nat} {names : List (Str × NameKind)} {cc : Addr} {x : Str} {c : Addr} (h : (cellsFrom n names [(("__class__" : Str), cc)]).lookup x = some c) :
    (cellsFrom n names []).lookup x = some c ∨ ((cellsFrom n names []).lookup x = none ∧ x = "__class__" ∧ c = cc) := by
  rw [cells_eq, List.lookup_append] at h
  cases e : (cellsFrom n names []).lookup x with
  | some d => rw [e] at h; exact .inl h
  | none =>
    rw [e] at h
    have h2 : List.lookup x [(("__class__" : Str), cc)] = some c := h
    rw [List.lookup_cons] at h2
    split at h2
    · rename_i hx
      exact .inr ⟨rfl, beq_iff_eq.mp hx, (Option.some.inj h2).symm⟩
    · cases h2

theorem inv_startS {CX : CXT} {P : Program} {w : World} {K : PySem.W.Frag} {mg : Str → Option Value} {base : Heap} {N ps : List Str} {qual : Str} {scope : Scope} {f : Addr} {cd : Value} {cc : Addr} {A : Around} {outer : List Env} {s s1 : Shared} {H : Hp} {E : XK} {us : List Value} {vs : List V} {cv : Option Value}
    (S : SScope N ps scope) (hd : A.handled = none) (e0 : Env0 P w K mg base A outer s H) (hl : vs.length = ps.length) (r : Vals vs us) (hcc : base.IsCell cc cv)
    (x : InCallC s s.heap.objs.size (bindL (envS qual scope s.heap.objs.size f cd cc).kindOf (ps.zip us) fun _ => none) (cellsFrom (s.heap.objs.size + 1) scope.names []) (bindC (envS qual scope s.heap.objs.size f cd cc).kindOf (ps.zip us) fun _ => none) s1) :
    Inv (cxS CX P w K mg base N qual scope f cd cc A outer s H E) [] (L2.start N vs) H s1 := by
  have hpl : ps.length ≤ N.length := by have := congrArg List.length S.pre; rw [List.length_take] at this; omega
  obtain ⟨oc, hoc, hocd⟩ := hcc
  have hcs : s.heap.get? cc = some oc ∧ H cc = none := e0.bs cc oc hoc
  have hlt : cc < s.heap.objs.size := Heap.lt_size hcs.1
  obtain ⟨h1, tk, rfl, hk⟩ := x.done
  have noA : ∀ b : Addr, b ∉ (cxS CX P w K mg base N qual scope f cd cc A outer s H E).ex := fun b z => absurd (show b ∈ ([] : List Addr) from z) (by simp)
  have own : ∀ {y : Str} {c : Addr}, (cellsFrom (s.heap.objs.size + 1) scope.names []).lookup y = some c → s.heap.objs.size < c := fun h => x.above _ _ (PySem.mem_of_lookup h)
  refine ⟨⟨e0.mod, S.kind, rfl, rfl, Nat.le_refl _, fun y z c h1 h2 => ?_, fun y hy => ?_, fun y c hf h => ?_, fun _ => hd, Around.frames_deeper e0.frames, .inr ⟨rfl, rfl⟩, fun b z => absurd z (noA b), e0.bs, e0.bsz, fun b _ _ => noA b, fun b z => absurd z (noA b), e0.funs, e0.frf⟩,
    rfl, e0.bare, Un.kept hk, ⟨_, x.toInCall.ns, fun i y v h1 h2 h3 => ?_⟩, fun y c h => ?_, e0.hok.fresh (Nat.le_refl _), fun y c h => ?_, fun p hp => absurd (show p ∈ ([] : List (Addr × Obj)) from hp) (by simp), e0.hok.kept hk, ?_⟩
  · rcases cell_cases h1 with q1 | ⟨_, q1, e1⟩
    · rcases cell_cases h2 with q2 | ⟨_, q2, e2⟩
      · exact name_of_addr x.apart (PySem.mem_of_lookup q1) (PySem.mem_of_lookup q2)
      · have z := own q1
        rw [e2] at z
        exact absurd (Nat.lt_trans z hlt) (Nat.lt_irrefl _)
    · rcases cell_cases h2 with q2 | ⟨_, q2, e2⟩
      · have z := own q2
        rw [e1] at z
        exact absurd (Nat.lt_trans z hlt) (Nat.lt_irrefl _)
      · rw [q1, q2]
  · have hy : scope.names.lookup y = some .cell ∨ scope.names.lookup y = some .free := hy
    rcases hy with hy | hy
    · obtain ⟨c, e⟩ := cell_has (n := s.heap.objs.size + 1) hy
      refine ⟨c, ?_⟩
      show (cellsFrom (s.heap.objs.size + 1) scope.names [("__class__", cc)]).lookup y = some c
      rw [cells_eq]
      exact look_app e
    · have e := S.free _ (PySem.mem_of_lookup hy) rfl
      have e : y = "__class__" := e
      subst e
      cases q : (cellsFrom (s.heap.objs.size + 1) scope.names []).lookup ("__class__" : Str) with
      | some c =>
        refine ⟨c, ?_⟩
        show (cellsFrom (s.heap.objs.size + 1) scope.names [("__class__", cc)]).lookup ("__class__" : Str) = some c
        rw [cells_eq]
        exact look_app q
      | none =>
        refine ⟨cc, ?_⟩
        show (cellsFrom (s.heap.objs.size + 1) scope.names [("__class__", cc)]).lookup ("__class__" : Str) = some cc
        rw [cells_eq, List.lookup_append, q]
        simp [List.lookup]
  · rcases cell_cases h with q | ⟨_, q, _⟩
    · exact Nat.le_of_lt (own q)
    · have hf : (!(y == ("__class__" : Str))) = true := hf
      rw [q] at hf
      simp at hf
  · have hi : i < vs.length := by
      unfold L2.start at h2
      by_cases hi : i < vs.length
      · exact hi
      · rw [List.getElem?_append_right (by simpa using hi)] at h2
        rw [List.getElem?_replicate] at h2
        split at h2 <;> cases h2
    have ha : vs[i]? = some v := by
      unfold L2.start at h2
      rw [List.getElem?_append_left (by simpa using hi), List.getElem?_map] at h2
      cases e : vs[i]? with
      | none => rw [e] at h2; cases h2
      | some a => rw [e] at h2; cases h2; rfl
    obtain ⟨u, hu, rv⟩ := r.get ha
    have hp : ps[i]? = some y := by
      rw [← S.pre, List.getElem?_take_of_lt (by omega)]; exact h1
    have ndP : ps.Nodup := by rw [← S.pre]; exact S.nd.sublist (List.take_sublist _ _)
    refine ⟨u, rv, ?_⟩
    rcases S.par y (List.mem_of_getElem? hp) with k | k
    · exact .inl ⟨k, bindL_get ndP hp hu k⟩
    · obtain ⟨c, e⟩ := cell_has (n := s.heap.objs.size + 1) k
      refine .inr ⟨.inl k, c, ?_, ?_⟩
      · show (cellsFrom (s.heap.objs.size + 1) scope.names [("__class__", cc)]).lookup y = some c
        rw [cells_eq]
        exact look_app e
      · have q := x.cell y c e
        rw [bindC_get ndP hp hu (by show scope.names.lookup y ≠ _; rw [k]; decide)] at q
        exact q
  · rcases cell_cases h with q | ⟨_, _, q⟩
    · exact ⟨_, x.cell y c q⟩
    · rw [q]
      exact ⟨cv, oc, hk _ _ hcs.1, hocd⟩
  · rcases cell_cases h with q | ⟨_, _, q⟩
    · exact e0.hok.fresh (Nat.le_of_lt (own q))
    · rw [q]
      exact hcs.2
  · unfold L2.start
    show _ = N.length
    rw [List.length_append, List.length_map, List.length_replicate]
    omega
end SupX

set_option maxRecDepth 100000
set_option maxHeartbeats 2000000
namespace SupX
open PySem PySem.W PyProof.Rows L2

/-- what the written part tells of super() in a def of the class at C, the def at f with the code object at cda and the class's cell at cc; f2 is the base's __init__ -/
structure SupF (P : Program) (K : Frag) (mg : Str → Option Value) (C f cda cc f2 : Addr) (slf : Str) : Prop where
  cl : Cls K C
  cd : ∃ c, clsIn K C = some c
  fn : ∃ (oc : Value) (od : Option Addr) (fd : FuncData) (osl : Array (Option Value)) (ar : Arg), K.lookup f = some ⟨oc, od, .func fd, osl⟩ ∧ (fd.params.posonlyargs ++ fd.params.args).head? = some ar ∧ ar.arg = slf
  code : ∃ (ccl : Value) (cdd : Option Addr) (vs : Array Value) (ccs : Array (Option Value)) (file : Str) (tf : Tok), K.lookup cda = some ⟨ccl, cdd, .fields vs, ccs⟩ ∧ vs[2]? = some (.str file tf) ∧ ((P.main.file : Str) == file) = true
  cell : ∃ (cl : Value) (cld : Option Addr) (csl : Array (Option Value)), K.lookup cc = some ⟨cl, cld, .cell (some (.ref C)), csl⟩
  sub : mroIn K C (.ref C) = some true
  gsup : mg "super" = none
  tp : nsIn K cStatics "thirdparty.any" = some none
  sin : ks_superIn K C C "__init__" = some (some (.ref f2))
  tf2 : typeIn K (.ref f2) = some (.type "function")
  ff2 : fnIn K f2 = true
  htop : (P.main.scope.names.lookup ("super" : Str)).isSome = false

theorem boot_super : bootBuiltins "super" = some (.type "super") := by first | boot_by_name | rfl | kernel_rfl | decide +kernel

section
variable {X : Cx} {body : List Stmt} {pins : List (Addr × Obj)} {σ : L2.St} {H : Hp} {s : Shared} {C f cda cc f2 x dx : Addr} {slf : Str} {fs : List (Str × V)} {pos p0 p1 : Pos}
/-- super(), in a def of the class at C: the object stands behind, all else is kept -/
theorem sup_base {attr : Str} {whole : Sem Value} {Q : Value → Shared → Prop} {E : Value → Shared → Prop} (I : Inv X pins σ H s) (T : SupF X.prog X.K X.mg C f cda cc f2 slf)
    (hks : X.env.kindOf "super" = some .globalImplicit) (hkc : X.env.kindOf "__class__" = some .free) (hat : (attr == ("__class__" : Str)) = false) (hfu : X.env.func = some f) (hco : X.env.code = .ref cda)
    (hcl : X.env.cells.lookup ("__class__" : Str) = some cc) (hN : X.N[0]? = some slf) (hl : X.env.scope.names.lookup slf = some .local) (hσ : σ[0]? = some (some (.ref x))) (hx : H x = some (.ins C dx fs))
    (h : ∀ so h' , (∀ b o, s.heap.get? b = some o → h'.get? b = some o) → s.heap.objs.size ≤ so → h'.get? so = some (ks_superObj C x C) → Q (.ref so) { s with heap := h' }) :
    _root_.PySem.wpAt (model X.prog X.w) X.A (.func body X.env) (attributeBase (.Call (.Name "super" p0) [] [] p1) attr X.env whole) Q E s := by
  obtain ⟨oc, od, fd, osl, ar, hf, hp, har⟩ := T.fn
  obtain ⟨ccl, cdd, vs, ccs, file, tf, hcode, hvs, hfile⟩ := T.code
  obtain ⟨cl, cld, csl, hcell⟩ := T.cell
  obtain ⟨cdD, hD⟩ := T.cd
  have KI : X.K.In s.heap := I.kIn
  obtain ⟨m, hns, hlk⟩ := id I.loc
  obtain ⟨u, ru, lu⟩ := hlk 0 slf (.ref x) hN hσ (.inl hl)
  obtain rfl : u = Value.ref x := ru
  obtain ⟨mA, O, _⟩ := ins_get I.hok hx
  obtain ⟨odx, J, _⟩ := O.look
  obtain ⟨mb, hb1, hb2⟩ := I.mod.blt
  obtain ⟨hh, g, d, t, os⟩ := s
  obtain ⟨oD, hD1, hD2⟩ : ∃ oD, hh.get? C = some oD ∧ oD.data = .cls cdD := by
    unfold clsIn at hD
    split at hD
    · rename_i c d cd' sl ho
      cases hD
      exact ⟨_, KI _ _ ho, rfl⟩
    · cases hD
  have hself : m slf = some (.ref x) := by
    rcases lu with ⟨_, q⟩ | ⟨q, _⟩
    · exact q
    · have q' : X.env.scope.names.lookup slf = some .cell ∨ X.env.scope.names.lookup slf = some .free := q
      rw [hl] at q'
      rcases q' with q' | q' <;> cases q'
  refine ks_wpAt_super_base (env := X.env) hks hkc hat hfu (KI _ _ hf) rfl hp hco (KI _ _ hcode) rfl hvs hfile T.htop ?_
  refine ks_loadName_global I.ok.kind hks (Calls.loadGlobal_builtin (env := X.env) (by rw [I.ok.glob]; exact I.mod.glob.keeps I.bk) T.gsup (by rw [I.ok.blt]; exact hb1.keeps I.bk) ((hb2 _ (by decide +kernel)).trans boot_super) ⟨rfl, ?_⟩)
  refine wpAny_loadName_free I.ok.kind hkc hcl ⟨_, KI _ _ hcell, rfl⟩ ?_
  rw [har]
  refine wpAny_loadName_local I.ok.kind hl hns hself ?_
  refine ks_wpAny_isType_cls hD1 hD2 ⟨rfl, ?_⟩
  refine ks_wpAny_call_super hD1 hD2 J.at_ J.cls (fun c e => ?_) (looks_mroIn KI T.sub) (fun h' e k => ?_)
  · have q := J.no
    unfold notCls at q
    rw [e] at q
    exact Bool.noConfusion q
  · exact h _ _ k (Nat.le_refl _) e
/-- .. its method of this name: a bound method, the base's def and the instance -/
theorem sup_method {so : Addr} {pl : Sem Bool} {Q : Value × List Value → Shared → Prop} {A : Around} {E : Value → Shared → Prop} (I : Inv X pins σ H s) (T : SupF X.prog X.K X.mg C f cda cc f2 slf) (hx : H x = some (.ins C dx fs))
    (hso : s.heap.get? so = some (ks_superObj C x C))
    (h : ∀ q h', (∀ b o, s.heap.get? b = some o → h'.get? b = some o) → s.heap.objs.size ≤ q → h'.get? q = some (methodObj (.ref f2) (.ref x)) → Q (.ref q, []) { s with heap := h', toks := s.toks + 1 }) :
    wpAny (model X.prog X.w) A (getMethod (.ref so) "__init__" pl) Q E s := by
  have KI : X.K.In s.heap := I.kIn
  obtain ⟨mA, O, _⟩ := ins_get I.hok hx
  obtain ⟨odx, J, _⟩ := O.look
  obtain ⟨hh, g, d, t, os⟩ := s
  have hm := T.sin
  cases hc : clsIn X.K C with
  | none => unfold ks_superIn at hm; rw [hc] at hm; cases hm
  | some cd =>
    unfold ks_superIn at hm
    rw [hc] at hm
    obtain ⟨of, hof, hofc⟩ : ∃ of, hh.get? f2 = some of ∧ of.cls = .type "function" := by
      have ht' : (X.K.lookup f2).map (·.cls) = some (.type "function") := T.tf2
      cases z : X.K.lookup f2 with
      | none => rw [z] at ht'; cases ht'
      | some of => rw [z] at ht'; exact ⟨of, KI _ _ z, Option.some.inj ht'⟩
    refine ks_wpAny_getMethod_super hso (looks_opaque KI T.tp) (l₀ := cd.mro) ?_ rfl KI hm hof hofc (ks_ne KI J hc) (by decide) ?_
    · exact fun A Q E s k q => wpAny_bind ((looks_clsIn KI hc) A _ E s k (wpAny_pure q))
    · exact h _ _ (fun b o e => Heap.get?_push_of_some _ e) (Nat.le_refl _) (Heap.get?_push_at rfl rfl)
end

def tSup (sp : Sp) (E : XK) (t : TA) : L2.TS := fun D σ H => ∃ x, σ[0]? = some (some (.ref x)) ∧ t σ H fun vs H1 => sp (.ref x :: vs) H1 (fun v H2 => D.nx σ H2) E

section
variable {X : Cx} {body : List Stmt} {pins : List (Addr × Obj)} {σ : L2.St} {H : Hp} {s : Shared} {C f cda cc f2 x dx : Addr} {slf : Str} {fs : List (Str × V)} {p0 p1 p2 p3 p4 : Pos} {e : Expr} {es : List Expr} {t : TA}
  {CX : CXT} {k : Nat} {fd2 : FuncData} {ps : List Str} {sp : Sp} {E : XK}
/-- super().__init__(e, ..), the first statement -/
theorem sup_stmt (I : Inv X pins σ H s) (T : SupF X.prog X.K X.mg C f cda cc f2 slf) (F2 : FnOk X.prog X.w X.K X.mg X.base CX k f2 fd2 ps sp) (hr : Room k X.A) (hb : Binds X.K fd2 ps []) (hxs : Passes CX X E) (ha : PA X (e :: es) t) {D : Ends}
    (hks : X.env.kindOf "super" = some .globalImplicit) (hkc : X.env.kindOf "__class__" = some .free) (hfu : X.env.func = some f) (hco : X.env.code = .ref cda)
    (hcl : X.env.cells.lookup ("__class__" : Str) = some cc) (hN : X.N[0]? = some slf) (hl : X.env.scope.names.lookup slf = some .local) (hσ : σ[0]? = some (some (.ref x))) (hx : H x = some (.ins C dx fs))
    (h : t σ H fun vs H1 => sp (.ref x :: vs) H1 (fun v H2 => D.nx σ H2) E)
    (he : starEach (e :: es) X.env = (false, eval e X.env) :: starEach es X.env := by rfl) (hpl : (backTo p3 (starEach es X.env)).any (·.1) = false := by rfl)
    (hi : interactive X.env = false := by rfl) (hsw : swapsWith (.Call (.Attribute (.Call (.Name "super" p0) [] [] p1) "__init__" p2) (e :: es) [] p3) none p4.line X.env = pure false := by rfl) {pl : Sem Bool}
    (hcall : eval (.Call (.Attribute (.Call (.Name "super" p0) [] [] p1) "__init__" p2) (e :: es) [] p3) X.env = (do
      let ov ← attributeBase (.Call (.Name "super" p0) [] [] p1) "__init__" X.env (eval (.Call (.Name "super" p0) [] [] p1) X.env)
      standAt p2.atName
      let (f, first) ← holding [ov] (getMethod ov "__init__" pl)
      callWith p3 f first (backTo p3 (starEach (e :: es) X.env)) []) := by rfl) :
    _root_.PySem.wpAt (model X.prog X.w) X.A (.func body X.env) (exec (.Expr (.Call (.Attribute (.Call (.Name "super" p0) [] [] p1) "__init__" p2) (e :: es) [] p3) p4) X.env)
      (fun fl s' => fl = .next ∧ ∃ H', Inv X pins σ H' s' ∧ D.nx σ H') X.xe s := by
  refine ks_wpAt_Expr_any ?_ hi hsw
  refine ks_wpAt_MethodCall (pl := pl) ?_ hcall
  refine sup_base I T hks hkc (by decide) hfu hco hcl hN hl hσ hx fun so h1 k1 l1 e1 => ?_
  have I1 : Inv X pins σ H { s with heap := h1 } := I.kept (t' := s.toks) k1
  refine sup_method I1 T hx e1 fun q h2 k2 l2 e2 => ?_
  have I2 : Inv X pins σ H { s with heap := h2, toks := s.toks + 1 } := I1.kept (h' := h2) (t' := s.toks + 1) k2
  have hqf : H q = none := I1.hok.fresh l2
  have I3 : Inv X ((q, methodObj (.ref f2) (.ref x)) :: pins) σ H { s with heap := h2, toks := s.toks + 1 } := I2.pins_of fun p hp => by
    rcases List.mem_cons.mp hp with rfl | hp
    · refine ⟨e2, hqf, fun z => ?_, I1.nofs l2, fun v z => by cases z⟩
      have q1 := I1.lt
      rw [← z] at q1
      exact absurd (Nat.lt_of_lt_of_le q1 l2) (Nat.lt_irrefl _)
    · exact I2.pin p (List.mem_append_right _ hp)
  have hrun : wpAny (model X.prog X.w) X.A (spliced (backTo p3 (starEach (e :: es) X.env))) (fun us s1 => MethP X.K q f2 (.ref x) s1.heap ∧ wpAny (model X.prog X.w) X.A (call (.ref q) ([] ++ us)) (fun _ s' => (Flow.next = Flow.next) ∧ ∃ H', Inv X pins σ H' s' ∧ D.nx σ H') X.xe s1) X.xe { s with heap := h2, toks := s.toks + 1 } := by
    refine thn (ha.run p3 _ _ σ H _ I3 h) fun us s1 ⟨vs, H1, J1, r, hsp⟩ => ?_
    have hq1 : s1.heap.get? q = some (methodObj (.ref f2) (.ref x)) := (J1.pin (q, methodObj (.ref f2) (.ref x)) (List.mem_append_right _ List.mem_cons_self)).1
    have J2 : Inv X pins σ H1 s1 := J1.pins_of fun p hp => J1.pin p (List.mem_append_right _ (List.mem_cons_of_mem _ hp))
    refine ⟨⟨hq1, J1.kIn⟩, ?_⟩
    show wpAny _ _ (call (.ref q) us) _ _ s1
    refine wpAny_call (ks_codeAny_call_bound hq1 ?_)
    have r2 : Vals (V.ref x :: vs) (Value.ref x :: us) := .cons rfl r
    have hl2 : ((Value.ref x :: us) ++ []).length = ps.length := by rw [List.append_nil, ← r2.length]; exact F2.len _ _ _ _ hsp
    have hbt := hb s1 (Value.ref x :: us) J2.kIn hl2
    rw [List.append_nil] at hbt
    refine codeAny_mono (F2.run X.A X.stack s1 H1 ⟨Value.ref x :: us, []⟩ (Value.ref x :: us) (V.ref x :: vs) _ E hr J2.env0 hbt r2 hsp) fun rr s' hq' => ?_
    cases rr with
    | error e => exact hxs pins σ H1 s1 e s' J2 hq'
    | ok fl =>
      cases fl with
      | ret u =>
        obtain ⟨v, H', I4, rv, q4⟩ := J2.after hq'
        exact ⟨rfl, H', I4, q4⟩
      | next => exact False.elim hq'
      | brk => exact False.elim hq'
      | cont => exact False.elim hq'
  rw [he] at hrun ⊢
  exact callWith_of (P := MethP X.K q f2 (.ref x)) (by show ((false || (backTo p3 (starEach es X.env)).any (·.1)) || false) = false; rw [hpl]; rfl) (keeps_M T.ff2) (Calls.evalArgs_plain hrun)
theorem PAnox {X : Cx} {es : List Expr} {t : TA} (h : PA X.nox es t) : PA X es t := ⟨fun pos pins s σ H Q I hw =>
  wpAny_mono (h.run pos pins s σ H Q (I.wish _) hw) (fun _ _ ⟨v, H', I', r, q⟩ => ⟨v, H', I'.unwish, r, q⟩) fun _ _ z => False.elim z⟩
end
end SupX

set_option maxRecDepth 100000
set_option maxHeartbeats 2000000
namespace SupX
open PySem PySem.W PyProof.Rows L2

/-- a def (at f) of the class at C that says super(): its text st, its class's cell at cc -/
structure FunS (P : Program) (K : Frag) (mg : Str → Option Value) (nm qual : Str) (st : Stmt) (C f cc cda f2 : Addr) (slf : Str) (fd : FuncData) : Prop where
  ex : ∃ (oc : Value) (od : Option Addr) (kV doc pm : Value) (an : Option Addr) (ct : Value) (osl : Array (Option Value)),
    fd = fnX nm qual (defArgs st) (defBody st) (defScope st) [("__class__", cc)] .none kV doc pm an (.ref cda) ct ∧ K.lookup f = some ⟨oc, od, .func fd, osl⟩ ∧ codeIn K (.ref cda) qual = true
  kp : keepIn K (.ref f) = true
  sup : SupF P K mg C f cda cc f2 slf
  hl : (defScope st).names.lookup slf = some NameKind.local

section
variable {P : Program} {w : World} {K : Frag} {mg : Str → Option Value} {base : Heap}
theorem FunS.binds {nm qual : Str} {st : Stmt} {C f cc cda f2 : Addr} {slf : Str} {fd : FuncData} {ps : List Str} (F : FunS P K mg nm qual st C f cc cda f2 slf fd)
    (h : ∀ (kV doc pm : Value) (an : Option Addr) (ct : Value) (us : List Value), us.length = ps.length → bindArgs (fnX nm qual (defArgs st) (defBody st) (defScope st) [("__class__", cc)] .none kV doc pm an (.ref cda) ct) ⟨us, []⟩ = pure (ps.zip us)) : Binds K fd ps [] := by
  obtain ⟨oc, od, kV, doc, pm, an, ct, osl, rfl, lk, hcd⟩ := F.ex
  exact .all (h kV doc pm an ct)
/-- THE RULE -/
theorem FunS.ok {nm qual : Str} {st : Stmt} {C f cc cda f2 : Addr} {slf : Str} {fd fd2 : FuncData} {N ps ps2 : List Str} {k k2 : Nat} {sp sp2 : Sp} {e : Expr} {es : List Expr} {rest : List Stmt} {p0 p1 p2 p3 p4 : Pos}
    (F : FunS P K mg nm qual st C f cc cda f2 slf fd) (S : SScope N ps (defScope st)) (hN : N[0]? = some slf)
    (hst : defBody st = .Expr (.Call (.Attribute (.Call (.Name "super" p0) [] [] p1) "__init__" p2) (e :: es) [] p3) p4 :: rest)
    (F2 : FnOk P w K mg base CX0 k2 f2 fd2 ps2 sp2) (hk : k2 ≤ k) (hb2 : Binds K fd2 ps2 [])
    (len : ∀ vs H Q E, sp vs H Q E → vs.length = ps.length)
    (hbody : ∀ (A : Around) (outer : List Env) (s : Shared) (H : Hp) (vs : List V) (Q : VK) (E : XK), Room k (A.deeper (envS qual (defScope st) s.heap.objs.size f (.ref cda) cc)) → sp vs H Q E →
      ∃ x dx fs ta t, vs[0]? = some (.ref x) ∧ H x = some (.ins C dx fs) ∧ PA (cxS CX0 P w K mg base N qual (defScope st) f (.ref cda) cc A outer s H E).nox (e :: es) ta ∧
        PSs (cxS CX0 P w K mg base N qual (defScope st) f (.ref cda) cc A outer s H E).nox rest t ∧
        ta (L2.start N vs) H fun vs' H1 => sp2 (.ref x :: vs') H1 (fun v H2 => t { nx := fun _ H' => Q .non H', rt := Q } (L2.start N vs) H2) E0)
    {pl : Sem Bool} 
    (he : ∀ env : Env, env.scope = defScope st → starEach (e :: es) env = (false, eval e env) :: starEach es env) (hpl : ∀ env : Env, env.scope = defScope st → (backTo p3 (starEach es env)).any (·.1) = false)
    (hi : ∀ env : Env, env.scope = defScope st → interactive env = false) (hsw : ∀ env : Env, env.scope = defScope st → swapsWith (.Call (.Attribute (.Call (.Name "super" p0) [] [] p1) "__init__" p2) (e :: es) [] p3) none p4.line env = pure false)
    (hcall : ∀ env : Env, env.scope = defScope st → eval (.Call (.Attribute (.Call (.Name "super" p0) [] [] p1) "__init__" p2) (e :: es) [] p3) env = (do
      let ov ← attributeBase (.Call (.Name "super" p0) [] [] p1) "__init__" env (eval (.Call (.Name "super" p0) [] [] p1) env)
      standAt p2.atName
      let (f, first) ← holding [ov] (getMethod ov "__init__" pl)
      callWith p3 f first (backTo p3 (starEach (e :: es) env)) [])) : FnOk P w K mg base CX0 (k + 1) f fd ps sp := by
  obtain ⟨oc, od, kV, doc, pm, an, ct, osl, rfl, lk, hcd⟩ := F.ex
  obtain ⟨cl, cld, csl, hcell⟩ := F.sup.cell
  refine ⟨len, fun A outer s H args us vs Q E hr e0 hb r hsp => ?_⟩
  have hl := len _ _ _ _ hsp
  have KX : K.In s.heap := e0.mod.kin.keeps fun b o e => (e0.bs b o e).1
  have lim : s.heap.NoLimit := e0.mod.nolimit.keeps fun b o e => (e0.bs b o e).1
  have hkind : ∀ y ∈ ps.zip us, (defScope st).names.lookup y.1 = some .local ∨ ((defScope st).names.lookup y.1 = some .cell ∧ ((cellsFrom (s.heap.objs.size + 1) (defScope st).names []).lookup y.1).isSome = true) := fun ⟨n, v⟩ hy => by
    rcases S.par n (List.of_mem_zip hy).1 with q | q
    · exact .inl q
    · exact .inr ⟨q, PySem.W.cellsFrom_some _ _ _ (.inl q)⟩
  refine codeAny_call_function hr.depth (KX _ _ lk) rfl S.co S.gen rfl (PySem.W.codeRec_of KX hcd) (hb _ _ _ _ ?_)
  refine newEnvX S.kind hkind fun env he' s1 x => ?_
  subst he'
  refine ⟨lim.keeps x.toInCall.keep, ?_⟩
  show codeAny _ _ (.func (defBody st) (envS qual (defScope st) s.heap.objs.size f (.ref cda) cc)) _ _
  refine ks_codeAny_funcAt ?_
  obtain ⟨xa, dx, fs, ta, t, hx0, hx, hta, ht, hq⟩ := hbody A outer s H vs Q E (hr.deeper _) hsp
  have I : Inv (cxS CX0 P w K mg base N qual (defScope st) f (.ref cda) cc A outer s H E) [] (L2.start N vs) H s1 := inv_startS S hr.hd e0 hl r (cv := some (.ref C)) ⟨_, e0.mod.kin _ _ hcell, rfl⟩ x
  have hσ : (L2.start N vs)[0]? = some (some (.ref xa)) := by
    unfold L2.start
    have h0 : 0 < vs.length := (List.getElem?_eq_some_iff.mp hx0).1
    rw [List.getElem?_append_left (by simpa using h0), List.getElem?_map, hx0] <;> rfl
  have fin : ∀ {s' : Shared} {σ' : L2.St} {H' : Hp} {v : V} {u : Value}, Inv (cxS CX0 P w K mg base N qual (defScope st) f (.ref cda) cc A outer s H E) [] σ' H' s' → RelV v u → Q v H' → CE outer P w H s Q u s' :=
    fun {s' σ' H' v u} J rv q => ⟨v, H', J.os, J.bare, J.base, J.hok, rv, q⟩
  rw [hst]
  refine ks_wpAt_execs_cons ?_
  have first := sup_stmt (X := cxS CX0 P w K mg base N qual (defScope st) f (.ref cda) cc A outer s H E) (body := defBody st) (D := { nx := fun σ' H2 => σ' = L2.start N vs ∧ t { nx := fun _ H' => Q .non H', rt := Q } (L2.start N vs) H2, rt := Q }) I F.sup F2 (Room.mono (hr.deeper _) hk) hb2 (E := E0) pass0 (PAnox hta) (p0 := p0) (p1 := p1) (p2 := p2) (p3 := p3) (p4 := p4) (pl := pl)
    S.sup S.cls rfl rfl (by
      show (cellsFrom (s.heap.objs.size + 1) (defScope st).names [("__class__", cc)]).lookup ("__class__" : Str) = some cc
      rw [cells_eq, List.lookup_append]
      have hn : (cellsFrom (s.heap.objs.size + 1) (defScope st).names []).lookup ("__class__" : Str) = none := by
        cases q : (cellsFrom (s.heap.objs.size + 1) (defScope st).names []).lookup ("__class__" : Str) with
        | none => rfl
        | some c =>
          rcases names_of_cells (PySem.mem_of_lookup q) with z | z
          · cases z
          · exact absurd z (S.nocls)
      rw [hn]
      simp [List.lookup]) hN F.hl hσ hx (by
        refine (?_ : ta (L2.start N vs) H _)
        have e0 : (fun (vs' : List V) (H1 : Hp) => sp2 (.ref xa :: vs') H1 (fun v H2 => (L2.start N vs) = L2.start N vs ∧ t { nx := fun _ H' => Q .non H', rt := Q } (L2.start N vs) H2) E0) = (fun vs' H1 => sp2 (.ref xa :: vs') H1 (fun v H2 => t { nx := fun _ H' => Q .non H', rt := Q } (L2.start N vs) H2) E0) := by
          funext vs' H1
          congr 1
          funext v H2
          exact propext ⟨fun z => z.2, fun z => ⟨rfl, z⟩⟩
        rw [e0]
        exact hq) (he _ rfl) (hpl _ rfl) (hi _ rfl) (hsw _ rfl) (hcall _ rfl)
  rw [← hst]
  refine ks_wpAt_mono first (fun fl s' hfl => ?_) fun e s' hs => hs
  obtain ⟨rfl, H', J, _, hts⟩ := hfl
  refine wpAt_of_wpAny (wpAny_mono (ht.nox.run [] s' (L2.start N vs) H' _ J hts) (fun fl s'' hs => ?_) fun e s'' hs => hs)
  cases fl with
  | ret u =>
    obtain ⟨v, σ', H', J, rv, q⟩ := hs
    exact fin J rv q
  | next =>
    obtain ⟨σ', H', J, q⟩ := hs
    exact fin (v := V.non) (u := Value.none) J rfl q
  | brk =>
    obtain ⟨_, _, _, q⟩ := hs
    exact False.elim q
  | cont =>
    obtain ⟨_, _, _, q⟩ := hs
    exact False.elim q
end
end SupX

set_option maxRecDepth 100000
set_option maxHeartbeats 4000000
/-! my layer over the hand layer: the rules that speak of the written part, with the part K told (they go within a comprehension's block, too) -/
namespace Ly
open PySem PySem.Spec PyProof.Rows L2
section
variable {X : Cx}
theorem ix_listK (K : PySem.W.Frag) (hK : X.K = K := by rfl) : IxR X (rIxL K) := hK ▸ ix_list
theorem ix_tupK (K : PySem.W.Frag) (hK : X.K = K := by rfl) : IxR X (rIxT K) := hK ▸ ix_tup
theorem ix_kdictK (K : PySem.W.Frag) (w : World) (hK : X.K = K := by rfl) (hw : X.w = w := by rfl) : IxR X (rIxD K w) := hK ▸ hw ▸ ix_kdict
theorem op_in_seqK (K : PySem.W.Frag) (hK : X.K = K := by rfl) : OpR X (compareOp .In) (rIn K false) := hK ▸ op_in_seq
theorem op_notIn_seqK (K : PySem.W.Frag) (hK : X.K = K := by rfl) : OpR X (compareOp .NotIn) (rIn K true) := hK ▸ op_notIn_seq
theorem op_eqDK (K : PySem.W.Frag) (hu : X.A.units + 64 < cLine) (hK : X.K = K := by rfl) : OpR X (compareOp .Eq) (rEqD K) := hK ▸ op_eqD hu
theorem op_neDK (K : PySem.W.Frag) (hu : X.A.units + 64 < cLine) (hK : X.K = K := by rfl) : OpR X (compareOp .NotEq) (rNeD K) := hK ▸ op_neD hu
def rLenQ (K : PySem.W.Frag) : List V → Hp → VK → Prop := fun xs H Q => ∃ p ys, xs = [.ref p] ∧ (SqL K H p ys ∨ SqT K H p ys) ∧ Q (.int ys.length) H
theorem call_lenK (K : PySem.W.Frag) (hK : X.K = K := by rfl) : CallR X (.builtin "len") (rLenQ K) := hK ▸ call_len_seq
def rTupOf (K : PySem.W.Frag) : List V → Hp → VK → Prop := fun xs H Q => ∃ p ys, xs = [.ref p] ∧ ((SqL K H p ys ∧ ∀ l, H l = none → Q (.ref l) (upd H l (.tup ys))) ∨ (SqT K H p ys ∧ Q (.ref p) H))
theorem call_tupleK (K : PySem.W.Frag) (hK : X.K = K := by rfl) : CallR X (.type "tuple") (rTupOf K) := hK ▸ call_tuple_of
theorem call_isiK (K : PySem.W.Frag) (hK : X.K = K := by rfl) : CallR X (.builtin "isinstance") (rIsi K) := hK ▸ call_isi
theorem pe_fldK (K : PySem.W.Frag) {e : Expr} {f : Str} {pos : Pos} {ta : TE} (he : PE X e ta) (hb : attributeBase e f X.env (eval e X.env) = eval e X.env) (hK : X.K = K := by rfl) : PE X (.Attribute e f pos) (tFld K ta f) := hK ▸ pe_fld he hb
theorem sl_listK (K : PySem.W.Frag) (hK : X.K = K := by rfl) : SlR X (rSlL K) := hK ▸ sl_list
theorem pi_listK (K : PySem.W.Frag) {tg e : Expr} {te : TE} (he : PE X e te) (hK : X.K = K := by rfl) : PI X tg e (iList K te) := hK ▸ pi_list he
theorem pi_tupK (K : PySem.W.Frag) {tg e : Expr} {te : TE} (he : PE X e te) (hK : X.K = K := by rfl) : PI X tg e (iTup K te) := hK ▸ pi_tup he
theorem ps_fldK (K : PySem.W.Frag) {o value : Expr} {f : Str} {pos pos' : Pos} {ta tv : TE} (ha : PE X o ta) (hv : PE X value tv) (hs : swapsWith value (some (.Attribute o f pos')) pos.line X.env = pure false) (hK : X.K = K := by rfl) : PS X (.Assign [.Attribute o f pos'] value pos) (sFld K ta tv f) := hK ▸ ps_fld ha hv hs
end
/-- cls(e, ..), cls a name that holds the class -/
def tMakeV (C : Addr) (sp : Sp) (dvs : List V) (E : XK) (tf : TE) (t : TA) : TE := fun σ H Q => tf σ H fun v H1 => v = .ref C ∧ tMake C sp dvs E t σ H1 Q
theorem pe_makeV {X : Cx} {CX : CXT} {k : Nat} {f C : Addr} {fd : FuncData} {ps : List Str} {sp : Sp} {dvs : List V} {ds : List Value} {E : XK} {x : Str} {p pos : Pos} {e : Expr} {es : List Expr} {t : TA} {tf : TE} (M : Mk X.K C f) (F : FnOk X.prog X.w X.K X.mg X.base CX k f fd ps sp) (hr : Room (k + 1) X.A)
    (hv : PE X (.Name x p) tf) (hb : Binds X.K fd ps ds) (hd : Vals dvs ds) (hx : Passes CX X E)
    (ha : PA X (e :: es) t) (he : starEach (e :: es) X.env = (false, eval e X.env) :: starEach es X.env := by rfl) (hpl : (backTo pos (starEach es X.env)).any (·.1) = false := by rfl) :
    PE X (.Call (.Name x p) (e :: es) [] pos) (tMakeV C sp dvs E tf t) := by
  refine ⟨fun pins s σ H Q I h => ?_⟩
  refine wpAny_Call_Name_kw (thn (hv.run pins s σ H _ I h) fun u s0 ⟨v, H0, I0, rv, ev, h0⟩ => ?_)
  subst ev
  obtain rfl : u = Value.ref C := rv
  refine PySem.W.callWith_K (h₀ := X.base) I.ok.mod.kin M.kp (thn (ha.run pos pins s0 σ H0 _ I0 h0) fun us s1 ⟨vs, H1, I1, r, q⟩ => ⟨I1.kIn, ?_⟩) he hpl
  exact run_make M F hr hb hd hx I1 r q
/-! ### small lemmas -/
theorem szl {n : Nat} (h : n ≤ 100000) : n ≤ sizeLine := Nat.le_trans h (by decide)
theorem szt {n : Nat} (h : n < 100000) : n < sizeLine := Nat.lt_of_lt_of_le h (by decide)
theorem asg {te : TE} {g : TG} {D : Ends} {σ : L2.St} {H : Hp} (R : V → Hp → Prop) (hi : ∀ Q' : VK, (∀ v H1, R v H1 → Q' v H1) → te σ H Q') (h : ∀ v H1, R v H1 → g v σ H1 D.nx) : tAsg te g D σ H := hi _ h
theorem retC {te : TE} {D : Ends} {σ : L2.St} {H : Hp} (R : V → Hp → Prop) (hi : ∀ Q' : VK, (∀ v H1, R v H1 → Q' v H1) → te σ H Q') (h : ∀ v H1, R v H1 → D.rt v H1) : tRet te D σ H := hi _ h
/-- a guard whose test never holds -/
theorem guardF {c : TT} {t rest : TS} {D : Ends} {σ : L2.St} {H : Hp} (R : Hp → Prop) (hc : ∀ Q' : Bool → Hp → Prop, (∀ H', R H' → Q' false H') → c σ H Q') (h : ∀ H', R H' → rest D σ H') : tSeq (tIfS c t tNext) rest D σ H := hc _ fun H' r => iteF (h H' r)
theorem same_new {H : Hp} {p : Addr} {o : HO} (h : H p = none) : Same H (upd H p o) := fun b u e => by
  rw [upd_ne (ne_of_none e h)]
  exact e
theorem same_mut {H H' : Hp} {p : Addr} {o : HO} (s : Same H H') (h : H p = none) : Same H (upd H' p o) := fun b u e => by
  rw [upd_ne (ne_of_none e h)]
  exact s b u e
theorem same_sqt {K : PySem.W.Frag} {H H' : Hp} {q : Addr} {xs : List V} (s : Same H H') (h : SqT K H q xs) : SqT K H' q xs := by
  rcases h with (h | ⟨ob, h⟩) | h
  · exact .inl (.inl (s _ _ h))
  · exact .inl (.inr ⟨ob, s _ _ h⟩)
  · exact .inr h
theorem same_sql {K : PySem.W.Frag} {H H' : Hp} {q : Addr} {xs : List V} (s : Same H H') (h : SqL K H q xs) : SqL K H' q xs := s.seq h
theorem sql_upd {K : PySem.W.Frag} {H : Hp} {p q : Addr} {o : HO} {xs : List V} (h : SqL K H q xs) (ne : q ≠ p) : SqL K (upd H p o) q xs := by
  rcases h with (h | ⟨ob, h⟩) | h
  · exact .inl (.inl (by rw [upd_ne ne]; exact h))
  · exact .inl (.inr ⟨ob, by rw [upd_ne ne]; exact h⟩)
  · exact .inr h
theorem sqt_upd {K : PySem.W.Frag} {H : Hp} {p q : Addr} {o u : HO} {xs : List V} (h : SqT K H q xs) (hp : H p = some o) (ho : ∀ xs, o ≠ .tup xs) (hf : ∀ ob xs, o ≠ .frz ob xs) : SqT K (upd H p u) q xs := by
  rcases h with (h | ⟨ob, h⟩) | h
  · have ne : q ≠ p := ne_of h hp (Ne.symm (ho _))
    exact .inl (.inl (by rw [upd_ne ne]; exact h))
  · have ne : q ≠ p := ne_of h hp (Ne.symm (hf _ _))
    exact .inl (.inr ⟨ob, by rw [upd_ne ne]; exact h⟩)
  · exact .inr h
theorem dstr {a b : Str} : (decide (V.str a = V.str b) = true) = (a = b) := by simp
theorem dint {a b : Int} : (decide (V.int a = V.int b) = true) = (a = b) := by simp
theorem iteNF {a b : V} {A B : Prop} (h : a = b) (q : B) : if (!decide (a = b)) = true then A else B := by
  rw [decide_eq_true h]
  exact iteF q
theorem iteNT {a b : V} {A B : Prop} (h : ¬ a = b) (q : A) : if (!decide (a = b)) = true then A else B := by
  rw [decide_eq_false h]
  exact iteT q
theorem iteDT {a b : V} {A B : Prop} (h : a = b) (q : A) : if decide (a = b) = true then A else B := by
  rw [decide_eq_true h]
  exact iteT q
theorem iteDF {a b : V} {A B : Prop} (h : ¬ a = b) (q : B) : if decide (a = b) = true then A else B := by
  rw [decide_eq_false h]
  exact iteF q
/-- the items of a written tuple -/
theorem sqt_K {K : PySem.W.Frag} {a : Addr} {c : Option Addr} {its : Array Value} {n : Nat} {sl : Array (Option Value)} {xs : List V} (l : K.lookup a = some ⟨.type "tuple", c, .seq its n, sl⟩) (hz : its.size ≤ sizeLine) (r : Vals xs its.toList) : ∀ H, SqT K H a xs := fun _ =>
  .inr ⟨_, its, n, l, rfl, rfl, hz, r⟩
end Ly

set_option maxRecDepth 100000
set_option maxHeartbeats 4000000
/-! promises that hold where no repr is under way (FnG): repr of data is its text there; str of an own object -/
namespace Ly
open PySem PySem.Spec PyProof.Rows L2
abbrev Idle (A : Around) : Prop := A.guards = some []
structure FnG (P : Program) (w : World) (K : PySem.W.Frag) (mg : Str → Option Value) (base : Heap) (CX : CXT) (k : Nat) (f : Addr) (fd : FuncData) (ps : List Str) (sp : Sp) : Prop where
  len : ∀ vs H Q E, sp vs H Q E → vs.length = ps.length
  run : ∀ (A : Around) (outer : List Env) (s : Shared) (H : Hp) (args : Args) (us : List Value) (vs : List V) (Q : VK) (E : XK), Idle A → Room k A → Env0 P w K mg base A outer s H → BindsTo s fd args (ps.zip us) → Vals vs us → sp vs H Q E →
    codeAny (model P w) A (.call (.ref f) args) (CR CX outer P w H s Q E) s
section
variable {P : Program} {w : World} {K : PySem.W.Frag} {mg : Str → Option Value} {base : Heap} {CX : CXT}
theorem FnG.of {k : Nat} {f : Addr} {fd : FuncData} {ps : List Str} {sp : Sp} (F : FnOk P w K mg base CX k f fd ps sp) : FnG P w K mg base CX k f fd ps sp :=
  ⟨F.len, fun A outer s H args us vs Q E _ hr => F.run A outer s H args us vs Q E hr⟩
theorem FnG.mono {j k : Nat} {f : Addr} {fd : FuncData} {ps : List Str} {sp : Sp} (F : FnG P w K mg base CX j f fd ps sp) (h : j ≤ k) : FnG P w K mg base CX k f fd ps sp :=
  ⟨F.len, fun A outer s H args us vs Q E hg hr => F.run A outer s H args us vs Q E hg (hr.mono h)⟩
/-- a def by its body -/
theorem fnG_of {k : Nat} {f : Addr} {name qual : Str} {params : Arguments} {body : List Stmt} {scope : Scope} {dV kV doc pm cdv ct oc : Value} {an od : Option Addr} {osl : Array (Option Value)} {N ps : List Str} {sp : Sp}
    (lk : K.lookup f = some ⟨oc, od, .func (PySem.W.fnOf name qual params body scope dV kV doc pm an cdv ct), osl⟩) (hcd : PySem.W.codeIn K cdv qual = true) (S : FnScope N ps scope)
    (len : ∀ vs H Q E, sp vs H Q E → vs.length = ps.length)
    (hbody : ∀ (A : Around) (outer : List Env) (s : Shared) (H : Hp) (vs : List V) (Q : VK) (E : XK), Idle (A.deeper (envOfC qual scope s.heap.objs.size f cdv)) → Room k (A.deeper (envOfC qual scope s.heap.objs.size f cdv)) → sp vs H Q E →
      ∃ t, PSs (cxOf CX P w K mg base N qual scope f cdv A outer s H E) body t ∧ t { nx := fun _ H' => Q .non H', rt := Q } (L2.start N vs) H) :
    FnG P w K mg base CX (k + 1) f (PySem.W.fnOf name qual params body scope dV kV doc pm an cdv ct) ps sp := by
  refine ⟨len, fun A outer s H args us vs Q E hg hr e0 hb r hsp => ?_⟩
  have KX : K.In s.heap := e0.mod.kin.keeps fun b o e => (e0.bs b o e).1
  refine codeAny_call_function hr.depth (KX _ _ lk) rfl S.co S.gen rfl (PySem.W.codeRec_of KX hcd) (hb _ _ _ _ ?_)
  have hkind : ∀ y ∈ ps.zip us, scope.names.lookup y.1 = some .local ∨ (scope.names.lookup y.1 = some .cell ∧ ((cellsFrom (s.heap.objs.size + 1) scope.names []).lookup y.1).isSome = true) := fun y hy =>
    (S.par y.1 (List.of_mem_zip (a := y.1) (b := y.2) hy).1).elim .inl fun q => .inr ⟨q, PySem.W.cellsFrom_some _ _ _ (.inl q)⟩
  refine wpAny_newFunctionEnv_cells S.kind hkind fun env he s1 x => ?_
  subst he
  refine ⟨(e0.mod.nolimit.keeps fun b o e => (e0.bs b o e).1).keeps x.toInCall.keep, codeAny_func ?_⟩
  obtain ⟨t, ht, hq⟩ := hbody A outer s H vs Q E hg (hr.deeper _) hsp
  refine wpAny_mono (ht.run [] s1 (L2.start N vs) H _ (inv_start S hr.hd e0 (len _ _ _ _ hsp) r x) hq) (fun fl s' hs => ?_) fun e s' hs => hs
  match fl, hs with
  | .ret u, ⟨v, σ', H', J, rv, q⟩ => exact ⟨v, H', J.os, J.bare, J.base, J.hok, rv, q⟩
  | .next, ⟨σ', H', J, q⟩ => exact ⟨V.non, H', J.os, J.bare, J.base, J.hok, rfl, q⟩
  | .brk, ⟨_, _, _, q⟩ => exact q.elim
  | .cont, ⟨_, _, _, q⟩ => exact q.elim
theorem Fun.okG {x qual : Str} {st : Stmt} {f : Addr} {fd : FuncData} {N ps : List Str} {k : Nat} {sp : Sp} (F : Fun K x qual st f fd) (S : FnScope N ps (defScope st)) (len : ∀ vs H Q E, sp vs H Q E → vs.length = ps.length)
    (hbody : ∀ (cdv : Value) (A : Around) (outer : List Env) (s : Shared) (H : Hp) (vs : List V) (Q : VK) (E : XK), Idle (A.deeper (envOfC qual (defScope st) s.heap.objs.size f cdv)) → Room k (A.deeper (envOfC qual (defScope st) s.heap.objs.size f cdv)) → sp vs H Q E →
      ∃ t, PSs (cxOf CX0 P w K mg base N qual (defScope st) f cdv A outer s H E).nox (defBody st) t ∧ t { nx := fun _ H' => Q .non H', rt := Q } (L2.start N vs) H) : FnG P w K mg base CX0 (k + 1) f fd ps sp := by
  obtain ⟨oc, od, kV, doc, pm, an, cdv, ct, osl, rfl, lk, hcd⟩ := F.ex
  exact fnG_of lk hcd S len fun A outer s H vs Q E hg hr hsp => let ⟨t, h, q⟩ := hbody cdv A outer s H vs Q E hg hr hsp; ⟨t, h.nox, q⟩
end
section
variable {X : Cx} {CX : CXT} {k : Nat} {f : Addr} {fd : FuncData} {ps : List Str} {sp : Sp} {dvs : List V} {ds : List Value} {E : XK} {x : Str} {p pos : Pos} {e : Expr} {es : List Expr} {t : TA}
theorem run_fnG {pins : List (Addr × Obj)} {σ : L2.St} {H : Hp} {s : Shared} {Q : VK} {us : List Value} {vs : List V} (hg : Idle X.A) (F : FnG X.prog X.w X.K X.mg X.base CX k f fd ps sp) (hr : Room k X.A) (hb : Binds X.K fd ps ds) (hd : Vals dvs ds) (hx : Passes CX X E)
    (I : Inv X pins σ H s) (r : Vals vs us) (h : sp (vs ++ dvs) H Q E) : wpAny (model X.prog X.w) X.A (call (.ref f) us) (EP X pins σ Q) X.xe s := by
  have r2 := r.append hd
  refine wpAny_call (codeAny_mono (F.run X.A X.stack s H ⟨us, []⟩ (us ++ ds) (vs ++ dvs) Q E hg hr I.env0 (hb s us I.kIn (by rw [← r2.length]; exact F.len _ _ _ _ h)) r2 h) fun r s' hq => ?_)
  match r, hq with
  | .error e, hq => exact hx pins σ H s e s' I hq
  | .ok (.ret u), hq => exact I.after hq
  | .ok .next, hq => exact hq.elim
  | .ok .brk, hq => exact hq.elim
  | .ok .cont, hq => exact hq.elim
/-- f(e, ..), no repr under way -/
theorem pe_callG (hg : Idle X.A) (F : FnG X.prog X.w X.K X.mg X.base CX k f fd ps sp) (hr : Room k X.A) (hgl : Gl X x) (hm : X.mg x = some (.ref f)) (hk : PySem.W.keepIn X.K (.ref f) = true) (hb : Binds X.K fd ps ds) (hd : Vals dvs ds) (hx : Passes CX X E)
    (ha : PA X (e :: es) t) (hdb : (x == ("__debug__" : Str)) = false := by decide) (he : starEach (e :: es) X.env = (false, eval e X.env) :: starEach es X.env := by rfl) (hpl : (backTo pos (starEach es X.env)).any (·.1) = false := by rfl) :
    PE X (.Call (.Name x p) (e :: es) [] pos) (tCall sp dvs E t) :=
  ⟨fun pins s σ H Q I h => wpAny_Call_Name_kw (ld_glob I hgl hm (PySem.W.callWith_K (h₀ := X.base) I.ok.mod.kin hk (thn (ha.run pos pins s σ H _ I h) fun us s1 ⟨vs, H1, I1, r, q⟩ => ⟨I1.kIn, run_fnG hg F hr hb hd hx I1 r q⟩) he hpl) hdb)⟩

/-! ### repr of data -/
def rRepr (K : PySem.W.Frag) : List V → Hp → VK → Prop := fun xs H Q => ∃ a d, xs = [.ref a] ∧ Dp K H (.ref a) d ∧ d.showable = true ∧ d.hasDict = false ∧ d.depth ≤ 60 ∧ d.shown.length ≤ sizeLine ∧ Q (.str d.shown) H
theorem call_repr (K : PySem.W.Frag) (hg : Idle X.A) (hu : X.A.units + 64 < cLine) (hK : X.K = K := by rfl) : CallR X (.builtin "repr") (rRepr K) := by
  subst hK
  intro pins s σ H xs us Q I r h
  obtain ⟨a, d, rfl, hd, hs, hn, hdp, hz, q⟩ := h
  obtain ⟨u, rfl, ru⟩ := vals1 r
  obtain rfl : u = Value.ref a := ru
  obtain ⟨as, rd⟩ := Dp.reads I d (.ref a) (.ref a) hd rfl
  exact repr_of_reads' rd hs (fun z => by rw [hn] at z; cases z) hg (by omega) (fun _ _ e => e) (fun h' u tk k => ⟨.str d.shown, H, I.kept k, ⟨u, rfl⟩, q⟩) hz

/-! ### str of an own object, by its __str__ -/
def rStrOwn (K : PySem.W.Frag) (C : Addr) (sp : Sp) (E : XK) : List V → Hp → VK → Prop := fun xs H Q => ∃ a dx fs, xs = [.ref a] ∧ H a = some (.ins C dx fs) ∧ sp [.ref a] H (fun v H' => ∃ y, v = .str y ∧ Q v H') E
theorem call_strOwn (K : PySem.W.Frag) {C g : Addr} {k : Nat} {fd : FuncData} {ps : List Str} {sp : Sp} {E : XK} (c : Cls K C) (m : Meth K C "__str__" g) (F : FnOk X.prog X.w X.K X.mg X.base CX0 k g fd ps sp) (hr : Room (k + 2) X.A) (hb : Binds X.K fd ps []) (hx : Passes CX0 X E) (hK : X.K = K := by rfl) :
    CallR X (.type "str") (rStrOwn K C sp E) := by
  subst hK
  intro pins s σ H xs us Q I r h
  obtain ⟨a, dx, fs, rfl, ha, q⟩ := h
  obtain ⟨u, rfl, ru⟩ := vals1 r
  obtain rfl : u = Value.ref a := ru
  obtain ⟨mA, O, _⟩ := ins_get I.hok ha
  obtain ⟨od, J, _⟩ := O.look
  refine PySem.W.kso_call (by have := hr.un; show X.A.units + 1 + 1 < cLine; omega) I.kIn J m.at_ m.fn ?_
  have hl : ([Value.ref a] ++ []).length = ps.length := by
    have z := F.len _ _ _ _ q
    simpa using z
  have rv0 : Vals [V.ref a] ([Value.ref a] ++ []) := Paired.cons (show RelV (V.ref a) (Value.ref a) from rfl) Paired.nil
  refine wpAny_call (codeAny_mono (F.run X.A.in1.in1 X.stack s H ⟨[.ref a], []⟩ ([Value.ref a] ++ []) [V.ref a] _ E (hr.in1.in1) I.env0.in1.in1 (hb s [.ref a] I.kIn hl) rv0 q) fun r s' hq => ?_)
  match r, hq with
  | .error e, hq => exact hx pins σ H s e s' I hq
  | .ok (.ret u), hq =>
    obtain ⟨v, H', I4, rv, y, rfl, q4⟩ := I.after hq
    obtain ⟨t, rfl⟩ := rv
    exact ⟨.str y, H', I4, ⟨t, rfl⟩, q4⟩
  | .ok .next, hq => exact hq.elim
  | .ok .brk, hq => exact hq.elim
  | .ok .cont, hq => exact hq.elim
end
end Ly

set_option maxRecDepth 100000
set_option maxHeartbeats 4000000
/-! the law's entry for a promise that holds where no repr is under way -/
namespace Ly
open PySem PySem.Spec PyProof.Rows L2
section
variable {P : Program} {w : World} {K : PySem.W.Frag} {mg mb : Str → Option Value} {k : Nat} {fa a : Addr} {fd : FuncData} {x : Str} {sp : Sp} {s : Shared} {vs : List Value} {ns : List Int}
/-- from an abstract heap H that tracks the script at most, locked -/
theorem entryG (KX : K.In s.heap) (hns : s.heap.Ns mainGlobals mg) (hb : s.heap.Ns builtinsNs mb) (hbb : ∀ x : Str, x ≠ "__name__" → mb x = bootBuiltins x) (hlim : s.heap.NoLimit) (hg : s.gens = #[])
    (ha : s.heap.get? a = some { cls := .type "list", data := .seq vs.toArray }) (hr : Room k callerA)
    (F : ∀ base : Heap, K.In base → base.Ns mainGlobals mg → FnG P w K mg base CX0 k fa fd [x] sp) (hbind : ∀ (s : Shared) (u : Value), BindsTo s fd ⟨[u], []⟩ [(x, u)])
    (H : Hp) (hsp : sp [.ref a] H (fun v _ => v = .bl true) fun _ _ _ => False) (hok : HOk P w H s.heap) (only : ∀ b u, H b = some u → b = a ∧ K.lookup a = none ∧ ∃ o xs, u = .frz o (.lst xs)) :
    codeAny (model P w) callerA (.call (.ref fa) ⟨[.ref a], []⟩) (fun r s' => r = .ok (.ret (.bool true)) ∧ OldK s.heap s'.heap ∧ s'.os = s.os ∧ AllBare s'.gens) s := by
  have free : ∀ b, (b ≠ a ∨ K.lookup a ≠ none) → H b = none := fun b hb => by
    cases q : H b with
    | none => rfl
    | some u =>
      obtain ⟨e, l, _⟩ := only b u q
      rcases hb with z | z
      · exact absurd e z
      · exact absurd l z
  have plain : ∀ {b : Addr} {o : Obj} {es : Array DictEntry} {ep : Nat}, s.heap.get? b = some o → o.data = .dict es ep → H b = none := fun {b o es ep} e d => free b (.inl fun z => by
    rw [z, ha] at e
    cases e
    cases d)
  have nsK : ∀ {b : Addr} {m : Str → Option Value}, s.heap.Ns b m → (hidT s.heap H).Ns b m := fun {b m} ⟨o, es, ep, e, d, r⟩ => ⟨o, es, ep, hidT_get e (plain e d), d, r⟩
  have hKb : K.In (hidT s.heap H) := fun b o e => hidT_get (KX b o e) (by
    by_cases hb : b = a
    · exact free b (.inr (by rw [← hb, e]; simp))
    · exact free b (.inl hb))
  obtain ⟨mc, l1, l2⟩ := hlim
  have e0 : Env0 P w K mg (hidT s.heap H) callerA [] s H :=
    ⟨rfl, ⟨hKb, nsK hns, ⟨mb, nsK hb, hbb⟩, ⟨mc, nsK l1, l2⟩⟩, fun b o e => of_hidT e, Nat.le_of_eq (hidT_size _ _), trivial, fun b hb => absurd (show b ∈ ([] : List Addr) from hb) (by simp), hok, .of_eq hg⟩
  refine codeAny_mono ((F _ hKb (nsK hns)).run callerA [] s H ⟨[.ref a], []⟩ [.ref a] [.ref a] _ _ rfl hr e0 (hbind s (.ref a)) (.cons rfl .nil) hsp) fun r s' h => ?_
  match r, h with
  | .error e, h => exact h.elim
  | .ok .next, h => exact h.elim
  | .ok .brk, h => exact h.elim
  | .ok .cont, h => exact h.elim
  | .ok (.ret u), ⟨v, H', os, bare, un, hok', rv, q⟩ =>
    have q' : v = .bl true := q
    subst q'
    obtain rfl : u = Value.bool true := rv
    refine ⟨rfl, OldK.of_keep fun b o e => ?_, os, bare⟩
    cases q : H b with
    | none => exact un.keep b o e q (fun z => absurd (show b ∈ ([] : List Addr) from z) (by simp)) (by simp)
    | some u =>
      obtain ⟨_, _, ob, xs, rfl⟩ := only b u q
      have h1 := (hok b _ q).1
      have h2 := (hok' b _ (un.frzs b ob _ q)).1
      rw [e] at h1
      cases h1
      exact h2
theorem lawG (KX : K.In s.heap) (hns : s.heap.Ns mainGlobals mg) (hb : s.heap.Ns builtinsNs mb) (hbb : ∀ x : Str, x ≠ "__name__" → mb x = bootBuiltins x) (hlim : s.heap.NoLimit) (hg : s.gens = #[])
    (ha : s.heap.get? a = some { cls := .type "list", data := .seq vs.toArray }) (hi : IntsAre vs ns) (hl : ns.length ≤ sizeLine) (hr : Room k callerA)
    (F : ∀ base : Heap, K.In base → base.Ns mainGlobals mg → FnG P w K mg base CX0 k fa fd [x] sp) (hbind : ∀ (s : Shared) (u : Value), BindsTo s fd ⟨[u], []⟩ [(x, u)])
    (hsp : ∀ H : Hp, SqL K H a (ns.map V.int) → sp [.ref a] H (fun v _ => v = .bl true) fun _ _ _ => False) :
    codeAny (model P w) callerA (.call (.ref fa) ⟨[.ref a], []⟩) (fun r s' => r = .ok (.ret (.bool true)) ∧ OldK s.heap s'.heap ∧ s'.os = s.os ∧ AllBare s'.gens) s := by
  have rv := vals_ints hi
  have lenV := hi.length
  cases hk : K.lookup a with
  | some o =>
    have e := KX a o hk
    rw [ha] at e
    cases e
    refine entryG KX hns hb hbb hlim hg ha hr F hbind (fun _ => none) (hsp _ (.inr ⟨_, vs.toArray, _, hk, rfl, rfl, rfl, by rw [List.size_toArray, lenV]; exact hl, by simpa using rv⟩)) (fun b u z => ?_) fun b u z => ?_
    · have z' : (none : Option HO) = some u := z
      cases z'
    · have z' : (none : Option HO) = some u := z
      cases z'
  | none =>
    have at_ : ∀ {b : Addr} {u : HO}, (if b = a then some (HO.frz { cls := .type "list", data := .seq vs.toArray } (.lst (ns.map V.int))) else none) = some u → b = a ∧ u = HO.frz { cls := .type "list", data := .seq vs.toArray } (.lst (ns.map V.int)) := fun {b u} z => by
      by_cases h : b = a
      · rw [if_pos h] at z
        exact ⟨h, (Option.some.inj z).symm⟩
      · rw [if_neg h] at z
        cases z
    refine entryG KX hns hb hbb hlim hg ha hr F hbind (fun b => if b = a then some (HO.frz { cls := .type "list", data := .seq vs.toArray } (.lst (ns.map V.int))) else none) (hsp _ (.inl (.inr ⟨_, if_pos rfl⟩))) (fun b u z => ?_) fun b u z => ?_
    · obtain ⟨rfl, rfl⟩ := at_ z
      exact ⟨ha, by rw [List.length_map]; exact hl, vs, _, rv, ha⟩
    · obtain ⟨e, rfl⟩ := at_ z
      exact ⟨e, hk, _, _, rfl⟩
end
theorem walk_ofG {l : PySem.W.OpenLaw} {n k : Nat} {q : Program} {loose : List Str} {XP : (Str → Option Value) → Heap → Prop} {YP : World → Heap → Prop} {d : DefRec} {K : Params → PySem.W.Frag} {sp : World → Sp} {x : Str}
    (hn : l.most = some n) (hn2 : n ≤ sizeLine) (hdf : d.params.defaults = []) (hr : Room k callerA) (hY : ∀ (w : World) (h : Heap), YP w h → (K w.params).In h)
    (F : ∀ (w : World) (mg : Str → Option Value) (fa : Addr) (h : Heap), (K w.params).In h → h.Ns mainGlobals mg → mg d.name = some (.ref fa) →
      ∃ fd : FuncData, (∀ (s : Shared) (u : Value), BindsTo s fd ⟨[u], []⟩ [(x, u)]) ∧ ∀ base : Heap, (K w.params).In base → base.Ns mainGlobals mg → FnG l.prog w (K w.params) mg base CX0 k fa fd [x] (sp w))
    (hsp : ∀ (w : World) (H : Hp) (a : Addr) (ns : List Int), ns.length ≤ n → SqL (K w.params) H a (ns.map V.int) → sp w [.ref a] H (fun v _ => v = .bl true) fun _ _ _ => False) :
    PySem.W.WalkO q loose XP YP l.row.toRowW d [] (fun f vs => PySem.call f vs) := by
  refine Att.attach_call hn hdf fun w s₀ s₁ mg mb fa o pm cd doc a vs ns G Y ho hd hcd hmg hobj hints hlen hg => ?_
  obtain ⟨fd, hb, hF⟩ := F w mg fa _ (hY w _ Y) G.T.g hmg
  exact lawG (hY w _ Y) G.T.g G.T.b G.T.builtins G.T.nolimit hg hobj hints (Nat.le_trans hlen hn2) hr hF hb fun H hS => hsp w H a ns hlen hS
end Ly

set_option maxRecDepth 100000
set_option maxHeartbeats 4000000
/-! the primitives' mathematics: numbers, ports, attributes -/
namespace Ly
open PySem PySem.Spec PyProof.Rows L2
/-! ### the value that a word writes -/
def isDig (c : Nat) : Bool := decide (48 ≤ c) && decide (c ≤ 57)
theorem dig_in (c : Nat) : decide (c ∈ (("0123456789" : Str)).cps.toList) = isDig c := by
  have e : (("0123456789" : Str)).cps.toList = [48, 49, 50, 51, 52, 53, 54, 55, 56, 57] := by decide +kernel
  rw [e]
  unfold isDig
  by_cases h : 48 ≤ c ∧ c ≤ 57
  · obtain ⟨h1, h2⟩ := h
    rw [decide_eq_true h1, decide_eq_true h2]
    refine decide_eq_true ?_
    simp only [List.mem_cons, List.not_mem_nil, or_false]
    omega
  · have n : ¬ (c ∈ [48, 49, 50, 51, 52, 53, 54, 55, 56, 57]) := by
      simp only [List.mem_cons, List.not_mem_nil, or_false]
      omega
    rw [decide_eq_false n]
    by_cases h1 : 48 ≤ c
    · rw [decide_eq_true h1, decide_eq_false (fun h2 => h ⟨h1, h2⟩)]
      rfl
    · rw [decide_eq_false h1]
      rfl
def numVal (w : Str) : Int := ((NumText.digitsVal w.cps.toList : Nat) : Int)
def numOk (w : Str) : Bool := decide (1 ≤ w.length) && decide (w.length ≤ 10) && w.cps.toList.all isDig && !(decide (w.cps.toList.head? = some 48) && decide (1 < w.length)) && decide (numVal w < 4294967296)
def numOf (w : Str) : Option Int := if numOk w = true then some (numVal w) else none
def optV : Option Int → V
  | none => .non
  | some n => .int n
theorem int_dig {w : Str} (h : w.cps.toList.all isDig = true) (h1 : 1 ≤ w.length) (h2 : w.length ≤ 10) : intText? w = some (numVal w) := by
  have e2 : w.length = w.cps.toList.length := by show w.cps.size = _; simp
  refine intText_digits (fun c hc => ?_) (fun z => ?_) (by omega)
  · have q := List.all_eq_true.mp h c hc
    unfold isDig at q
    simpa using q
  · rw [z] at e2
    simp at e2
    omega
theorem lead_zero {m : Nat} (h : ((Nat.toDigits 10 m).map Char.toNat).head? = some 48) : m = 0 := by
  induction m using Nat.strongRecOn with
  | _ m ih =>
    by_cases hm : m < 10
    · rw [Nat.toDigits_of_lt_base hm] at h
      have e : (Nat.digitChar m).toNat = 48 := by simpa using h
      have k : ∀ d : Nat, d < 10 → (Nat.digitChar d).toNat = 48 → d = 0 := by decide
      exact k m hm e
    · have hd : m % 10 < 10 := Nat.mod_lt m (by decide)
      have t : Nat.toDigits 10 (m / 10) ++ Nat.toDigits 10 (m % 10) = Nat.toDigits 10 (10 * (m / 10) + m % 10) := Nat.toDigits_append_toDigits (by decide) (by omega) hd
      rw [Nat.div_add_mod] at t
      rw [← t, List.map_append] at h
      have hne : (Nat.toDigits 10 (m / 10)).map Char.toNat ≠ [] := fun z => by
        have h2 := PySem.W.KIN.signs_num (m / 10)
        have h3 : (Nat.toDigits 10 (m / 10)) = [] := by simpa using z
        have h4 := toDigits_len_ge 10 (m / 10)
        rw [h3] at h4
        exact absurd h4 (by decide)
      have h' : ((Nat.toDigits 10 (m / 10)).map Char.toNat).head? = some 48 := by
        cases e : (Nat.toDigits 10 (m / 10)).map Char.toNat with
        | nil => exact absurd e hne
        | cons a r => rw [e] at h; simpa using h
      have := ih (m / 10) (by omega) h'
      omega
/-- the text of a value is read as this value -/
theorem numOf_text {n : Int} (h0 : 0 ≤ n) (h1 : n < 4294967296) : numOf (Str.ofString (toString n)) = some n := by
  have hl := PySem.W.KT.len_num h0 (by omega : n < 10 ^ 10)
  have h1l : 1 ≤ (Str.ofString (toString n)).length := PySem.W.KLn.one_le h0
  obtain ⟨m, rfl⟩ := Int.eq_ofNat_of_zero_le h0
  have sg := PySem.W.KIN.signs_num m
  have hall : (Str.ofString (toString ((m : Nat) : Int))).cps.toList.all isDig = true := by
    rw [List.all_eq_true]
    intro c hc
    rw [sg] at hc
    obtain ⟨ch, hch, e⟩ := List.mem_map.mp hc
    have r := PyProof.Rows.digit_range (Nat.isDigit_of_mem_toDigits (by decide) (by decide) hch)
    rw [← e]
    unfold isDig
    simp [r.1, r.2]
  have hv : numVal (Str.ofString (toString ((m : Nat) : Int))) = (m : Int) := by
    unfold numVal
    rw [sg, PySem.W.KIN.val_back]
  have hz : ¬ ((Str.ofString (toString ((m : Nat) : Int))).cps.toList.head? = some 48 ∧ 1 < (Str.ofString (toString ((m : Nat) : Int))).length) := fun ⟨z1, z2⟩ => by
    rw [sg] at z1
    have := lead_zero z1
    subst this
    exact absurd z2 (by decide +kernel)
  unfold numOf numOk
  rw [hv, hall, decide_eq_true h1l, decide_eq_true hl, decide_eq_true h1]
  have e : (!(decide ((Str.ofString (toString ((m : Nat) : Int))).cps.toList.head? = some 48) && decide (1 < (Str.ofString (toString ((m : Nat) : Int))).length))) = true := by
    rw [Bool.not_eq_true', Bool.and_eq_false_iff]
    by_cases z : (Str.ofString (toString ((m : Nat) : Int))).cps.toList.head? = some 48
    · exact .inr (decide_eq_false fun z2 => hz ⟨z, z2⟩)
    · exact .inl (decide_eq_false z)
  rw [e]
  rfl
/-! ### the primitives' ports -/
def portsTab : List (Str × List Str × List Str) := [("const", [], ["out"]), ("add", ["a", "b"], ["out"]), ("sub", ["a", "b"], ["out"]), ("mul", ["a", "b"], ["out"]), ("less", ["a", "b"], ["out"]), ("equal", ["a", "b"], ["out"]),
  ("pick", ["c", "a", "b"], ["out"]), ("divide", ["a", "b"], ["quotient", "rest"]), ("delay", ["in"], ["out"])]
def PortsOf (K : PySem.W.Frag) (w : World) (dP : Addr) (n : Str) (ins outs : List Str) : Prop :=
  ∃ t ti tO, KDct K w dP n (.ref t) ∧ (∀ H, SqT K H t [.ref ti, .ref tO]) ∧ (∀ H, SqT K H ti (ins.map V.str)) ∧ (∀ H, SqT K H tO (outs.map V.str))
/-! ### a block's and a primitive's attributes -/
def fs1 (n : Str) : List (Str × V) := [("name", .str n)]
def fs2 (n : Str) (i : Addr) : List (Str × V) := [("name", .str n), ("inputs", .ref i)]
def fsB (n : Str) (i o : Addr) : List (Str × V) := [("name", .str n), ("inputs", .ref i), ("outputs", .ref o)]
def fs4 (n : Str) (i o : Addr) (c : V) : List (Str × V) := [("name", .str n), ("inputs", .ref i), ("outputs", .ref o), ("constant", c)]
def fsP (n : Str) (i o : Addr) (c : V) (t : Str) : List (Str × V) := [("name", .str n), ("inputs", .ref i), ("outputs", .ref o), ("constant", c), ("text", .str t)]
theorem fsP_name {n i o c t} : (fsP n i o c t).lookup ("name" : Str) = some (.str n) := by kernel_rfl
theorem fsP_inputs {n i o c t} : (fsP n i o c t).lookup ("inputs" : Str) = some (.ref i) := by kernel_rfl
theorem fsP_outputs {n i o c t} : (fsP n i o c t).lookup ("outputs" : Str) = some (.ref o) := by kernel_rfl
theorem fsP_const {n i o c t} : (fsP n i o c t).lookup ("constant" : Str) = some c := by kernel_rfl
theorem fsP_text {n i o c t} : (fsP n i o c t).lookup ("text" : Str) = some (.str t) := by kernel_rfl
theorem fsP_compute {n i o c t} : (fsP n i o c t).lookup ("compute" : Str) = none := by kernel_rfl
theorem fsP_str {n i o c t} : (fsP n i o c t).lookup ("__str__" : Str) = none := by kernel_rfl
theorem fsB_put1 {n : Str} : putF "name" (.str n) [] = fs1 n := by kernel_rfl
theorem fsB_put2 {n : Str} {i : Addr} : putF "inputs" (.ref i) (fs1 n) = fs2 n i := by kernel_rfl
theorem fsB_put3 {n : Str} {i o : Addr} : putF "outputs" (.ref o) (fs2 n i) = fsB n i o := by kernel_rfl
theorem fsP_put1 {n : Str} {i o : Addr} {c : V} : putF "constant" c (fsB n i o) = fs4 n i o c := by kernel_rfl
theorem fsP_put2 {n : Str} {i o : Addr} {c : V} {t : Str} : putF "text" (.str t) (fs4 n i o c) = fsP n i o c t := by kernel_rfl
/-- a primitive at x: its name, its constant, its text -/
def PrimAt (K : PySem.W.Frag) (C : Addr) (H : Hp) (x : Addr) (n : Str) (c : V) (t : Str) : Prop := ∃ dx i o, H x = some (.ins C dx (fsP n i o c t)) ∧ ∃ ins outs, (n, ins, outs) ∈ portsTab ∧ SqT K H i (ins.map V.str) ∧ SqT K H o (outs.map V.str)
theorem same_prim {K : PySem.W.Frag} {H H' : Hp} {C x : Addr} {n t : Str} {c : V} (s : Same H H') (h : PrimAt K C H x n c t) : PrimAt K C H' x n c t := by
  obtain ⟨dx, i, o, hx, ins, outs, hp, hi, ho⟩ := h
  exact ⟨dx, i, o, s _ _ hx, ins, outs, hp, same_sqt s hi, same_sqt s ho⟩
def textOf (n : Str) : Option Int → Str
  | none => n
  | some v => n ++ " " ++ Str.ofString (toString v)
/-! ### texts of primitives -/
def plain7 : List Str := ["add", "sub", "mul", "less", "equal", "pick", "divide"]
def portNames : List Str := ["const", "add", "sub", "mul", "less", "equal", "pick", "divide", "delay"]
def withK (n : Str) : Bool := decide (n = "const") || decide (n = "delay")
def primWords : List Str → Option (Str × Option Int)
  | [n] => if n ∈ plain7 then some (n, none) else none
  | [n, k] => if withK n = true then (numOf k).map fun v => (n, some v) else none
  | _ => none
def primOf (t : Str) : Option (Str × Option Int) := primWords (Txt.split t " ")
theorem names_ports {n : Str} (h : n ∈ portNames) : ∃ ins outs, (n, ins, outs) ∈ portsTab := by
  simp only [portNames, List.mem_cons, List.not_mem_nil, or_false] at h
  rcases h with rfl | rfl | rfl | rfl | rfl | rfl | rfl | rfl | rfl <;>
    first | exact ⟨["a", "b"], ["out"], by decide +kernel⟩ | exact ⟨[], ["out"], by decide +kernel⟩ | exact ⟨["in"], ["out"], by decide +kernel⟩ | exact ⟨["c", "a", "b"], ["out"], by decide +kernel⟩ | exact ⟨["a", "b"], ["quotient", "rest"], by decide +kernel⟩
theorem plain_port {n : Str} (h : n ∈ plain7) : n ∈ portNames := (show ∀ n ∈ plain7, n ∈ portNames by decide +kernel) n h
theorem withK_port {n : Str} (h : withK n = true) : n ∈ portNames := by
  unfold withK at h
  rw [Bool.or_eq_true] at h
  rcases h with h | h
  · rw [of_decide_eq_true h]; decide +kernel
  · rw [of_decide_eq_true h]; decide +kernel
theorem port_plain {n : Str} (h : n ∈ portNames) (h2 : withK n = false) : n ∈ plain7 := by
  have k : ∀ n ∈ portNames, withK n = false → n ∈ plain7 := by decide +kernel
  exact k n h h2
theorem plain_noK {n : Str} (h : n ∈ plain7) : withK n = false := (show ∀ n ∈ plain7, withK n = false by decide +kernel) n h
/-- a key that the table does not have -/
theorem nsIn_none {K : PySem.W.Frag} {w : World} {d : Addr} {es : Array DictEntry} {n : Nat} (D : KDict K w d es n) {l : List (Str × Tok)} (hk : es.toList.map (·.key) = l.map fun p => .str p.1 p.2) {z : Str} (hz : ∀ p ∈ l, p.1 ≠ z) : PySem.W.nsIn K d z = some none := by
  have key : ∀ e ∈ es.toList, ∃ p ∈ l, e.key = .str p.1 p.2 := fun e he => by
    have h1 : e.key ∈ es.toList.map (·.key) := List.mem_map_of_mem he
    rw [hk] at h1
    obtain ⟨p, hp, e2⟩ := List.mem_map.mp h1
    exact ⟨p, hp, e2.symm⟩
  unfold PySem.W.nsIn
  rw [D.at_]
  have h1 : es.toList.find? (fun x => x.key.isStr z) = none := by
    refine List.find?_eq_none.mpr fun e he => ?_
    obtain ⟨p, hp, e2⟩ := key e he
    rw [e2]
    show ¬ (p.1 == z) = true
    have := hz p hp
    simpa using this
  have h2 : es.toList.any (fun x => x.refKey) = false := by
    refine List.any_eq_false.mpr fun e he => ?_
    obtain ⟨p, hp, e2⟩ := key e he
    unfold DictEntry.refKey
    rw [e2]
    simp
  dsimp only
  rw [h1, h2]
  rfl
/-! ### split -/
theorem spl_ne (S : List Nat) : ∀ (l acc : List Nat) (k : Nat), TL.spl S k acc l ≠ []
  | [], acc, k => by rw [TL.spl_nil]; simp
  | c :: r, acc, 0 => by
    unfold TL.spl
    split
    · simp
    · exact spl_ne S r _ 0
  | c :: r, acc, k + 1 => by
    unfold TL.spl
    exact spl_ne S r _ k
theorem spl_len (S : List Nat) : ∀ (l acc : List Nat) (k : Nat), ∀ p ∈ TL.spl S k acc l, p.length ≤ acc.length + l.length
  | [], acc, k => by
    rw [TL.spl_nil]
    intro p hp
    simp only [List.mem_singleton] at hp
    subst hp
    simp
  | c :: r, acc, 0 => by
    intro p hp
    unfold TL.spl at hp
    split at hp
    · rcases List.mem_cons.mp hp with rfl | hp
      · simp
      · have := spl_len S r [] _ p hp
        simp at this ⊢
        omega
    · have := spl_len S r _ 0 p hp
      simp at this ⊢
      omega
  | c :: r, acc, k + 1 => by
    intro p hp
    unfold TL.spl at hp
    have := spl_len S r acc k p hp
    simp at this ⊢
    omega
theorem split_ne {x y : Str} (hy : TL.tl y ≠ []) (hk : y.cps.all (· < 256) = true) : Txt.split x y ≠ [] := fun e => by
  have h := TL.split_spl x y hy (TL.kind_ok hk)
  rw [e] at h
  exact spl_ne _ _ _ _ h.symm
theorem split_lens {x y : Str} (hy : TL.tl y ≠ []) (hk : y.cps.all (· < 256) = true) : ∀ p ∈ Txt.split x y, p.length ≤ x.length := fun p hp => by
  have h := TL.split_spl x y hy (TL.kind_ok hk)
  have h2 : TL.tl p ∈ (Txt.split x y).map TL.tl := List.mem_map_of_mem hp
  rw [h] at h2
  have := spl_len _ _ _ _ _ h2
  rw [TL.len_tl, TL.len_tl]
  simpa using this
theorem sp_ne : TL.tl (" " : Str) ≠ [] := by decide +kernel
theorem sp_k : (" " : Str).cps.all (· < 256) = true := by decide +kernel
theorem split_two {n s : Str} (hn : 32 ∉ TL.tl n) (hs : 32 ∉ TL.tl s) : Txt.split (n ++ " " ++ s) " " = [n, s] := by
  have h := TL.split_join (y := (" " : Str)) (s := 32) (S := []) (by decide +kernel) sp_k (parts := [n, s]) (by simp) (fun p hp => by
    simp only [List.mem_cons, List.not_mem_nil, or_false] at hp
    rcases hp with rfl | rfl
    · exact hn
    · exact hs)
  rw [TL.join_eq] at h
  exact h
theorem split_one {n : Str} (hn : 32 ∉ TL.tl n) : Txt.split n " " = [n] := by
  have h := TL.split_join (y := (" " : Str)) (s := 32) (S := []) (by decide +kernel) sp_k (parts := [n]) (by simp) (fun p hp => by
    simp only [List.mem_cons, List.not_mem_nil, or_false] at hp
    rw [hp]
    exact hn)
  rw [TL.join_eq] at h
  exact h
theorem num_sp (n : Int) : 32 ∉ TL.tl (Str.ofString (toString n)) := fun h => (PyProof.Rows.intText_free_32 n).mp h
theorem primOf_plain {n : Str} (h : n ∈ plain7) : primOf n = some (n, none) := by
  have e : Txt.split n " " = [n] := split_one ((show ∀ n ∈ plain7, 32 ∉ TL.tl n by decide +kernel) n h)
  unfold primOf
  rw [e]
  show (if n ∈ plain7 then some (n, (none : Option Int)) else none) = _
  rw [if_pos h]
theorem primOf_K {n : Str} {v : Int} (h : n = "const" ∨ n = "delay") (h0 : 0 ≤ v) (h1 : v < 4294967296) : primOf (n ++ " " ++ Str.ofString (toString v)) = some (n, some v) := by
  have hn : 32 ∉ TL.tl n := by rcases h with rfl | rfl <;> decide +kernel
  unfold primOf
  rw [split_two hn (num_sp v)]
  show (if withK n = true then (numOf _).map (fun v => (n, some v)) else none) = _
  have hk : withK n = true := by rcases h with rfl | rfl <;> decide +kernel
  rw [if_pos hk, numOf_text h0 h1]
  rfl
end Ly

set_option maxRecDepth 100000
set_option maxHeartbeats 4000000
/-! the primitives' promises and what they compute -/
namespace Ly
open PySem PySem.Spec PyProof.Rows L2
/-! ### draws -/
theorem put01 (a b c : V) : ([a, b] : List V).set 0 c = [c, b] := rfl
def FeedAt (H : Hp) (p : Addr) (a b : Int) : Prop := H p = some (.lst [.int a, .int b]) ∧ 0 ≤ a ∧ 0 ≤ b ∧ b < 2305843009213693951
def spFeed (K : PySem.W.Frag) : Sp := fun vs H Q _ => ∃ (s : Addr) (ns : List Int) (k : Nat), vs = [.ref s, .int k] ∧ SqL K H s (ns.map V.int) ∧ k ≤ 1000 ∧
  ∀ p a b, H p = none → FeedAt (upd H p (.lst [.int a, .int b])) p a b → Q (.ref p) (upd H p (.lst [.int a, .int b]))
/-- a draw: any number below the bound; the feed is another one -/
def spTake : Sp := fun vs H Q _ => ∃ (p : Addr) (many a b : Int), vs = [.ref p, .int many] ∧ FeedAt H p a b ∧ 0 < many ∧ many ≤ 1099511627776 ∧
  ∀ d a' b' : Int, 0 ≤ d → d < many → FeedAt (upd H p (.lst [.int a', .int b'])) p a' b' → Q (.int d) (upd H p (.lst [.int a', .int b']))
def spPick (K : PySem.W.Frag) : Sp := fun vs H Q _ => ∃ (p q : Addr) (xs : List V) (a b : Int), vs = [.ref p, .ref q] ∧ FeedAt H p a b ∧ SqL K H q xs ∧ q ≠ p ∧ 0 < xs.length ∧ xs.length ≤ 1000 ∧
  ∀ (v : V) (a' b' : Int), v ∈ xs → FeedAt (upd H p (.lst [.int a', .int b'])) p a' b' → Q v (upd H p (.lst [.int a', .int b']))
theorem feed_same {H H' : Hp} {p : Addr} {a b : Int} (s : Same H H') (h : FeedAt H p a b) : FeedAt H' p a b := ⟨s _ _ h.1, h.2⟩
/-! ### numbers -/
def spNum : Sp := fun vs H Q _ => ∃ z : Str, vs = [.str z] ∧ z.length ≤ 1000000 ∧ ∀ H', Same H H' → Q (optV (numOf z)) H'
theorem same_lst {H H' : Hp} {p : Addr} {o : HO} (s : Same H H') (h : H p = none) : Same H (upd H' p o) := same_mut s h
theorem str_len_list (w : Str) : w.length = w.cps.toList.length := by show w.cps.size = _; simp
theorem numOf_some {z : Str} (h : numOk z = true) : numOf z = some (numVal z) := by unfold numOf; rw [if_pos h]
theorem numOf_none {z : Str} (h : numOk z = false) : numOf z = none := by unfold numOf; rw [if_neg (by rw [h]; decide)]
theorem numOf_range {z : Str} {v : Int} (h : numOf z = some v) : 0 ≤ v ∧ v < 4294967296 := by
  unfold numOf at h
  split at h
  · rename_i e
    unfold numOk at e
    simp only [Bool.and_eq_true, decide_eq_true_eq] at e
    cases h
    exact ⟨by unfold numVal; omega, e.2⟩
  · cases h
def R32 (z : Int) : Prop := 0 ≤ z ∧ z < 4294967296
theorem r32_log {v : Int} (h : R32 v) : v.natAbs.log2 < 1920 := by
  obtain ⟨h0, h1⟩ := h
  by_cases z : v.natAbs = 0
  · rw [z]; decide
  · have : v.natAbs.log2 < 32 := (Nat.log2_lt z).mpr (by omega)
    omega
def OkC (n : Str) (o : Option Int) : Prop := n ∈ portNames ∧ ∀ v, o = some v → R32 v
theorem primOf_ok {z n : Str} {o : Option Int} (h : primOf z = some (n, o)) : OkC n o := by
  unfold primOf at h
  generalize Txt.split z " " = ws at h
  match ws, h with
  | [m], h =>
    change (if m ∈ plain7 then some (m, (none : Option Int)) else none) = _ at h
    split at h
    · rename_i q
      cases h
      exact ⟨plain_port q, fun v e => by cases e⟩
    · cases h
  | [m, k], h =>
    change (if withK m = true then (numOf k).map (fun v => (m, some v)) else none) = _ at h
    split at h
    · rename_i q
      cases e : numOf k with
      | none => rw [e] at h; cases h
      | some v =>
        rw [e] at h
        cases h
        exact ⟨withK_port q, fun v' e' => by cases e'; exact numOf_range e⟩
    · cases h
  | [], h => cases h
  | _ :: _ :: _ :: _, h => cases h
theorem inV_cd (n : Str) : inV (.str n) [.str "const", .str "delay"] = withK n := by
  have e : ∀ a b : Str, eqV (.str a) (.str b) = decide (b = a) := fun a b => by
    show (a == b) = _
    by_cases h : a = b
    · rw [h]; simp
    · rw [beq_eq_false_iff_ne.mpr h, decide_eq_false (fun q => h q.symm)]
  unfold inV withK
  simp only [List.any_cons, List.any_nil, e, Bool.or_false]
/-! ### the promises -/
def spBI (K : PySem.W.Frag) (C : Addr) : Sp := fun vs H Q _ => ∃ (x dx i o : Addr) (n : Str) (xs ys : List V), vs = [.ref x, .str n, .ref i, .ref o] ∧ H x = some (.ins C dx []) ∧ SqT K H i xs ∧ SqT K H o ys ∧ Q .non (upd H x (.ins C dx (fsB n i o)))
def spPI (K : PySem.W.Frag) (C : Addr) : Sp := fun vs H Q _ => ∃ (x dx : Addr) (n : Str) (c : Option Int), vs = [.ref x, .str n, optV c] ∧ H x = some (.ins C dx []) ∧ OkC n c ∧ ∀ i o, (∃ ins outs, (n, ins, outs) ∈ portsTab ∧ (∀ H, SqT K H i (ins.map V.str)) ∧ ∀ H, SqT K H o (outs.map V.str)) → Q .non (upd H x (.ins C dx (fsP n i o (optV c) (textOf n c))))
def spDead : Sp := fun _ _ _ _ => False
def spIpt : Sp := fun vs H Q _ => ∃ z : Str, vs = [.str z] ∧ z.length ≤ 1000000 ∧ ∀ H', Same H H' → Q (.bl (primOf z).isSome) H'
def spParse (K : PySem.W.Frag) (C : Addr) : Sp := fun vs H Q _ => ∃ (z n : Str) (c : Option Int), vs = [.ref C, .str z] ∧ z.length ≤ 1000000 ∧ primOf z = some (n, c) ∧ ∀ x H', Same H H' → H x = none → PrimAt K C H' x n (optV c) (textOf n c) → Q (.ref x) H'
def names6 : List Str := ["add", "sub", "mul", "less", "equal", "divide"]
def op2 (n : Str) (a b : Int) : List Int :=
  if n = "divide" then (if b = 0 then [0, a] else [a / b, a % b]) else if n = "less" then [if a < b then 1 else 0] else if n = "equal" then [if a = b then 1 else 0]
  else if n = "add" then [(a + b) % 4294967296] else if n = "sub" then [(a - b) % 4294967296] else [(a * b) % 4294967296]
/-- what a primitive computes -/
inductive Comp : Str → V → List Int → List Int → Prop
  | const {v : Int} : Comp "const" (.int v) [] [v]
  | pick {c a b : Int} : Comp "pick" .non [c, a, b] [if c = 0 then b else a]
  | two {n : Str} {a b : Int} : n ∈ names6 → R32 a → R32 b → Comp n .non [a, b] (op2 n a b)
def spComp (K : PySem.W.Frag) (C : Addr) : Sp := fun vs H Q _ => ∃ (x t : Addr) (n z : Str) (c : V) (as bs : List Int), vs = [.ref x, .ref t] ∧ PrimAt K C H x n c z ∧ Comp n c as bs ∧ SqT K H t (as.map V.int) ∧
  ∀ p H', Same H H' → H' p = some (.tup (bs.map V.int)) → Q (.ref p) H'
def spPStr (K : PySem.W.Frag) (C : Addr) : Sp := fun vs H Q _ => ∃ (x : Addr) (n z : Str) (c : V), vs = [.ref x] ∧ PrimAt K C H x n c z ∧ z.length ≤ 100000 ∧ Q (.str z) H
theorem op2_add (a b : Int) : op2 "add" a b = [(a + b) % 4294967296] := by kernel_rfl
theorem op2_sub (a b : Int) : op2 "sub" a b = [(a - b) % 4294967296] := by kernel_rfl
theorem op2_mul (a b : Int) : op2 "mul" a b = [(a * b) % 4294967296] := by kernel_rfl
theorem op2_less (a b : Int) : op2 "less" a b = [if a < b then 1 else 0] := by kernel_rfl
theorem op2_equal (a b : Int) : op2 "equal" a b = [if a = b then 1 else 0] := by kernel_rfl
theorem op2_div (a b : Int) : op2 "divide" a b = if b = 0 then [0, a] else [a / b, a % b] := by kernel_rfl
theorem n6_no {n : Str} (h : n ∈ names6) : ¬ n = "const" ∧ ¬ n = "pick" := by
  simp only [names6, List.mem_cons, List.not_mem_nil, or_false] at h
  rcases h with rfl | rfl | rfl | rfl | rfl | rfl <;> decide +kernel
theorem n6_rest {n : Str} (h : n ∈ names6) (h1 : ¬ n = "divide") (h2 : ¬ n = "less") (h3 : ¬ n = "equal") : n = "add" ∨ n = "sub" ∨ n = "mul" := by
  simp only [names6, List.mem_cons, List.not_mem_nil, or_false] at h
  rcases h with h | h | h | h | h | h
  · exact .inl h
  · exact .inr (.inl h)
  · exact .inr (.inr h)
  · exact absurd h h2
  · exact absurd h h3
  · exact absurd h h1
theorem n6_plain {n : Str} (h : n ∈ names6) : n ∈ plain7 := (show ∀ n ∈ names6, n ∈ plain7 by decide +kernel) n h
end Ly

set_option maxRecDepth 100000
set_option maxHeartbeats 4000000
/-! data whose repr is taken -/
namespace Ly
open PySem PySem.Spec PyProof.Rows L2
/-- data of depth n and weight w at most, short leaves -/
structure Rep (n w : Nat) (d : PyData) : Prop where
  sh : d.showable = true
  nd : d.hasDict = false
  dp : d.depth ≤ n
  lv : d.leavesShort 13 = true
  wt : d.weight ≤ w
structure Reps (n w : Nat) (ds : List PyData) : Prop where
  sh : PyData.showableAll ds = true
  nd : PyData.hasDictAll ds = false
  dp : PyData.depthAll ds ≤ n
  lv : PyData.leavesShortAll 13 ds = true
  wt : PyData.weightAll ds ≤ w
theorem Rep.mono {n w n' w' : Nat} {d : PyData} (h : Rep n w d) (h1 : n ≤ n') (h2 : w ≤ w') : Rep n' w' d := ⟨h.sh, h.nd, Nat.le_trans h.dp h1, h.lv, Nat.le_trans h.wt h2⟩
theorem rep_non {n w : Nat} : Rep n w .none := ⟨rfl, rfl, Nat.zero_le _, rfl, Nat.zero_le _⟩
theorem rep_bool {n w : Nat} {b : Bool} : Rep n w (.bool b) := ⟨rfl, rfl, Nat.zero_le _, rfl, Nat.zero_le _⟩
theorem rep_int {n w : Nat} {i : Int} (h : i.natAbs < 10 ^ 12) (hw : 40 ≤ w) : Rep n w (.int i) := by
  have hl : i.natAbs.log2 < 40 := by
    by_cases z : i.natAbs = 0
    · rw [z]; decide
    · exact (Nat.log2_lt z).mpr (Nat.lt_of_lt_of_le h (by decide))
  refine ⟨decide_eq_true (by omega), rfl, Nat.zero_le _, decide_eq_true (PyData.shown_int_le h), ?_⟩
  show (if i == 0 then 0 else i.natAbs.log2 + 1) ≤ w
  split <;> omega
theorem rep_str {n w : Nat} {x : Str} (h : x.length ≤ w) (hc : x.cps.toList.all (fun c => decide (c < 16 ^ 8)) = true) : Rep n w (.str x) := ⟨rfl, rfl, Nat.zero_le _, hc, h⟩
theorem reps_nil {n w : Nat} : Reps n w [] := ⟨rfl, rfl, Nat.zero_le _, rfl, Nat.zero_le _⟩
theorem reps_cons {n w w1 w2 : Nat} {d : PyData} {ds : List PyData} (h : Rep n w1 d) (hs : Reps n w2 ds) (hw : w1 + 1 + w2 ≤ w) : Reps n w (d :: ds) := by
  refine ⟨?_, ?_, ?_, ?_, ?_⟩
  · simp only [PyData.showableAll, h.sh, hs.sh, Bool.and_self]
  · simp only [PyData.hasDictAll, h.nd, hs.nd, Bool.or_self]
  · simp only [PyData.depthAll]; exact Nat.max_le.mpr ⟨h.dp, hs.dp⟩
  · simp only [PyData.leavesShortAll, h.lv, hs.lv, Bool.and_self]
  · simp only [PyData.weightAll]; have := h.wt; have := hs.wt; omega
theorem reps_all {n w : Nat} : ∀ {ds : List PyData}, (∀ d ∈ ds, Rep n w d) → Reps n ((w + 1) * ds.length) ds
  | [], _ => reps_nil
  | d :: r, h => reps_cons (h d List.mem_cons_self) (reps_all fun x hx => h x (List.mem_cons_of_mem _ hx)) (by rw [List.length_cons, Nat.mul_add]; omega)
theorem Reps.mono {n w n' w' : Nat} {d : List PyData} (h : Reps n w d) (h1 : n ≤ n') (h2 : w ≤ w') : Reps n' w' d := ⟨h.sh, h.nd, Nat.le_trans h.dp h1, h.lv, Nat.le_trans h.wt h2⟩
theorem rep_tup {n w : Nat} {ds : List PyData} (h : Reps n w ds) : Rep (n + 1) w (.tuple ds) := ⟨h.sh, h.nd, Nat.succ_le_succ h.dp, h.lv, h.wt⟩
theorem rep_lst {n w : Nat} {ds : List PyData} (h : Reps n w ds) : Rep (n + 1) w (.list ds) := ⟨h.sh, h.nd, Nat.succ_le_succ h.dp, h.lv, h.wt⟩
theorem Rep.short {n w : Nat} {d : PyData} (h : Rep n w d) (hw : w ≤ 2 ^ 20) : d.shown.length ≤ sizeLine := PyData.shown_fits (B := 13) (by decide) (by decide) h.lv (Nat.le_trans h.wt hw)
/-- repr of data -/
theorem rep_read {K : PySem.W.Frag} {H : Hp} {Q : VK} {n w : Nat} {a : Addr} {d : PyData} (h : Rep n w d) (hd : Dp K H (.ref a) d) (hn : n ≤ 60) (hw : w ≤ 2 ^ 20) (q : Q (.str d.shown) H) : rRepr K [.ref a] H Q :=
  ⟨a, d, rfl, hd, h.sh, h.nd, Nat.le_trans h.dp hn, h.short hw, q⟩
/-! ### tuples of numbers -/
theorem rep_ints {bs : List Int} (hl : bs.length ≤ 1000) (h : ∀ b ∈ bs, b.natAbs < 10 ^ 12) : Rep 1 50000 (.tuple (bs.map .int)) :=
  rep_tup ((reps_all (n := 0) (w := 40) (ds := bs.map .int) fun d hd => by
    obtain ⟨b, hb, rfl⟩ := List.mem_map.mp hd
    exact rep_int (h b hb) (Nat.le_refl _)).mono (Nat.le_refl _) (by rw [List.length_map]; omega))
theorem dp_ints {K : PySem.W.Frag} {H : Hp} {a : Addr} {bs : List Int} (h : SqT K H a (bs.map V.int)) : Dp K H (.ref a) (.tuple (bs.map .int)) := .tup h (by
  clear h
  induction bs with
  | nil => exact .nil
  | cons b r ih => exact .cons (.int b) ih)
theorem comp_small {n : Str} {c : V} {as bs : List Int} (h : Comp n c as bs) (ha : ∀ a ∈ as, R32 a) (hc : ∀ v, c = .int v → R32 v) : bs.length ≤ 1000 ∧ ∀ b ∈ bs, b.natAbs < 10 ^ 12 := by
  have sm : ∀ {z : Int}, R32 z → z.natAbs < 10 ^ 12 := fun h => by have := h.1; have := h.2; omega
  cases h with
  | @const v =>
    refine ⟨by simp, fun b hb => ?_⟩
    simp only [List.mem_cons, List.not_mem_nil, or_false] at hb
    rw [hb]
    exact sm (hc v rfl)
  | @pick c a b =>
    refine ⟨by simp, fun z hz => ?_⟩
    simp only [List.mem_cons, List.not_mem_nil, or_false] at hz
    rw [hz]
    split
    · exact sm (ha _ (by simp))
    · exact sm (ha _ (by simp))
  | @two n a b hn ha' hb =>
    obtain ⟨a0, a1⟩ := ha'
    obtain ⟨b0, b1⟩ := hb
    have md : ∀ z : Int, (z % 4294967296).natAbs < 10 ^ 12 := fun z => by omega
    refine ⟨?_, fun z hz => ?_⟩
    · unfold op2
      repeat' split
      all_goals simp
    · unfold op2 at hz
      split at hz
      · split at hz
        · simp only [List.mem_cons, List.not_mem_nil, or_false] at hz
          rcases hz with rfl | rfl
          · decide
          · omega
        · rename_i hb'
          simp only [List.mem_cons, List.not_mem_nil, or_false] at hz
          rcases hz with rfl | rfl
          · have h1 := Int.ediv_nonneg a0 b0
            have h2 := Int.ediv_le_self b a0
            omega
          · have h1 := Int.emod_nonneg a hb'
            have h2 := Int.emod_lt_of_pos a (show (0 : Int) < b by omega)
            omega
      all_goals repeat' split at hz
      all_goals (simp only [List.mem_cons, List.not_mem_nil, or_false] at hz; subst hz; first | exact md _ | decide)
theorem int_text {n : Int} (h : R32 n) : intText? (Str.ofString (toString n)) = some n := by
  have e := numOf_text h.1 h.2
  unfold numOf at e
  split at e
  · rename_i q
    have e2 := Option.some.inj e
    unfold numOk at q
    simp only [Bool.and_eq_true, decide_eq_true_eq] at q
    obtain ⟨⟨⟨⟨q1, q2⟩, q3⟩, q4⟩, q5⟩ := q
    rw [int_dig q3 q1 q2, e2]
  · cases e
/-! ### data of texts, prims' interfaces -/
mutual
theorem same_dp {K : PySem.W.Frag} {H H' : Hp} (s : Same H H') : ∀ {d : PyData} {v : V}, Dp K H v d → Dp K H' v d
  | _, _, .non => .non
  | _, _, .bl b => .bl b
  | _, _, .int i => .int i
  | _, _, .str x => .str x
  | _, _, .lst h hs => .lst (same_sql s h) (same_dps s hs)
  | _, _, .tup h hs => .tup (same_sqt s h) (same_dps s hs)
theorem same_dps {K : PySem.W.Frag} {H H' : Hp} (s : Same H H') : ∀ {ds : List PyData} {vs : List V}, DpAll K H vs ds → DpAll K H' vs ds
  | _, _, .nil => .nil
  | _, _, .cons h hs => .cons (same_dp s h) (same_dps s hs)
end
def dTx (xs : List Str) : PyData := .tuple (xs.map .str)
theorem dps_strs {K : PySem.W.Frag} {H : Hp} : ∀ (xs : List Str), DpAll K H (xs.map V.str) (xs.map .str)
  | [] => .nil
  | x :: r => .cons (.str x) (dps_strs r)
theorem dp_strs {K : PySem.W.Frag} {H : Hp} {a : Addr} {xs : List Str} (h : SqT K H a (xs.map V.str)) : Dp K H (.ref a) (dTx xs) := .tup h (dps_strs xs)
def optD : Option Int → PyData
  | none => .none
  | some v => .int v
theorem dp_opt {K : PySem.W.Frag} {H : Hp} : ∀ (c : Option Int), Dp K H (optV c) (optD c)
  | none => .non
  | some v => .int v
def needs (n : Str) (ins : List Str) : List Str := if n = "delay" then [] else ins
def dProf (n : Str) (ins outs : List Str) : PyData := .tuple [.tuple [dTx outs, dTx (needs n ins)]]
def dIface (n : Str) (ins outs : List Str) : PyData := .tuple [dTx ins, dTx outs, dProf n ins outs]
@[irreducible] def dTold (n : Str) (ins outs : List Str) (c : Option Int) : PyData := .tuple [.str n, dTx ins, dTx outs, optD c, dIface n ins outs]
theorem ports_fun {n : Str} {ins outs ins' outs' : List Str} (h : (n, ins, outs) ∈ portsTab) (h' : (n, ins', outs') ∈ portsTab) : ins = ins' ∧ outs = outs' := by
  have k : ∀ p ∈ portsTab, ∀ q ∈ portsTab, p.1 = q.1 → p = q := by decide +kernel
  have e := k _ h _ h' rfl
  cases e
  exact ⟨rfl, rfl⟩
def spIface (K : PySem.W.Frag) (C : Addr) : Sp := fun vs H Q _ => ∃ (x : Addr) (n z : Str) (c : V) (ins outs : List Str), vs = [.ref x] ∧ PrimAt K C H x n c z ∧ (n, ins, outs) ∈ portsTab ∧
  ∀ p H', Same H H' → Dp K H' (.ref p) (dIface n ins outs) → Q (.ref p) H'
/-- a text of a primitive -/
structure PText (n : Str) (c : Option Int) : Prop where
  ok : OkC n c
  kc : withK n = c.isSome
def spDue1 (K : PySem.W.Frag) : Sp := fun vs H Q _ => ∃ (n : Str) (c : Option Int) (ins outs : List Str), vs = [.str (textOf n c)] ∧ PText n c ∧ (n, ins, outs) ∈ portsTab ∧
  ∀ p i o pr H', Same H H' → H' p = some (.tup [.str n, .ref i, .ref o, optV c, .ref pr]) → Dp K H' (.ref i) (dTx ins) → Dp K H' (.ref o) (dTx outs) → Dp K H' (.ref pr) (dProf n ins outs) → Q (.ref p) H'
theorem textOf_len {n : Str} {c : Option Int} (h : OkC n c) : (textOf n c).length ≤ 100 := by
  have hn : n.length ≤ 10 := (show ∀ n ∈ portNames, n.length ≤ 10 by decide +kernel) n h.1
  cases c with
  | none => exact Nat.le_trans hn (by decide)
  | some v =>
    have hv := h.2 v rfl
    have hls : (Str.ofString (toString v)).length ≤ 10 := PySem.W.KT.len_num hv.1 (by have := hv.2; omega : v < 10 ^ 10)
    show (n ++ " " ++ Str.ofString (toString v)).length ≤ 100
    rw [PySem.Str.length_append, PySem.Str.length_append]
    have : (" " : Str).length = 1 := by decide +kernel
    omega
theorem primOf_text {n : Str} {c : Option Int} (h : PText n c) : primOf (textOf n c) = some (n, c) := by
  cases c with
  | none => exact primOf_plain (port_plain h.ok.1 h.kc)
  | some v =>
    have hv := h.ok.2 v rfl
    refine primOf_K ?_ hv.1 hv.2
    have := h.kc
    unfold withK at this
    simpa using this
theorem split_text {n : Str} {c : Option Int} (h : PText n c) : Txt.split (textOf n c) " " = match c with | none => [n] | some v => [n, Str.ofString (toString v)] := by
  have hn : 32 ∉ TL.tl n := (show ∀ n ∈ portNames, 32 ∉ TL.tl n by decide +kernel) n h.ok.1
  cases c with
  | none => exact split_one hn
  | some v => exact split_two hn (num_sp v)
theorem rep_ports : ∀ p ∈ portsTab, (Rep 0 20 (.str p.1) ∧ Rep 1 60 (dTx p.2.1)) ∧ Rep 1 60 (dTx p.2.2) := by
  have k : ∀ p ∈ portsTab, (((PyData.str p.1).leavesShort 13 = true ∧ (PyData.str p.1).weight ≤ 20) ∧ ((dTx p.2.1).showable = true ∧ (dTx p.2.1).hasDict = false ∧ (dTx p.2.1).depth ≤ 1 ∧ (dTx p.2.1).leavesShort 13 = true ∧ (dTx p.2.1).weight ≤ 60)) ∧
      ((dTx p.2.2).showable = true ∧ (dTx p.2.2).hasDict = false ∧ (dTx p.2.2).depth ≤ 1 ∧ (dTx p.2.2).leavesShort 13 = true ∧ (dTx p.2.2).weight ≤ 60) := by decide +kernel
  intro p hp
  obtain ⟨⟨⟨a1, a2⟩, b1, b2, b3, b4, b5⟩, c1, c2, c3, c4, c5⟩ := k p hp
  exact ⟨⟨⟨rfl, rfl, Nat.zero_le _, a1, a2⟩, ⟨b1, b2, b3, b4, b5⟩⟩, ⟨c1, c2, c3, c4, c5⟩⟩
theorem rep_told {n : Str} {c : Option Int} {ins outs : List Str} (hc : OkC n c) (hp : (n, ins, outs) ∈ portsTab) : Rep 5 1000 (dTold n ins outs c) := by
  obtain ⟨⟨h1, h2⟩, h3⟩ := rep_ports _ hp
  have h0 : Rep 0 40 (optD c) := by
    cases c with
    | none => exact rep_non
    | some v => exact rep_int (by have := (hc.2 v rfl).1; have := (hc.2 v rfl).2; omega) (Nat.le_refl _)
  have hn : Rep 1 60 (dTx (needs n ins)) := by
    unfold needs
    split
    · exact rep_tup reps_nil
    · exact h2
  have hp : Rep 3 200 (dProf n ins outs) := rep_tup (reps_cons (w1 := 150) (w2 := 0) (rep_tup (reps_cons (w1 := 60) (w2 := 61) h3 (reps_cons (w1 := 60) (w2 := 0) hn reps_nil (by decide)) (by decide))) reps_nil (by decide))
  have hi : Rep 4 400 (dIface n ins outs) := rep_tup (reps_cons (w1 := 60) (w2 := 300) (h2.mono (by decide) (by decide)) (reps_cons (w1 := 60) (w2 := 201) (h3.mono (by decide) (by decide)) (reps_cons (w1 := 200) (w2 := 0) (hp.mono (by decide) (by decide)) reps_nil (by decide)) (by decide)) (by decide))
  unfold dTold
  have e := rep_tup (reps_cons (w1 := 20) (w2 := 700) (h1.mono (by decide) (by decide)) (reps_cons (w1 := 60) (w2 := 600) (h2.mono (by decide) (by decide)) (reps_cons (w1 := 60) (w2 := 500) (h3.mono (by decide) (by decide)) (reps_cons (w1 := 40) (w2 := 401) (h0.mono (by decide) (by decide)) (reps_cons (w1 := 400) (w2 := 0) hi reps_nil (by decide)) (by decide)) (by decide)) (by decide)) (show 20 + 1 + 700 ≤ 1000 by decide))
  exact e
def TextsOk (ts : List V) : Prop := ∀ v ∈ ts, ∃ n c, v = .str (textOf n c) ∧ PText n c
theorem texts7 : TextsOk (plain7.map V.str) := fun v hv => by
  obtain ⟨n, hn, rfl⟩ := List.mem_map.mp hv
  exact ⟨n, none, rfl, ⟨plain_port hn, fun _ e => by cases e⟩, plain_noK hn⟩
theorem pt_const {v : Int} (h : R32 v) : PText "const" (some v) := ⟨⟨by decide +kernel, fun _ e => by cases e; exact h⟩, (show withK "const" = true by decide +kernel)⟩
theorem pt_delay {v : Int} (h : R32 v) : PText "delay" (some v) := ⟨⟨by decide +kernel, fun _ e => by cases e; exact h⟩, (show withK "delay" = true by decide +kernel)⟩
theorem tx_const (t : Str) : ("const " : Str) ++ t = "const" ++ " " ++ t := by rw [show ("const" ++ " " : Str) = "const " by decide +kernel]
theorem tx_delay (t : Str) : ("delay " : Str) ++ t = "delay" ++ " " ++ t := by rw [show ("delay" ++ " " : Str) = "delay " by decide +kernel]
theorem dp_told {K : PySem.W.Frag} {H : Hp} {a i o q : Addr} {n : Str} {c : Option Int} {ins outs : List Str} (h : SqT K H a [.str n, .ref i, .ref o, optV c, .ref q]) (hi : Dp K H (.ref i) (dTx ins)) (ho : Dp K H (.ref o) (dTx outs)) (hq : Dp K H (.ref q) (dIface n ins outs)) : Dp K H (.ref a) (dTold n ins outs c) := by
  unfold dTold
  exact .tup h (.cons (.str n) (.cons hi (.cons ho (.cons (dp_opt c) (.cons hq .nil)))))
theorem dp_iface {K : PySem.W.Frag} {H : Hp} {a i o q : Addr} {n : Str} {ins outs : List Str} (h : SqT K H a [.ref i, .ref o, .ref q]) (hi : Dp K H (.ref i) (dTx ins)) (ho : Dp K H (.ref o) (dTx outs)) (hq : Dp K H (.ref q) (dProf n ins outs)) : Dp K H (.ref a) (dIface n ins outs) :=
  .tup h (.cons hi (.cons ho (.cons hq .nil)))
theorem kit_self {K : PySem.W.Frag} {C : Addr} : PySem.W.kitOne K (.ref C) (.ref C) = some true := by
  unfold PySem.W.kitOne
  rw [if_pos (by simp)]
theorem kit_sub {K : PySem.W.Frag} {C D : Addr} {cd : ClassData} (h1 : PySem.W.clsIn K D = some cd) (h2 : PySem.W.typeIn K (.ref D) = some (.type "type")) (h3 : PySem.W.subIn K (.ref C) (.ref D) = some true) : PySem.W.kitOne K (.ref C) (.ref D) = some true := by
  unfold PySem.W.kitOne
  split
  · rfl
  · unfold PySem.W.kitCls
    simp only [h1, h2]
    rw [if_pos (by simp)]
    exact h3
end Ly

set_option maxRecDepth 100000
set_option maxHeartbeats 4000000
/-! texts: the canonical form of a value's text; repr of any data; lengths and signs of texts -/
namespace Ly
open PySem PySem.Spec PyProof.Rows L2
/-! ### a value's text is the word -/
theorem dv_app (l : List Nat) (c : Nat) : NumText.digitsVal (l ++ [c]) = NumText.digitsVal l * 10 + (c - 48) := by
  unfold NumText.digitsVal
  rw [List.foldl_append]
  rfl
theorem digs_back : ∀ (r : List Nat), (∀ c ∈ r, 48 ≤ c ∧ c ≤ 57) → r ≠ [] → (r.reverse.head? = some 48 → r = [48]) → (Nat.toDigits 10 (NumText.digitsVal r.reverse)).map Char.toNat = r.reverse
  | [], _, h, _ => absurd rfl h
  | c :: r, hd, _, hz => by
    have hc := hd c List.mem_cons_self
    have dch : ∀ d : Nat, d < 10 → (Nat.digitChar d).toNat = d + 48 := by decide
    rw [List.reverse_cons, dv_app]
    cases hr : r with
    | nil =>
      show (Nat.toDigits 10 (NumText.digitsVal [] * 10 + (c - 48))).map Char.toNat = [c]
      rw [show NumText.digitsVal [] = 0 from rfl, Nat.zero_mul, Nat.zero_add, Nat.toDigits_of_lt_base (by omega)]
      show [(Nat.digitChar (c - 48)).toNat] = [c]
      rw [dch _ (by omega)]
      congr 1
      omega
    | cons b r' =>
      rw [← hr]
      have hr0 : r ≠ [] := by rw [hr]; simp
      have hh : r.reverse.head? ≠ some 48 := fun e => by
        have e2 : (c :: r).reverse.head? = some 48 := by
          rw [List.reverse_cons]
          cases q : r.reverse with
          | nil => rw [q] at e; cases e
          | cons x y => rw [q] at e; exact e
        have := hz e2
        rw [hr] at this
        simp at this
      have ih := digs_back r (fun x hx => hd x (List.mem_cons_of_mem _ hx)) hr0 (fun e => absurd e hh)
      have hpos : 0 < NumText.digitsVal r.reverse := by
        rcases Nat.eq_zero_or_pos (NumText.digitsVal r.reverse) with z | z
        · rw [z] at ih
          have : (Nat.toDigits 10 0).map Char.toNat = [48] := by decide +kernel
          rw [this] at ih
          rw [← ih] at hh
          exact absurd rfl hh
        · exact z
      have t : Nat.toDigits 10 (NumText.digitsVal r.reverse) ++ Nat.toDigits 10 (c - 48) = Nat.toDigits 10 (10 * NumText.digitsVal r.reverse + (c - 48)) := Nat.toDigits_append_toDigits (by decide) hpos (by omega)
      rw [Nat.mul_comm, ← t, List.map_append, ih, Nat.toDigits_of_lt_base (show c - 48 < 10 by omega)]
      show r.reverse ++ [(Nat.digitChar (c - 48)).toNat] = r.reverse ++ [c]
      rw [dch _ (by omega)]
      congr 2
      omega
theorem num_text {w : Str} {v : Int} (h : numOf w = some v) : Str.ofString (toString v) = w := by
  unfold numOf at h
  split at h
  · rename_i q
    have e := Option.some.inj h
    unfold numOk at q
    simp only [Bool.and_eq_true, decide_eq_true_eq, Bool.not_eq_true', Bool.and_eq_false_iff, decide_eq_false_iff_not] at q
    obtain ⟨⟨⟨⟨q1, q2⟩, q3⟩, q4⟩, q5⟩ := q
    have el : w.length = w.cps.toList.length := str_len_list w
    have hd : ∀ c ∈ w.cps.toList, 48 ≤ c ∧ c ≤ 57 := fun c hc => by
      have q := List.all_eq_true.mp q3 c hc
      unfold isDig at q
      simpa using q
    have hb := digs_back w.cps.toList.reverse (fun c hc => hd c (List.mem_reverse.mp hc)) (fun z => by
      have : w.cps.toList = [] := by simpa using z
      rw [this] at el
      simp at el
      omega) (fun z => by
      rw [List.reverse_reverse] at z
      have h1 : ¬ 1 < w.length := q4.resolve_left fun n => n z
      have h2 : w.cps.toList.length = 1 := by omega
      match hm : w.cps.toList, h2 with
      | [a], _ =>
        rw [hm] at z
        have : a = 48 := by simpa using z
        rw [this]
        rfl)
    rw [List.reverse_reverse] at hb
    have sg := PySem.W.KIN.signs_num (NumText.digitsVal w.cps.toList)
    have e2 : (Str.ofString (toString v)).cps.toList = w.cps.toList := by
      rw [← e]
      show (Str.ofString (toString ((NumText.digitsVal w.cps.toList : Nat) : Int))).cps.toList = _
      rw [sg]
      exact hb
    have e3 : (Str.ofString (toString v)).cps = w.cps := by
      have := congrArg List.toArray e2
      simpa using this
    cases hw : w with
    | mk a =>
      rw [hw] at e3
      cases ho : Str.ofString (toString v) with
      | mk b =>
        rw [ho] at e3
        exact congrArg Str.mk e3
  · cases h
theorem split_back {z : Str} : Str.join " " (Txt.split z " ") = z := PySem.StrLaws.join_split z " "
theorem text_prim {z n : Str} {c : Option Int} (h : primOf z = some (n, c)) : textOf n c = z := by
  have hj := split_back (z := z)
  unfold primOf at h
  generalize Txt.split z " " = ws at h hj
  match ws, h, hj with
  | [m], h, hj =>
    change (if m ∈ plain7 then some (m, (none : Option Int)) else none) = _ at h
    split at h
    · cases h
      rw [← hj, ← TL.join_eq]
      rfl
    · cases h
  | [m, k], h, hj =>
    change (if withK m = true then (numOf k).map (fun v => (m, some v)) else none) = _ at h
    split at h
    · cases e : numOf k with
      | none => rw [e] at h; cases h
      | some v =>
        rw [e] at h
        cases h
        rw [← hj, ← TL.join_eq]
        show n ++ " " ++ Str.ofString (toString v) = _
        rw [num_text e]
        rfl
    · cases h
  | [], h, _ => cases h
  | _ :: _ :: _ :: _, h, _ => cases h
/-! ### repr of any data -/
def rReprV (K : PySem.W.Frag) : List V → Hp → VK → Prop := fun xs H Q => ∃ v d, xs = [v] ∧ Dp K H v d ∧ d.showable = true ∧ d.hasDict = false ∧ d.depth ≤ 60 ∧ d.shown.length ≤ sizeLine ∧ Q (.str d.shown) H
theorem call_reprV {X : Cx} (K : PySem.W.Frag) (hg : Idle X.A) (hu : X.A.units + 64 < cLine) (hK : X.K = K := by rfl) : CallR X (.builtin "repr") (rReprV K) := by
  subst hK
  intro pins s σ H xs us Q I r h
  obtain ⟨v, d, rfl, hd, hs, hn, hdp, hz, q⟩ := h
  have rr := r
  obtain ⟨u, rfl, ru⟩ := vals1 r
  cases hd with
  | non =>
    cases ru
    exact PySem.P.repr_of_none ⟨.str "None", H, I.tok _, ⟨_, rfl⟩, q⟩
  | bl b =>
    cases ru
    exact PySem.P.repr_of_bool ⟨.str (if b then "True" else "False"), H, I.tok _, ⟨_, rfl⟩, q⟩
  | int i =>
    obtain ⟨t, rfl⟩ := ru
    exact PySem.P.repr_of_int (of_decide_eq_true hs) ⟨.str (toString i), H, I.tok _, ⟨_, rfl⟩, q⟩
  | str x =>
    obtain ⟨t, rfl⟩ := ru
    exact PySem.P.repr_of_str ⟨.str (reprText x), H, I.tok _, ⟨_, rfl⟩, q⟩ hz
  | lst hq ha => exact call_repr (X := X) X.K hg hu rfl pins s σ H _ _ Q I rr ⟨_, _, rfl, .lst hq ha, hs, hn, hdp, hz, q⟩
  | tup hq ha => exact call_repr (X := X) X.K hg hu rfl pins s σ H _ _ Q I rr ⟨_, _, rfl, .tup hq ha, hs, hn, hdp, hz, q⟩
/-! ### texts of bounded length and usual signs -/
structure OkT (n : Nat) (z : Str) : Prop where
  ln : z.length ≤ n
  sg : z.cps.toList.all (fun c => decide (c < 1114112)) = true
theorem OkT.mono {n m : Nat} {z : Str} (h : OkT n z) (k : n ≤ m) : OkT m z := ⟨Nat.le_trans h.ln k, h.sg⟩
theorem okT_app {n m : Nat} {x y : Str} (h : OkT n x) (k : OkT m y) : OkT (n + m) (x ++ y) := by
  refine ⟨by rw [PySem.Str.length_append]; exact Nat.add_le_add h.ln k.ln, ?_⟩
  have e : (x ++ y).cps.toList = x.cps.toList ++ y.cps.toList := by rw [PySem.Str.cps_append]; simp
  rw [e, List.all_append, h.sg, k.sg]
  rfl
theorem okT_cut {n : Nat} {z : Str} {lo hi : Option Int} (h : OkT n z) : OkT n (cutS z lo hi) := by
  refine ⟨Nat.le_trans (cutS_length z lo hi) h.ln, ?_⟩
  rw [List.all_eq_true]
  intro c hc
  refine List.all_eq_true.mp h.sg c ?_
  have : c ∈ (z.cps.toList.drop (HT.sIx z.length 0 lo)).take (HT.sIx z.length z.length hi - HT.sIx z.length 0 lo) := by simpa [cutS] using hc
  exact List.mem_of_mem_drop (List.mem_of_mem_take this)
theorem okT_num {v : Int} (h0 : 0 ≤ v) (h1 : v < 10 ^ 10) : OkT 10 (Str.ofString (toString v)) := by
  refine ⟨PySem.W.KT.len_num h0 h1, ?_⟩
  obtain ⟨m, rfl⟩ := Int.eq_ofNat_of_zero_le h0
  rw [List.all_eq_true]
  intro c hc
  rw [PySem.W.KIN.signs_num m] at hc
  obtain ⟨ch, hch, e⟩ := List.mem_map.mp hc
  have r := PyProof.Rows.digit_range (Nat.isDigit_of_mem_toDigits (by decide) (by decide) hch)
  rw [← e]
  exact decide_eq_true (by omega)
theorem rep_okT {n m w : Nat} {z : Str} (h : OkT n z) (k : n ≤ w) : Rep m w (.str z) := rep_str (Nat.le_trans h.ln k) (by
  rw [List.all_eq_true]
  intro c hc
  have := of_decide_eq_true (List.all_eq_true.mp h.sg c hc)
  exact decide_eq_true (Nat.lt_of_lt_of_le this (by decide)))
theorem shaped_chars {z : Str} {cs : List Nat} (h : z.cps.toList.all (fun c => decide (c < 1114112)) = true) (hs : ∀ c ∈ cs, c ∈ z.cps.toList) : SeqAt.shaped (.list (cs.map fun c => PyData.str ⟨#[c]⟩)) = true := by
  have a : PyData.canLayAll0 (cs.map fun c => PyData.str ⟨#[c]⟩) = true := by
    induction cs with
    | nil => rfl
    | cons c r ih =>
      show (PySem.PyData.strOk ⟨#[c]⟩ && PyData.canLayAll0 (r.map fun c => PyData.str ⟨#[c]⟩)) = true
      rw [ih fun x hx => hs x (List.mem_cons_of_mem _ hx), Bool.and_true]
      have := of_decide_eq_true (List.all_eq_true.mp h c (hs c List.mem_cons_self))
      show (#[c] : Array Nat).all (· < 0x110000) = true
      simp [this]
  have d : PyData.depthAll (cs.map fun c => PyData.str ⟨#[c]⟩) = 0 := by
    induction cs with
    | nil => rfl
    | cons c r ih =>
      show max 0 (PyData.depthAll (r.map fun c => PyData.str ⟨#[c]⟩)) = 0
      rw [ih (fun x hx => hs x (List.mem_cons_of_mem _ hx)) (by
        have a2 : (PySem.PyData.strOk ⟨#[c]⟩ && PyData.canLayAll0 (r.map fun c => PyData.str ⟨#[c]⟩)) = true := a
        exact (Bool.and_eq_true_iff.mp a2).2)]
      rfl
  unfold SeqAt.shaped
  have e1 : (PyData.list (cs.map fun c => PyData.str ⟨#[c]⟩)).canLay0 = true := a
  have e2 : (PyData.list (cs.map fun c => PyData.str ⟨#[c]⟩)).depth ≤ 64 := by
    show PyData.depthAll _ + 1 ≤ 64
    rw [d]
    decide
  rw [e1, decide_eq_true e2]
  rfl
theorem spl_mem (S : List Nat) : ∀ (l acc : List Nat) (k : Nat), ∀ p ∈ TL.spl S k acc l, ∀ c ∈ p, c ∈ acc ∨ c ∈ l
  | [], acc, k => by
    rw [TL.spl_nil]
    intro p hp c hc
    simp only [List.mem_singleton] at hp
    subst hp
    exact .inl (by simpa using hc)
  | d :: r, acc, 0 => by
    intro p hp c hc
    unfold TL.spl at hp
    split at hp
    · rcases List.mem_cons.mp hp with rfl | hp
      · exact .inl (by simpa using hc)
      · rcases spl_mem S r [] _ p hp c hc with h | h
        · cases h
        · exact .inr (List.mem_cons_of_mem _ h)
    · rcases spl_mem S r _ 0 p hp c hc with h | h
      · rcases List.mem_append.mp h with h | h
        · exact .inl h
        · rw [List.mem_singleton.mp h]
          exact .inr List.mem_cons_self
      · exact .inr (List.mem_cons_of_mem _ h)
  | d :: r, acc, k + 1 => by
    intro p hp c hc
    unfold TL.spl at hp
    rcases spl_mem S r acc k p hp c hc with h | h
    · exact .inl h
    · exact .inr (List.mem_cons_of_mem _ h)
theorem okT_split {n : Nat} {x : Str} (h : OkT n x) : ∀ p ∈ Txt.split x " ", OkT n p := fun p hp => by
  refine ⟨Nat.le_trans (split_lens sp_ne sp_k p hp) h.ln, ?_⟩
  have e := TL.split_spl x " " sp_ne (TL.kind_ok sp_k)
  have h2 : TL.tl p ∈ (Txt.split x " ").map TL.tl := List.mem_map_of_mem hp
  rw [e] at h2
  rw [List.all_eq_true]
  intro c hc
  rcases spl_mem _ _ _ _ _ h2 c hc with q | q
  · cases q
  · exact List.all_eq_true.mp h.sg c q
theorem inV_mem (z : Str) : ∀ l : List Str, inV (.str z) (l.map V.str) = decide (z ∈ l) := fun l => by
  have e : ∀ a b : Str, eqV (.str a) (.str b) = decide (b = a) := fun a b => by
    show (a == b) = _
    by_cases h : a = b
    · rw [h]; simp
    · rw [beq_eq_false_iff_ne.mpr h, decide_eq_false (fun q => h q.symm)]
  unfold inV
  induction l with
  | nil => simp
  | cons a r ih =>
    rw [List.map_cons, List.any_cons, ih, e]
    by_cases h : z = a
    · rw [decide_eq_true h, Bool.true_or, decide_eq_true (by rw [h]; exact List.mem_cons_self)]
    · rw [decide_eq_false h, Bool.false_or]
      by_cases h2 : z ∈ r
      · rw [decide_eq_true h2, decide_eq_true (List.mem_cons_of_mem _ h2)]
      · rw [decide_eq_false h2, decide_eq_false fun q => (List.mem_cons.mp q).elim h h2]
theorem prim_plain {z n : Str} {r : List Str} (h : Txt.split z " " = n :: r) (hk : withK n = false) : (primOf z).isSome = decide (z ∈ plain7) := by
  by_cases hz : z ∈ plain7
  · rw [primOf_plain hz, decide_eq_true hz]
    rfl
  · rw [decide_eq_false hz]
    have hj := split_back (z := z)
    unfold primOf
    rw [h] at hj ⊢
    match r, hj with
    | [], hj =>
      rw [← TL.join_eq] at hj
      have e : n = z := hj
      show (if n ∈ plain7 then some (n, (none : Option Int)) else none).isSome = false
      rw [if_neg (e ▸ hz)]
      rfl
    | [k], _ =>
      show (if withK n = true then (numOf k).map (fun v => (n, some v)) else none).isSome = false
      rw [hk]
      rfl
    | _ :: _ :: _, _ => rfl
/-! ### all stands but one object -/
def SameX (p : Addr) (H H' : Hp) : Prop := ∀ b u, b ≠ p → H b = some u → H' b = some u
theorem sx_of {p : Addr} {H H' : Hp} (s : Same H H') : SameX p H H' := fun b u _ e => s b u e
theorem SameX.trans {p : Addr} {H H1 H2 : Hp} (a : SameX p H H1) (b : SameX p H1 H2) : SameX p H H2 := fun c u n e => b c u n (a c u n e)
theorem sx_put {p : Addr} {H H' : Hp} {o : HO} (s : SameX p H H') : SameX p H (upd H' p o) := fun b u n e => by
  rw [upd_ne n]
  exact s b u n e
theorem sx_new {p q : Addr} {H H' : Hp} {o : HO} (s : SameX p H H') (hq : H' q = none) : SameX p H (upd H' q o) := fun b u n e => by
  have q1 := s b u n e
  rw [upd_ne (ne_of_none q1 hq)]
  exact q1
theorem feed_new {H : Hp} {p q : Addr} {a b : Int} {o : HO} (h : FeedAt H p a b) (hq : H q = none) : FeedAt (upd H q o) p a b := feed_same (same_new hq) h
def spPick2 (K : PySem.W.Frag) : Sp := fun vs H Q E => spPick K vs H Q E ∨ ∃ (p : Addr) (z : Str) (a b : Int), vs = [.ref p, .str z] ∧ FeedAt H p a b ∧ OkT 1000 z ∧ 0 < z.length ∧
  ∀ (s : Str) (a' b' : Int), OkT 1 s → FeedAt (upd H p (.lst [.int a', .int b'])) p a' b' → Q (.str s) (upd H p (.lst [.int a', .int b']))
def spChg : Sp := fun vs H Q _ => ∃ (p : Addr) (t : Str) (n : Nat) (a b : Int), vs = [.ref p, .str t] ∧ OkT n t ∧ n ≤ 10000 ∧ FeedAt H p a b ∧
  ∀ (t' : Str) (H' : Hp) (a' b' : Int), OkT (2 * n + 30) t' → SameX p H H' → FeedAt H' p a' b' → Q (.str t') H'
/-! ### text * int -/
theorem op_mulStr {X : Cx} : OpR X (binaryOp .Mult) (fun x y H Q => ∃ a n, x = .str a ∧ y = .int n ∧ MulOk a n ∧ Q (.str (Txt.mul a n)) H) := by
  intro pins s σ H x y v u Q I rx ry h
  obtain ⟨a, n, rfl, rfl, hm, q⟩ := h
  obtain ⟨t, rfl⟩ := rx
  obtain ⟨t', rfl⟩ := ry
  exact PySem.SB.mul hm fun t2 k => ⟨.str (Txt.mul a n), H, I.tok k, ⟨t2, rfl⟩, q⟩
theorem rep_fold (a : Array Nat) : ∀ (m : Nat) (acc : Array Nat), ((List.replicate m a).foldl (· ++ ·) acc).size = acc.size + m * a.size ∧ ∀ c ∈ ((List.replicate m a).foldl (· ++ ·) acc).toList, c ∈ acc.toList ∨ c ∈ a.toList
  | 0, acc => ⟨by simp, fun c hc => .inl hc⟩
  | m + 1, acc => by
    obtain ⟨h1, h2⟩ := rep_fold a m (acc ++ a)
    rw [List.replicate_succ, List.foldl_cons]
    refine ⟨?_, fun c hc => ?_⟩
    · rw [h1, Array.size_append, Nat.succ_mul]
      omega
    · rcases h2 c hc with h | h
      · rw [Array.toList_append] at h
        exact List.mem_append.mp h
      · exact .inr h
theorem okT_mul {n k m : Nat} {x : Str} (h : OkT n x) (hk : n * k ≤ m) (hn : n ≤ m) : OkT m (Txt.mul x (k : Int)) := by
  unfold Txt.mul
  split
  · exact ⟨Nat.zero_le _, rfl⟩
  · split
    · exact h.mono hn
    · obtain ⟨h1, h2⟩ := rep_fold x.cps k #[]
      refine ⟨?_, ?_⟩
      · show ((List.replicate ((k : Int)).toNat x.cps).foldl (· ++ ·) #[]).size ≤ m
        rw [Int.toNat_natCast, h1]
        have : x.cps.size ≤ n := h.ln
        have h3 : k * x.cps.size ≤ n * k := by rw [Nat.mul_comm n]; exact Nat.mul_le_mul_left k this
        simp only [Array.size_empty, Nat.zero_add]
        omega
      · rw [List.all_eq_true]
        intro c hc
        have hc' : c ∈ ((List.replicate ((k : Int)).toNat x.cps).foldl (· ++ ·) #[]).toList := hc
        rw [Int.toNat_natCast] at hc'
        rcases h2 c hc' with q | q
        · cases q
        · exact List.all_eq_true.mp h.sg c q
theorem mulOk1 : MulOk "0" 5000 := ⟨by decide, fun _ _ => by decide +kernel, fun _ _ => by decide +kernel⟩
theorem mulOk2 : MulOk "add" 999 := ⟨by decide, fun _ _ => by decide +kernel, fun _ _ => by decide +kernel⟩
/-! ### lists of texts -/
structure TsOk (ts : List V) (n : Nat) : Prop where
  len : ts.length = n
  all : ∀ v ∈ ts, ∃ z, v = V.str z ∧ OkT 6000 z
  nine : ∀ v ∈ ts.take 9, ∃ z, v = V.str z ∧ OkT 20 z
theorem TsOk.app {ts us : List V} {n m : Nat} (h : TsOk ts n) (h9 : 9 ≤ n) (hm : us.length = m) (hu : ∀ v ∈ us, ∃ z, v = V.str z ∧ OkT 6000 z) : TsOk (ts ++ us) (n + m) := by
  refine ⟨by rw [List.length_append, h.len, hm], fun v hv => ?_, fun v hv => ?_⟩
  · rcases List.mem_append.mp hv with q | q
    · exact h.all v q
    · exact hu v q
  · rw [List.take_append_of_le_length (by rw [h.len]; exact h9)] at hv
    exact h.nine v hv
theorem ts_first {ts us : List V} {m : Nat} (h : ∀ v ∈ ts ++ us, ∃ z, v = V.str z ∧ OkT 20 z) (hm : (ts ++ us).length = m) : TsOk (ts ++ us) m :=
  ⟨hm, fun v hv => by
    obtain ⟨z, e, o⟩ := h v hv
    exact ⟨z, e, o.mono (by decide)⟩, fun v hv => h v (List.mem_of_mem_take hv)⟩
theorem okL {n : Nat} {l : List Str} (h : ∀ x ∈ l, x.length ≤ n ∧ x.cps.toList.all (fun c => decide (c < 1114112)) = true) : ∀ v ∈ l.map V.str, ∃ z, v = V.str z ∧ OkT n z := fun v hv => by
  obtain ⟨x, hx, rfl⟩ := List.mem_map.mp hv
  exact ⟨x, rfl, (h x hx).1, (h x hx).2⟩
theorem cut9 {ts : List V} (h : 9 ≤ ts.length) : cutV ts none (some 9) = ts.take 9 := by
  unfold cutV
  have e1 : HT.sIx ts.length 0 none = 0 := rfl
  have e2 : HT.sIx ts.length ts.length (some ((9 : Nat) : Int)) = min 9 ts.length := HT.sIx_nat _ _ _
  have e3 : HT.sIx ts.length ts.length (some 9) = 9 := by
    have : HT.sIx ts.length ts.length (some 9) = min 9 ts.length := e2
    rw [this]
    omega
  rw [e1, e3]
  rfl
theorem same_sx {p : Addr} {H H1 H2 : Hp} (s : Same H H1) (x : SameX p H1 H2) (hp : H p = none) : Same H H2 := fun b u e => x b u (ne_of_none e hp) (s b u e)
end Ly

set_option maxRecDepth 100000
set_option maxHeartbeats 4000000
/-! a caught exception that a name keeps beyond the suite: the clause's rule tracks it (ExT); its field, isinstance; a classmethod's call that may raise -/
namespace Ly
open PySem PySem.Spec PyProof.Rows L2
def ExT (cls : Value) (d : Option Addr) (a : Addr) : HO := .ext fun h => ∃ (oe : Obj) (vs : Array Value), h.get? a = some oe ∧ Zc cls d oe ∧ oe.data = .fields vs
theorem exT_ok {P : Program} {w : World} {H : Hp} {h : Heap} {a : Addr} {cls : Value} {d : Option Addr} {oe : Obj} {vs : Array Value} (e : h.get? a = some oe) (z : Zc cls d oe) (hd : oe.data = .fields vs) : ObjOk P w H h a (ExT cls d a) :=
  ⟨⟨oe, vs, e, z, hd⟩, ⟨oe, e⟩, fun h1 h2 z k => by
    obtain ⟨o, v, q, r⟩ := z
    exact ⟨o, v, k _ q, r⟩⟩
theorem exT_at {P : Program} {w : World} {H : Hp} {h : Heap} {a : Addr} {cls : Value} {d : Option Addr} (hok : HOk P w H h) (he : H a = some (ExT cls d a)) : ∃ (oe : Obj) (vs : Array Value), h.get? a = some oe ∧ Zc cls d oe ∧ oe.data = .fields vs := by
  have x : ObjOk P w H h a (.ext fun h => ∃ (oe : Obj) (vs : Array Value), h.get? a = some oe ∧ Zc cls d oe ∧ oe.data = .fields vs) := hok a _ he
  exact x.1
section
variable {X : Cx} {pins : List (Addr × Obj)} {σ : L2.St} {H : Hp} {s sI : Shared}
/-- an object above all that stands is tracked -/
theorem track {a : Addr} {o : HO} (J : Inv X pins σ H s) (na : H a = none) (nL : a ≠ X.env.locals) (hpin : ∀ p ∈ X.pn ++ pins, p.1 ≠ a) (hcell : ∀ x c, X.env.cells.lookup x = some c → c ≠ a)
    (hold : ∀ b u, X.s_0.heap.get? b = some u → b ∉ X.ex → b ≠ a) (new : ObjOk X.prog X.w (upd H a o) s.heap a o) : Inv X pins σ (upd H a o) s := by
  refine ⟨J.ok, J.os, J.bare, ⟨J.base.keep, J.base.slot, fun b u e n hx => ?_, J.base.there, fun b xs e => ?_, fun b u v e => ?_, fun b ps e => ?_⟩, J.loc, J.cell, ?_, fun x c e => ?_, fun p hp => ?_, L2.HOk.laidN J.hok (fun b u q => q) na new, J.len⟩
  · rw [upd_ne (hold b u e hx)]
    exact J.base.free b u e n hx
  · have q := J.base.tups b xs e
    rw [upd_ne (ne_of_none q na)]
    exact q
  · have q := J.base.frzs b u v e
    rw [upd_ne (ne_of_none q na)]
    exact q
  · obtain ⟨more, q⟩ := J.base.tbls b ps e
    exact ⟨more, by rw [upd_ne (ne_of_none q na)]; exact q⟩
  · rw [upd_ne (Ne.symm nL)]
    exact J.free
  · rw [upd_ne (hcell x c e)]
    exact J.freeC x c e
  · obtain ⟨e, n, r⟩ := J.pin p hp
    exact ⟨e, by rw [upd_ne (hpin p hp)]; exact n, r⟩
theorem toSuite (I : Inv X pins σ H s) (a : Addr) : Inv (X.suite a (X.pn ++ pins)) [] σ H s :=
  ⟨I.ok.suite _ _, I.os, I.bare, I.base, I.loc, I.cell, I.free, I.freeC, fun p hp => I.pin p (by rw [List.append_nil] at hp; exact hp), I.hok, I.len⟩
theorem fromSuite {a : Addr} {pn' : List (Addr × Obj)} (I : Inv (X.suite a (X.pn ++ pins)) pn' σ H s) (ok : X.Ok) : Inv X pins σ H s :=
  ⟨ok, I.os, I.bare, I.base, I.loc, I.cell, I.free, I.freeC, fun p hp => I.pin p (List.mem_append_left _ hp), I.hok, I.len⟩
end
/-- what the clause 'except x as n' wishes of the body's exception: it is tracked in the suite and behind it -/
def wKp (K : PySem.W.Frag) (c : Value) (i : Nat) (ts : Addr → Value → Option Addr → TS) (Wout : WX) (D : Ends) : WX := fun cls d σ H =>
  ∃ b, PySem.W.exmOne K cls c = some b ∧ (b = true → ∀ a, H a = none → ts a cls d { nx := fun σ' H' => D.nx (σ'.set i none) H', rt := D.rt, bk := fun σ' H' => D.bk (σ'.set i none) H', ct := fun σ' H' => D.ct (σ'.set i none) H' } (σ.set i (some (.ref a))) (upd H a (ExT cls d a))) ∧
    (b = false → Wout cls d σ H)
section
variable {X : Cx} {x n : Str} {c : Value} {i : Nat} {body suite : List Stmt} {b₀ : Stmt} {np pos pos' : Pos} {tb : WX → TS} {ts : Addr → Value → Option Addr → TS} {Wout : WX}
theorem ps_try_keep (hs : X.stack = X.env :: X.outer) (hf : X.env.frame = some X.env.locals) (hN : X.N.Nodup) (hi : X.N[i]? = some n) (hln : X.env.kindOf n = some .local) (hc : Names X x c) (tk : Takes X Wout)
    (hb : ∀ (W : WX) (pn : List (Addr × Obj)) (xe : Value → Shared → Prop), Takes (X.tr pn xe) W → PassesOwn (model X.prog X.w) X.A X.env xe → PSs (X.tr pn xe) body (tb W))
    (hsu : ∀ (a : Addr) (cls : Value) (d : Option Addr) (pn : List (Addr × Obj)), PSs (X.suite a pn) (b₀ :: suite) (ts a cls d)) :
    PS X (.Try body [.ExceptHandler (some (.Name x np)) (some n) (b₀ :: suite) pos'] [] [] pos) (fun D σ H => tb (wKp X.K c i ts Wout D) D σ H) := by
  refine ⟨fun pins s σ H D I h => ?_⟩
  have ok := I.ok
  have hfr : X.A.frames = some (X.env :: X.outer) := by rw [ok.frames, hs]
  have hloc : Loc X.env.scope n := .inl hln
  refine wpAny_Try_except ?_
  refine wpAny_mono ((hb (wKp X.K c i ts Wout D) (X.pn ++ pins) (fun e s₁ => wpAny (model X.prog X.w) X.A (noteFrame e X.env) (fun _ s₂ => wpAny (model X.prog X.w) X.A (setFlight e none) (fun _ s₃ =>
    wpAny (model X.prog X.w) X.A (handleBy e X.env [.ExceptHandler (some (.Name x np)) (some n) (b₀ :: suite) pos']) (SP X pins D) X.xe s₃) X.xe s₂) X.xe s₁) (fun u s' xx => ?_) PassesOwn.looking).run [] s σ H D (I.toTry _) h) (fun f s1 hsp => ?_) (fun e s1 he => he)
  · obtain ⟨a, B, sI, pins', σ', H', cls, d, rfl, J', nb, up, sky, na, os, ag, b, hb1, hyes, hno⟩ := xx
    have J : Inv X pins σ' H' sI := J'.ofTry ok
    have sky' : Sky B (X.env :: X.outer) a (Zc cls d) X.env.locals s'.heap := by rw [← hs]; exact sky
    show wpAny (model X.prog X.w) X.A (noteFrame (.ref a) X.env) _ _ _
    refine Sky.land Zc.steady hfr hf sky' fun h3 fl3 up3 => ?_
    have J3 : Inv X pins σ' H' { s' with heap := h3 } := J.landed nb fl3.1 (up.trans up3) os ag
    obtain ⟨oe3, vs3, he3, hz3, hd3⟩ := fl3.there
    have nfr : a ∉ frs (X.env :: X.outer) := fun hm => by
      obtain ⟨_, o', e', hnf⟩ := fl3.2.2.1.mem hm
      rw [he3] at e'; cases e'
      exact hnf _ hd3
    have nL : a ≠ X.env.locals := fun z => nfr (List.mem_filterMap.mpr ⟨X.env, List.mem_cons_self, by rw [hf, z]⟩)
    have nF : a ∉ X.fs := fun hm => by
      obtain ⟨e, he, q⟩ := List.mem_filterMap.mp hm
      exact nfr (List.mem_filterMap.mpr ⟨e, List.mem_cons_of_mem _ he, q⟩)
    have old : ∀ b o, sI.heap.get? b = some o → b ≠ a := fun b o e z => by
      have q := nb b o e (by rw [z]; show a ∉ frs X.stack; rw [hs]; exact nfr)
      rw [z, fl3.2.1] at q
      cases q
    have S3 := J3.suite he3 hd3 na nL nF
    refine wpAny_handleBy_cons (codeAny_handlers_test ?_) (by intro q; cases q)
    have LT : PySem.W.Looks (model X.prog X.w) h3 (typeOf (.ref a)) cls := fun A Q E s k q => wpAny_typeOf_ref (k _ _ he3) (by rw [hz3.1]; exact q)
    have LM := PySem.W.exm_one (M := model X.prog X.w) (J3.kIn) LT hb1
    have test : ∀ {Q : Value → Shared → Prop} {E : Value → Shared → Prop}, Q c { s' with heap := h3 } → wpAny (model X.prog X.w) (X.A.mark (some (.ref a))) (eval (.Name x np) X.env) Q E { s' with heap := h3 } := fun {Q E} q => by
      obtain ⟨hg, hdbg, hm | ⟨hm, hv, hnn⟩⟩ := hc
      · exact ld_glob (X := X.suite a ((a, oe3) :: (X.pn ++ pins))) S3 hg hm q hdbg
      · exact ld_blt (X := X.suite a ((a, oe3) :: (X.pn ++ pins))) S3 hg hm hv q hnn hdbg
    refine test (LM.here ?_)
    cases b with
    | true =>
      refine codeAny_handlers_suite_as ?_
      refine HandSPX.lands_againZ fl3 fun h4 fl4 up4 => ?_
      have J4 : Inv X pins σ' H' { s' with heap := h4 } := J.landed nb fl4.1 ((up.trans up3).trans up4) os ag
      obtain ⟨oe4, vs4, he4, hz4, hd4⟩ := fl4.there
      have J5 : Inv X pins σ' (upd H' a (ExT cls d a)) { s' with heap := h4 } := track J4 na nL (fun p hp => old _ _ (J.pin p hp).1)
        (fun y c' e z => by
          obtain ⟨v, q⟩ := J.cell y c' e
          obtain ⟨o, q1, _⟩ := q
          exact old _ _ q1 z)
        (fun b u e hx => by
          obtain ⟨o', e'⟩ := J.base.there b u e hx
          exact old _ _ e') (exT_ok he4 hz4 hd4)
      refine store_ok (X := X.suite a (X.pn ++ pins)) (v := .ref a) (toSuite J5 a) hN hi hloc rfl (fun s5 S5 => ?_) (.inr hln)
      refine wpAny_mono ((hsu a cls d (X.pn ++ pins)).run [] s5 _ _ _ S5 (hyes rfl a na)) (fun f s6 hsp => ?_) (fun _ _ z => False.elim z)
      have end_ : ∀ {σ6 : L2.St} {H6 : Hp} {Q : Shared → Prop}, Inv (X.suite a (X.pn ++ pins)) [] σ6 H6 s6 → (∀ s7, Inv X pins (σ6.set i none) H6 s7 → Q s7) →
          wpAny (model X.prog X.w) X.A (do bindName X.env n .none; unbindBehindTheSuite X.env n pos') (fun _ s7 => Q s7) X.xe s6 := fun {σ6 H6 Q} S6 hq => gone_ok (fromSuite S6 ok) hN hi hln hq
      cases f with
      | next =>
        obtain ⟨σ6, H6, S6, q6⟩ := hsp
        exact end_ S6 fun s7 J7 => ⟨_, _, J7, q6⟩
      | brk =>
        obtain ⟨σ6, H6, S6, q6⟩ := hsp
        exact end_ S6 fun s7 J7 => ⟨_, _, J7, q6⟩
      | cont =>
        obtain ⟨σ6, H6, S6, q6⟩ := hsp
        exact end_ S6 fun s7 J7 => ⟨_, _, J7, q6⟩
      | ret u =>
        obtain ⟨v6, σ6, H6, S6, r6, q6⟩ := hsp
        exact end_ S6 fun s7 J7 => ⟨_, _, _, J7, r6, q6⟩
    | false =>
      show wpAny _ X.A (handleBy (.ref a) X.env []) _ _ _
      refine wpAny_handleBy_nil ?_
      obtain ⟨k1, k2, k3, oe, vs, T, oT, ts', he, hz, hd, h1, hr⟩ := id fl3
      unfold PySem.passOn
      refine wpAny_bind (wpAny_field he hd h1 ?_)
      rw [if_neg (show ¬ ((Value.ref T == Value.none) = true) from by simp)]
      have fin : wpAny (model X.prog X.w) X.A (setFlight (.ref a) X.env.frame) (fun _ s4 => wpAny (model X.prog X.w) X.A (throw (.ref a) : Sem Flow) (SP X pins D) X.xe s4) X.xe { s' with heap := h3 } := by
        rw [hf]
        refine HandSPX.setFlight_upZ fl3 fun h4 hh4 up4 => wpAny_throw (tk _ _ ?_)
        exact ⟨a, B, sI, pins, σ', H', cls, d, rfl, J, nb, (up.trans up3).trans up4, .inr (.inr (by rw [hs]; exact hh4)), na, os, ag, hno rfl⟩
      first
        | exact wpAny_bind (wpAny_pure (wpAny_bind fin))
        | exact wpAny_bind fin
  · cases f with
    | next =>
      obtain ⟨σ', H', J', q⟩ := hsp
      exact wpAny_execs_nil ⟨σ', H', J'.ofTry ok, q⟩
    | brk =>
      obtain ⟨σ', H', J', q⟩ := hsp
      exact ⟨σ', H', J'.ofTry ok, q⟩
    | cont =>
      obtain ⟨σ', H', J', q⟩ := hsp
      exact ⟨σ', H', J'.ofTry ok, q⟩
    | ret u =>
      obtain ⟨v, σ', H', J', r, q⟩ := hsp
      exact ⟨v, σ', H', J'.ofTry ok, r, q⟩
end
/-! ### its field, isinstance -/
section
variable {X : Cx}
/-- e.f, e a tracked exception of the class at C -/
def tXt (C : Addr) (f : Str) (te : TE) : TE := fun σ H Q => te σ H fun x H1 => ∃ (a dd : Addr) (fs : List (Str × V)) (v : V), x = .ref a ∧ H1 a = some (ExT (.ref C) (some dd) a) ∧ H1 dd = some (.xd fs) ∧ fs.lookup f = some v ∧ Q v H1
theorem inst_exT {H : Hp} {s : Shared} {a C dd : Addr} {fs : List (Str × V)} (hok : HOk X.prog X.w H s.heap) (he : H a = some (ExT (.ref C) (some dd) a)) (ed : H dd = some (.xd fs)) :
    ∃ (oe : Obj) (od : Obj) (mA : Str → Option Value), PySem.W.InstAt s.heap a oe C (some od) ∧ (∀ f, RelO (fs.lookup f) (mA f)) ∧ ∀ f, PySem.W.lookIn f od = some (mA f) := by
  obtain ⟨oe, vs, ha, hz, hd⟩ := exT_at hok he
  have hx : ObjOk X.prog X.w H s.heap dd (.xd fs) := hok dd _ ed
  obtain ⟨mA, hns, hr⟩ := hx
  obtain ⟨od, ho, hl⟩ := lookIn_ns hns
  exact ⟨oe, od, mA, ⟨ha, hz.1, by unfold PySem.W.notCls; rw [hd] <;> rfl, by rw [hz.2]; exact ho⟩, hr, hl⟩
theorem pe_xt {C : Addr} {e : Expr} {te : TE} {pos : Pos} {n : Str} (T : XfC X.K C) (hno : PySem.W.findIn X.K (.ref C) n = some none) (he : PE X e te) (hb : attributeBase e n X.env (eval e X.env) = eval e X.env := by rfl) :
    PE X (.Attribute e n pos) (tXt C n te) := by
  refine ⟨fun pins s σ H Q I h => ?_⟩
  refine attr_of hb (thn (he.run pins s σ H _ I h) fun u s1 hh => ?_)
  obtain ⟨x, H1, I1, rx, a, dd, fs, v, ex, ea, ed, l, q⟩ := hh
  subst ex
  obtain rfl : u = Value.ref a := rx
  obtain ⟨oe, od, mA, J, hr, hl⟩ := inst_exT I1.hok ea ed
  obtain ⟨u, hu, ru⟩ := RelO.some_of (v := v) (o := mA n) (by rw [← l]; exact hr n)
  exact HandSPX.exc_get I1.kIn J T.ga T.gg T.exC (PySem.W.findObj_own T.hdC hno rfl (by rw [hl, hu])) (handed_of ru) ⟨v, H1, I1.tok _, ru, q⟩
/-- what isinstance asks of the class -/
structure ExcK (K : PySem.W.Frag) (D : Addr) : Prop where
  cl : (PySem.W.clsIn K D).isSome = true
  hg : PySem.W.findIn K (.ref D) "__getattribute__" = some (some (.builtin "BaseException.__getattribute__"))
  hk : PySem.W.findIn K (.ref D) "__getattr__" = some none
  hs : PySem.W.subIn K (.ref D) (.type "BaseException") = some true
  ha : PySem.W.findIn K (.ref D) "__class__" = some (some (.builtin "object.__class__"))
  hn : PySem.W.specialIn K (.builtin "object.__class__") "__get__" = some (some (.builtin "getset_descriptor.__get__"))
  ht : PySem.W.takesIn K (.builtin "object.__class__") = some true
  hm : PySem.W.mroIn K D (.type "object") = some true
/-- isinstance(e, c), e a tracked exception -/
def rIsX (K : PySem.W.Frag) : List V → Hp → VK → Prop := fun xs H Q => ∃ (a D dd : Addr) (fs : List (Str × V)) (c : V) (cv : Value) (b : Bool), xs = [.ref a, c] ∧ H a = some (ExT (.ref D) (some dd) a) ∧ H dd = some (.xd fs) ∧ ExcK K D ∧ ClsV c cv ∧ PySem.W.kitOne K (.ref D) cv = some b ∧ Q (.bl b) H
theorem call_isX (K : PySem.W.Frag) (hK : X.K = K := by rfl) : CallR X (.builtin "isinstance") (rIsX K) := by
  subst hK
  intro pins s σ H xs us Q I r h
  obtain ⟨a, D, dd, fs, c, cv, b, rfl, ea, ed, C, hcv, e, q⟩ := h
  obtain ⟨u1, u2, rfl, r1, r2⟩ := vals2 r
  obtain rfl : u1 = Value.ref a := r1
  have ec := hcv.eq r2
  subst ec
  obtain ⟨oe, od, mA, J, _, _⟩ := inst_exT I.hok ea ed
  exact PySem.W.kia_one (PySem.W.kitx_exc C.cl C.hg C.hk C.hs C.ha C.hn C.ht C.hm) I.kIn J e (fun z => nomatch z) fun tk => ⟨.bl b, H, I.kept (t' := tk) fun _ _ z => z, rfl, q⟩
end
/-! ### a classmethod that may raise -/
section
variable {X : Cx} {CX : CXT} {k : Nat} {C p g : Addr} {mc : Value} {sp : Sp} {E : L2.St → XK} {o e : Expr} {es : List Expr} {m : Str} {pos apos : Pos} {ta : TE} {t : TA} {pl : Sem Bool} {pins : List (Addr × Obj)} {σ : L2.St} {H : Hp} {s : Shared}
theorem run_fnRS {f : Addr} {Q : VK} {us : List Value} {vs : List V} (F : FnR X.prog X.w X.K X.mg X.base CX k f sp) (hr : Room k X.A) (hx : PassesAt CX X σ (E σ)) (I : Inv X pins σ H s) (r : Vals vs us) (h : sp vs H Q (E σ)) :
    codeAny (model X.prog X.w) X.A (.call (.ref f) ⟨us, []⟩) (fun r s' => match r with | .ok (.ret v) => EP X pins σ Q v s' | .ok _ => False | .error e => X.xe e s') s := by
  refine codeAny_mono (F X.A X.stack s H us vs Q (E σ) hr I.env0 r h) fun r s' hq => ?_
  cases r with
  | error e => exact hx pins H s e s' I hq
  | ok fl =>
    cases fl with
    | ret u => exact I.after hq
    | next => exact False.elim hq
    | brk => exact False.elim hq
    | cont => exact False.elim hq
def tCMethS (C : Addr) (sp : Sp) (E : L2.St → XK) (ta : TE) (t : TA) : TE := fun σ H Q => ta σ H fun x H1 => x = .ref C ∧ t σ H1 fun vs H2 => sp (.ref C :: vs) H2 Q (E σ)
theorem pe_cmethS (he : PE X o ta) (r : ClX.CRead X.K C mc) (c : ClX.CMet X.K C mc m p g) (F : FnR X.prog X.w X.K X.mg X.base CX k g sp) (hr : Room k X.A) (hx : ∀ σ, PassesAt CX X σ (E σ)) (ha : PA X (e :: es) t)
    (hst : starEach (e :: es) X.env = (false, eval e X.env) :: starEach es X.env := by rfl) (hpl : (backTo pos (starEach es X.env)).any (·.1) = false := by rfl)
    (ht : eval (.Call (.Attribute o m apos) (e :: es) [] pos) X.env = (do
      let ov ← eval o X.env
      standAt apos.atName
      let (f, first) ← holding [ov] (getMethod ov m pl)
      callWith pos f first (backTo pos (starEach (e :: es) X.env)) (backToKw pos (keywordEach [] X.env))) := by rfl) :
    PE X (.Call (.Attribute o m apos) (e :: es) [] pos) (tCMethS C sp E ta t) := by
  refine ⟨fun pins s σ H Q I h => ?_⟩
  refine PySem.W.methodCall_KW (pl := pl) (thn (he.run pins s σ H _ I h) fun u s1 ⟨x, H1, I1, rx, ex, q⟩ => ?_) ht
  subst ex
  obtain rfl : u = Value.ref C := rx
  refine ClX.getmethcm_ok I1 r c fun s2 I2 => ?_
  refine ClX.callwith_cm I2 (ClX.base_none I1 (Nat.le_refl _)) c.fi (thn (ha.run pos _ s2 σ H1 _ I2 q) fun us s3 ⟨vs, H2, I3, rv, q2⟩ => ⟨⟨ClX.pin_at I3, I3.kIn⟩, ?_⟩) hst hpl
  have z : wpAny (model X.prog X.w) X.A (call (.ref s1.heap.objs.size) us) (EP X ((s1.heap.objs.size, PySem.W.methodObj (.ref g) (.ref C)) :: pins) σ Q) X.xe s3 :=
    wpAny_call (PySem.W.method_call (ClX.pin_at I3) (run_fnRS (us := .ref C :: us) (vs := .ref C :: vs) F hr (hx σ) I3 (.cons rfl rv) q2))
  exact thn z fun _ _ y => ClX.unpinE y
end
theorem kit_ve {K : PySem.W.Frag} {C : Addr} (h : PySem.W.subIn K (.ref C) (.type "ValueError") = some true) : PySem.W.kitOne K (.ref C) (.type "ValueError") = some true := by
  unfold PySem.W.kitOne
  split
  · rfl
  · unfold PySem.W.kitCls
    dsimp only
    rw [if_pos (show PySem.W.kitMeta "ValueError" = true by decide +kernel)]
    exact h
/-- the __init__ of an own exception class: its one field -/
def spXI (C : Addr) (f : Str) : Sp := fun vs H Q _ => ∃ (a : Addr) (v : V), vs = [.ref a, v] ∧ H a = some (exo a C none) ∧ ∀ dx, H dx = none → dx ≠ a → Q .non (upd (upd H dx (exd dx [(f, v)])) a (exo a C (some dx)))
/-- the heap behind a made exception -/
theorem same_exc {H : Hp} {a dx : Addr} {u1 u2 u3 u4 : HO} (na : H a = none) (nd : H dx = none) : Same H (upd (del (upd (upd (upd H a u1) dx u2) a u3) a) dx u4) := fun b u e => by
  have n1 : b ≠ a := ne_of_none e na
  have n2 : b ≠ dx := ne_of_none e nd
  rw [upd_ne n2, del_ne n1, upd_ne n1, upd_ne n2, upd_ne n1]
  exact e
end Ly

set_option maxRecDepth 100000
set_option maxHeartbeats 4000000
/-! names, blocks, diagrams: what they are -/
namespace Ly
open PySem PySem.Spec PyProof.Rows L2
def isLet (c : Nat) : Bool := decide (97 ≤ c) && decide (c ≤ 122)
theorem let_in (c : Nat) : decide (c ∈ (("abcdefghijklmnopqrstuvwxyz" : Str)).cps.toList) = isLet c := by
  have e : (("abcdefghijklmnopqrstuvwxyz" : Str)).cps.toList = [97, 98, 99, 100, 101, 102, 103, 104, 105, 106, 107, 108, 109, 110, 111, 112, 113, 114, 115, 116, 117, 118, 119, 120, 121, 122] := by decide +kernel
  rw [e]
  unfold isLet
  by_cases h : 97 ≤ c ∧ c ≤ 122
  · obtain ⟨h1, h2⟩ := h
    rw [decide_eq_true h1, decide_eq_true h2]
    refine decide_eq_true ?_
    simp only [List.mem_cons, List.not_mem_nil, or_false]
    omega
  · have n : ¬ (c ∈ [97, 98, 99, 100, 101, 102, 103, 104, 105, 106, 107, 108, 109, 110, 111, 112, 113, 114, 115, 116, 117, 118, 119, 120, 121, 122]) := by
      simp only [List.mem_cons, List.not_mem_nil, or_false]
      omega
    rw [decide_eq_false n]
    by_cases h1 : 97 ≤ c
    · rw [decide_eq_true h1, decide_eq_false (fun h2 => h ⟨h1, h2⟩)]
      rfl
    · rw [decide_eq_false h1]
      rfl
def reserved : List Str := ["block", "part", "end", "self"]
def nameOk (z : Str) : Bool := decide (1 ≤ z.length) && decide (z.length ≤ 8) && !decide (z ∈ reserved) && z.cps.toList.all isLet
def spName : Sp := fun vs H Q _ => ∃ z : Str, vs = [.str z] ∧ z.length ≤ 1000000 ∧ ∀ H', Same H H' → Q (.bl (nameOk z)) H'
def blockOk (z : Str) : Bool := (primOf z).isSome || (nameOk z && !decide (z ∈ portNames))
def spBlockText : Sp := fun vs H Q _ => ∃ z : Str, vs = [.str z] ∧ z.length ≤ 1000000 ∧ ∀ H', Same H H' → Q (.bl (blockOk z)) H'
theorem kit_str {K : PySem.W.Frag} : PySem.W.kitOne K (.type "str") (.type "str") = some true := by
  unfold PySem.W.kitOne
  rw [if_pos (by simp)]
/-! ### data, read back -/
theorem dp_tup_inv {K : PySem.W.Frag} {H : Hp} {v : V} {ds : List PyData} (h : Dp K H v (.tuple ds)) : ∃ a xs, v = .ref a ∧ SqT K H a xs ∧ DpAll K H xs ds := by
  cases h with
  | tup h hs => exact ⟨_, _, rfl, h, hs⟩
theorem dp_str_inv {K : PySem.W.Frag} {H : Hp} {v : V} {z : Str} (h : Dp K H v (.str z)) : v = .str z := by
  cases h
  rfl
theorem dps_len {K : PySem.W.Frag} {H : Hp} : ∀ {vs : List V} {ds : List PyData}, DpAll K H vs ds → vs.length = ds.length
  | _, _, .nil => rfl
  | _, _, .cons _ hs => by rw [List.length_cons, List.length_cons, dps_len hs]
theorem dps_get {K : PySem.W.Frag} {H : Hp} : ∀ {vs : List V} {ds : List PyData} {i : Nat} {v : V}, DpAll K H vs ds → vs[i]? = some v → ∃ d, ds[i]? = some d ∧ Dp K H v d
  | _, _, _, _, .nil, h => by simp at h
  | _, _, 0, _, .cons h hs, e => by
    rw [List.getElem?_cons_zero] at e
    cases e
    exact ⟨_, rfl, h⟩
  | _, _, i + 1, _, .cons h hs, e => by
    rw [List.getElem?_cons_succ] at e
    obtain ⟨d, e1, e2⟩ := dps_get hs e
    exact ⟨d, by rw [List.getElem?_cons_succ]; exact e1, e2⟩
theorem dps_map {K : PySem.W.Frag} {H : Hp} {α : Type} {f : α → PyData} {vs : List V} {l : List α} {i : Nat} {v : V} (h : DpAll K H vs (l.map f)) (e : vs[i]? = some v) : ∃ y, l[i]? = some y ∧ Dp K H v (f y) := by
  obtain ⟨d, e1, e2⟩ := dps_get h e
  rw [List.getElem?_map] at e1
  cases q : l[i]? with
  | none => rw [q] at e1; cases e1
  | some y =>
    rw [q] at e1
    cases e1
    exact ⟨y, rfl, e2⟩
theorem dps_strs_inv {K : PySem.W.Frag} {H : Hp} : ∀ {vs : List V} {l : List Str}, DpAll K H vs (l.map PyData.str) → vs = l.map V.str
  | _, [], .nil => rfl
  | _, _ :: _, .cons h hs => by
    rw [dp_str_inv h, dps_strs_inv hs]
    rfl
theorem dp_strs_inv {K : PySem.W.Frag} {H : Hp} {v : V} {l : List Str} (h : Dp K H v (dTx l)) : ∃ a, v = .ref a ∧ SqT K H a (l.map V.str) := by
  obtain ⟨a, xs, e, hs, hd⟩ := dp_tup_inv h
  rw [dps_strs_inv hd] at hs
  exact ⟨a, e, hs⟩
def dPair (p : Str × Str) : PyData := dTx [p.1, p.2]
theorem dp_pair_inv {K : PySem.W.Frag} {H : Hp} {v : V} {p : Str × Str} (h : Dp K H v (dPair p)) : ∃ a, v = .ref a ∧ SqT K H a [.str p.1, .str p.2] := dp_strs_inv h
def dWire (p : (Str × Str) × (Str × Str)) : PyData := .tuple [dPair p.1, dPair p.2]
theorem dp_wire_inv {K : PySem.W.Frag} {H : Hp} {v : V} {p : (Str × Str) × (Str × Str)} (h : Dp K H v (dWire p)) : ∃ a t s, v = .ref a ∧ SqT K H a [.ref t, .ref s] ∧ SqT K H t [.str p.1.1, .str p.1.2] ∧ SqT K H s [.str p.2.1, .str p.2.2] := by
  obtain ⟨a, xs, e, hs, hd⟩ := dp_tup_inv h
  cases hd with
  | cons h1 hd =>
    cases hd with
    | cons h2 hd =>
      cases hd
      obtain ⟨t, rfl, ht⟩ := dp_pair_inv h1
      obtain ⟨u, rfl, hu⟩ := dp_pair_inv h2
      exact ⟨a, t, u, e, hs, ht, hu⟩
/-! ### the text form -/
def portText (p : Str × Str) : Str := if p.1 = "" then p.2 else p.1 ++ "." ++ p.2
def headText (n : Str) (ins outs : List Str) : Str := "block " ++ n ++ "(" ++ Txt.join " " ins ++ ";" ++ Txt.join "" (outs.map fun o => " " ++ o) ++ ")"
def partText (p : Str × Str) : Str := "  part " ++ p.1 ++ " = " ++ p.2
def wireText (p : (Str × Str) × (Str × Str)) : Str := "  " ++ portText p.1 ++ " <- " ++ portText p.2
def textRows (n : Str) (ins outs : List Str) (parts : List (Str × Str)) (wires : List ((Str × Str) × (Str × Str))) : List Str := [headText n ins outs] ++ parts.map partText ++ wires.map wireText ++ [("end" : Str)]
def textOfD (n : Str) (ins outs : List Str) (parts : List (Str × Str)) (wires : List ((Str × Str) × (Str × Str))) : Str := Txt.join "\n" (textRows n ins outs parts wires)
def spPortText (K : PySem.W.Frag) : Sp := fun vs H Q _ => ∃ (a : Addr) (p : Str × Str), vs = [.ref a] ∧ SqT K H a [.str p.1, .str p.2] ∧ p.1.length ≤ 10000 ∧ p.2.length ≤ 10000 ∧ Q (.str (portText p)) H
theorem portText_len {p : Str × Str} {n : Nat} (h1 : p.1.length ≤ n) (h2 : p.2.length ≤ n) : (portText p).length ≤ 2 * n + 1 := by
  unfold portText
  split
  · omega
  · rw [PySem.Str.length_append, PySem.Str.length_append]
    have : (("." : Str)).length = 1 := by decide +kernel
    omega
theorem pg_tupK {X : Cx} (K : PySem.W.Frag) {es : List Expr} {k : Nat} {t : TGs} {n : Nat} {pos : Pos} (hc : X.calm = true) (h : PGs X es t) (hK : X.K = K := by rfl) (hn : (assignEach es X.env).length = n := by rfl) (hst : (assignEach es X.env).findIdx? (·.1) = none := by rfl) :
    PG X (.Tuple es k pos) (gTup K n t) := hK ▸ pg_tup hc h hn hst
theorem ip_ext {X : Cx} : PIp X .Add rExt2 := fun pins s σ H x y v u Q I rx ry h => iop_ext pins s σ H x y v u Q I rx ry h
theorem sum_len {ys : List Str} {n : Nat} (h : ∀ y ∈ ys, y.length ≤ n) : (ys.map (·.length)).sum ≤ n * ys.length := by
  induction ys with
  | nil => simp
  | cons y r ih =>
    have h1 := h y List.mem_cons_self
    have h2 := ih fun z hz => h z (List.mem_cons_of_mem _ hz)
    rw [List.map_cons, List.sum_cons, List.length_cons, Nat.mul_succ]
    omega
theorem join_len {a : Str} {ys : List Str} {n : Nat} (h : ∀ y ∈ ys, y.length ≤ n) : (Txt.join a ys).length ≤ n * ys.length + ys.length * a.length := by
  rw [TL.join_eq]
  have h1 := PySem.StrLaws.join_length_le a ys
  have h2 := sum_len h
  omega
/-- the words of a diagram are short -/
structure DShort (n : Str) (ins outs : List Str) (parts : List (Str × Str)) (wires : List ((Str × Str) × (Str × Str))) : Prop where
  n : n.length ≤ 100
  i : ins.length ≤ 100 ∧ ∀ x ∈ ins, x.length ≤ 100
  o : outs.length ≤ 100 ∧ ∀ x ∈ outs, x.length ≤ 100
  p : parts.length ≤ 1000 ∧ ∀ x ∈ parts, x.1.length ≤ 100 ∧ x.2.length ≤ 100
  w : wires.length ≤ 15000 ∧ ∀ x ∈ wires, (x.1.1.length ≤ 100 ∧ x.1.2.length ≤ 100) ∧ x.2.1.length ≤ 100 ∧ x.2.2.length ≤ 100
def spTextOf (K : PySem.W.Frag) : Sp := fun vs H Q _ => ∃ (n : Str) (i o p w : Addr) (ins outs : List Str) (parts : List (Str × Str)) (wires : List ((Str × Str) × (Str × Str))), vs = [.str n, .ref i, .ref o, .ref p, .ref w] ∧ DShort n ins outs parts wires ∧
  SqT K H i (ins.map V.str) ∧ SqT K H o (outs.map V.str) ∧ Dp K H (.ref p) (.tuple (parts.map dPair)) ∧ Dp K H (.ref w) (.tuple (wires.map dWire)) ∧ ∀ H', Same H H' → Q (.str (textOfD n ins outs parts wires)) H'
end Ly

set_option maxRecDepth 100000
set_option maxHeartbeats 4000000
/-! sorted(list of tuples) whose first items are numbers and texts; items of equal first items are the same -/
namespace Ly
open PySem PySem.Spec PyProof.Rows L2
inductive At where
  | i (n : Int)
  | s (x : Str)
deriving DecidableEq
def atV : At → V
  | .i n => .int n
  | .s x => .str x
def atLt : At → At → Bool
  | .i a, .i b => decide (a < b)
  | .i _, .s _ => true
  | .s _, .i _ => false
  | .s x, .s y => decide (x.cps.toList < y.cps.toList)
theorem str_ext {x y : Str} (h : x.cps.toList = y.cps.toList) : x = y := by
  cases x with
  | mk a =>
    cases y with
    | mk b =>
      have : a = b := by
        have q := congrArg List.toArray h
        simpa using q
      rw [this]
theorem nl_tri : ∀ a b : List Nat, a = b ∨ a < b ∨ b < a
  | [], [] => .inl rfl
  | [], b :: bs => .inr (.inl (by simp))
  | a :: as, [] => .inr (.inr (by simp))
  | a :: as, b :: bs => by
    rcases Nat.lt_trichotomy a b with h | h | h
    · exact .inr (.inl (List.cons_lt_cons_iff.mpr (.inl h)))
    · subst h
      rcases nl_tri as bs with e | e | e
      · exact .inl (by rw [e])
      · exact .inr (.inl (List.cons_lt_cons_iff.mpr (.inr ⟨rfl, e⟩)))
      · exact .inr (.inr (List.cons_lt_cons_iff.mpr (.inr ⟨rfl, e⟩)))
    · exact .inr (.inr (List.cons_lt_cons_iff.mpr (.inl h)))
theorem nl_irr : ∀ a : List Nat, ¬ a < a
  | [], h => by simp at h
  | a :: as, h => by
    rcases List.cons_lt_cons_iff.mp h with e | ⟨_, e⟩
    · exact Nat.lt_irrefl _ e
    · exact nl_irr as e
theorem nl_trans : ∀ {a b c : List Nat}, a < b → b < c → a < c
  | _, _, [], _, h => by simp at h
  | _, [], _ :: _, h, _ => by simp at h
  | [], _ :: _, _ :: _, _, _ => by simp
  | a :: as, b :: bs, c :: cs, h1, h2 => by
    rcases List.cons_lt_cons_iff.mp h1 with e1 | ⟨e1, f1⟩ <;> rcases List.cons_lt_cons_iff.mp h2 with e2 | ⟨e2, f2⟩
    · exact List.cons_lt_cons_iff.mpr (.inl (Nat.lt_trans e1 e2))
    · exact List.cons_lt_cons_iff.mpr (.inl (e2 ▸ e1))
    · exact List.cons_lt_cons_iff.mpr (.inl (e1 ▸ e2))
    · exact List.cons_lt_cons_iff.mpr (.inr ⟨e1.trans e2, nl_trans f1 f2⟩)
theorem at_tri : ∀ a b : At, a = b ∨ atLt a b = true ∨ atLt b a = true
  | .i a, .i b => by
    rcases Int.lt_trichotomy a b with h | h | h
    · exact .inr (.inl (decide_eq_true h))
    · exact .inl (by rw [h])
    · exact .inr (.inr (decide_eq_true h))
  | .i _, .s _ => .inr (.inl rfl)
  | .s _, .i _ => .inr (.inr rfl)
  | .s x, .s y => by
    rcases nl_tri x.cps.toList y.cps.toList with h | h | h
    · exact .inl (by rw [str_ext h])
    · exact .inr (.inl (decide_eq_true h))
    · exact .inr (.inr (decide_eq_true h))
theorem at_irr : ∀ a : At, atLt a a = false
  | .i a => decide_eq_false (Int.lt_irrefl a)
  | .s x => decide_eq_false (nl_irr _)
theorem at_trans : ∀ {a b c : At}, atLt a b = true → atLt b c = true → atLt a c = true
  | .i a, .i b, .i c, h1, h2 => decide_eq_true (Int.lt_trans (of_decide_eq_true h1) (of_decide_eq_true h2))
  | .i _, .i _, .s _, _, _ => rfl
  | .i _, .s _, .s _, _, _ => rfl
  | .i _, .s _, .i _, _, h => by cases h
  | .s _, .i _, _, h, _ => by cases h
  | .s _, .s _, .i _, _, h => by cases h
  | .s x, .s y, .s z, h1, h2 => decide_eq_true (nl_trans (of_decide_eq_true h1) (of_decide_eq_true h2))
def lexA : List At → List At → Bool
  | [], [] => false
  | [], _ :: _ => true
  | _ :: _, [] => false
  | a :: as, b :: bs => if a = b then lexA as bs else atLt a b
theorem lex_tri : ∀ a b : List At, a = b ∨ lexA a b = true ∨ lexA b a = true
  | [], [] => .inl rfl
  | [], _ :: _ => .inr (.inl rfl)
  | _ :: _, [] => .inr (.inr rfl)
  | a :: as, b :: bs => by
    by_cases e : a = b
    · subst e
      rcases lex_tri as bs with h | h | h
      · exact .inl (by rw [h])
      · exact .inr (.inl (by unfold lexA; rw [if_pos rfl]; exact h))
      · exact .inr (.inr (by unfold lexA; rw [if_pos rfl]; exact h))
    · rcases at_tri a b with h | h | h
      · exact absurd h e
      · exact .inr (.inl (by unfold lexA; rw [if_neg e]; exact h))
      · exact .inr (.inr (by unfold lexA; rw [if_neg (Ne.symm e)]; exact h))
theorem lex_irr : ∀ a : List At, lexA a a = false
  | [] => rfl
  | a :: as => by unfold lexA; rw [if_pos rfl]; exact lex_irr as
theorem lex_trans : ∀ {a b c : List At}, lexA a b = true → lexA b c = true → lexA a c = true
  | [], [], _, h, _ => by cases h
  | [], _ :: _, [], _, h => by cases h
  | [], _ :: _, _ :: _, _, _ => rfl
  | _ :: _, [], _, h, _ => by cases h
  | _ :: _, _ :: _, [], _, h => by cases h
  | a :: as, b :: bs, c :: cs, h1, h2 => by
    unfold lexA at h1 h2 ⊢
    by_cases e1 : a = b
    · subst e1
      rw [if_pos rfl] at h1
      by_cases e2 : a = c
      · rw [if_pos e2] at h2 ⊢
        exact lex_trans h1 h2
      · rw [if_neg e2] at h2 ⊢
        exact h2
    · rw [if_neg e1] at h1
      by_cases e2 : b = c
      · subst e2
        rw [if_neg e1]
        exact h1
      · rw [if_neg e2] at h2
        have h3 := at_trans h1 h2
        by_cases e3 : a = c
        · subst e3
          rw [at_irr] at h3
          cases h3
        · rw [if_neg e3]
          exact h3
theorem swo_lexA {α : Type} (k : α → List At) : SrtO.Swo fun v u => lexA (k v) (k u) := by
  have asy : ∀ a b : List At, lexA a b = true → lexA b a = false := fun a b h => by
    cases e : lexA b a with
    | false => rfl
    | true =>
      have := lex_trans h e
      rw [lex_irr] at this
      cases this
  refine ⟨fun x y h => asy _ _ h, fun x y z h1 h2 => ?_⟩
  rcases lex_tri (k x) (k y) with e | e | e
  · rw [e]; exact h2
  · rcases lex_tri (k y) (k z) with f | f | f
    · rw [← f]; exact h1
    · exact asy _ _ (lex_trans e f)
    · rw [f] at h2; cases h2
  · rw [e] at h1; cases h1
/-! ### items -/
def AtR (a : At) (u : Value) : Prop := RelV (atV a) u
/-- v is a tuple of the atoms as and of further items -/
def IsT (h : Heap) (v : Value) (as : List At) : Prop := ∃ (a : Addr) (o : Obj) (us tl : List Value) (n : Nat), v = .ref a ∧ h.get? a = some o ∧ o.cls = .type "tuple" ∧ o.data = .seq (us ++ tl).toArray n ∧ Paired AtR as us
theorem IsT.keeps {h h' : Heap} {v : Value} {as : List At} (p : IsT h v as) (k : ∀ b o, h.get? b = some o → o.cls = .type "tuple" → h'.get? b = some o) : IsT h' v as := by
  obtain ⟨a, o, us, tl, n, e, ho, hc, hd⟩ := p
  exact ⟨a, o, us, tl, n, e, k _ _ ho hc, hc, hd⟩
/-- of the same kind, place by place -/
def sameK : List At → List At → Bool
  | [], [] => true
  | .i _ :: as, .i _ :: bs => sameK as bs
  | .s _ :: as, .s _ :: bs => sameK as bs
  | _, _ => false
section
variable {prog : Program} {w : World} {A : Around} {s : Shared}
theorem at_eq {a b : At} {u v : Value} (ru : AtR a u) (rv : AtR b v) (hk : sameK [a] [b] = true) : SeqAt.EqAt A s u v (decide (a = b)) := by
  match a, b, hk with
  | .i x, .i y, _ =>
    obtain ⟨t, rfl⟩ := ru
    obtain ⟨t', rfl⟩ := rv
    have e := SeqAt.EqAt.int_int (A := A) (s := s) x t y t'
    have : decide (At.i x = At.i y) = (x == y) := by
      by_cases h : x = y
      · rw [h]; simp
      · rw [beq_eq_false_iff_ne.mpr h, decide_eq_false fun z => h (At.i.inj z)]
    rw [this]
    exact e
  | .s x, .s y, _ =>
    obtain ⟨t, rfl⟩ := ru
    obtain ⟨t', rfl⟩ := rv
    have e := SeqAt.EqAt.str_str (A := A) (s := s) x t y t'
    have : decide (At.s x = At.s y) = (x == y) := by
      by_cases h : x = y
      · rw [h]; simp
      · rw [beq_eq_false_iff_ne.mpr h, decide_eq_false fun z => h (At.s.inj z)]
    rw [this]
    exact e
theorem at_less {a b : At} {u v : Value} {f : Bool} {Q : Bool → Shared → Prop} {E : Value → Shared → Prop} (ru : AtR a u) (rv : AtR b v) (hk : sameK [a] [b] = true) (h : Q (atLt a b) s) : wpAny (model prog w) A (oneLt' f u v) Q E s := by
  match a, b, hk with
  | .i x, .i y, _ =>
    obtain ⟨t, rfl⟩ := ru
    obtain ⟨t', rfl⟩ := rv
    exact oneLt_any_int h
  | .s x, .s y, _ =>
    obtain ⟨t, rfl⟩ := ru
    obtain ⟨t', rfl⟩ := rv
    exact oneLt_any_str h
theorem kat_atoms {b fin : Bool} {Q : Bool → Shared → Prop} {tl tl' : List Value} : ∀ {as bs : List At} {us vs : List Value} {i : Nat}, Paired AtR as us → Paired AtR bs vs → sameK as bs = true → as ≠ bs → Q (lexA as bs) s →
    PySem.W.KatLex prog w A b fin Q ((us ++ tl).zip (vs ++ tl')) i s
  | [], [], _, _, _, _, _, _, ne, _ => absurd rfl ne
  | [], _ :: _, _, _, _, _, _, hk, _, _ => by cases hk
  | .i _ :: _, [], _, _, _, _, _, hk, _, _ => by cases hk
  | .s _ :: _, [], _, _, _, _, _, hk, _, _ => by cases hk
  | x :: as, y :: bs, _, _, i, .cons ru pu, .cons rv pv, hk, ne, h => by
    have hk1 : sameK [x] [y] = true ∧ sameK as bs = true := by
      match x, y, hk with
      | .i _, .i _, hk => exact ⟨rfl, hk⟩
      | .s _, .s _, hk => exact ⟨rfl, hk⟩
    rw [List.cons_append, List.cons_append, List.zip_cons_cons]
    refine PySem.W.kat_cons (at_eq ru rv hk1.1 prog w _ _ ?_)
    refine PySem.W.kat_go (fun e => ?_) (fun e => ?_)
    · have e' : x = y := of_decide_eq_true e
      subst e'
      refine PySem.W.kat_yes (kat_atoms pu pv hk1.2 (fun z => ne (by rw [z])) ?_)
      unfold lexA at h
      rw [if_pos rfl] at h
      exact h
    · have e' : ¬ x = y := of_decide_eq_false e
      refine PySem.W.kat_no (at_less ru rv hk1.1 ?_)
      unfold lexA at h
      rw [if_neg e'] at h
      exact h
theorem kat_same {b fin : Bool} {Q : Bool → Shared → Prop} : ∀ {us : List Value} {i : Nat}, Q fin s → PySem.W.KatLex prog w A b fin Q (us.zip us) i s
  | [], _, h => PySem.W.kat_nil h
  | u :: us, i, h => by
    rw [List.zip_cons_cons]
    refine PySem.W.kat_cons (SeqAt.EqAt.same u prog w _ _ ?_)
    exact PySem.W.kat_yes (kat_same h)
theorem atoms_cmp {vs : List Value} {k : Value → List At} {c : Bool} (hp : ∀ v ∈ vs, IsT s.heap v (k v)) (hk : ∀ v ∈ vs, ∀ u ∈ vs, sameK (k v) (k u) = true) (hu : ∀ v ∈ vs, ∀ u ∈ vs, k v = k u → v = u) :
    SrtO.Cmp prog w A s (tuples' c) (fun p => p.1 ∈ vs) (SrtO.lt2 fun v u => lexA (k v) (k u)) := by
  intro p q hm hm'
  show wpAny (model prog w) A (keyLt' (tuples' c) p.1 q.1) (fun r s' => s' = s ∧ r = lexA (k p.1) (k q.1)) (fun _ _ => False) s
  obtain ⟨a, o, us, tl, n, e, ho, hc, hd, pu⟩ := hp _ hm
  obtain ⟨a', o', us', tl', n', e', ho', hc', hd', pu'⟩ := hp _ hm'
  have kk := hk _ hm _ hm'
  by_cases eq : k p.1 = k q.1
  · have ev := hu _ hm _ hm' eq
    rw [← ev] at e' ⊢
    rw [e] at e' ⊢
    cases e'
    refine PySem.W.kat_lt ho hd ho hd ?_
    refine kat_same ⟨rfl, ?_⟩
    rw [lex_irr]
    exact decide_eq_false (Nat.lt_irrefl _)
  · rw [e, e']
    refine PySem.W.kat_lt ho hd ho' hd' ?_
    exact kat_atoms pu pu' kk eq ⟨rfl, by rw [← e, ← e']⟩
/-- the type of an atom -/
def atT : At → String
  | .i _ => "int"
  | .s _ => "str"
theorem atoms_first {h : Heap} {k : Value → List At} : ∀ vs : List Value, (∀ v ∈ vs, IsT h v (k v) ∧ k v ≠ []) → ∃ fs : List Value, PySem.W.KatTups h vs fs ∧ fs.length = vs.length ∧ ∀ f ∈ fs, ∃ v ∈ vs, ∃ x r, k v = x :: r ∧ AtR x f
  | [], _ => ⟨[], PySem.W.KatTups.nil, rfl, fun f hf => by simp at hf⟩
  | v :: vs, x => by
    obtain ⟨fs, kt, hl, hi⟩ := atoms_first vs fun u hu => x u (List.mem_cons_of_mem _ hu)
    obtain ⟨⟨a, o, us, tl, n, rfl, ho, hc, hd, pu⟩, hne⟩ := x v List.mem_cons_self
    match hk : k (Value.ref a), hne, pu with
    | y :: r, _, .cons (b := f) ry pr =>
      refine ⟨f :: fs, PySem.W.KatTups.cons ho hc hd (by simp) kt, by rw [List.length_cons, List.length_cons, hl], fun f' hf => ?_⟩
      rcases List.mem_cons.mp hf with rfl | hf
      · exact ⟨_, List.mem_cons_self, y, r, hk, ry⟩
      · obtain ⟨v', hv', z⟩ := hi f' hf
        exact ⟨v', List.mem_cons_of_mem _ hv', z⟩
theorem sameK_head {x y : At} {r t : List At} (h : sameK (x :: r) (y :: t) = true) : atT x = atT y := by
  match x, y, h with
  | .i _, .i _, _ => rfl
  | .s _, .s _, _ => rfl
theorem atT_no (x : At) : (Value.type (atT x) != Value.type "tuple") = true := by
  cases x <;> (first | decide +kernel | rfl | decide)
theorem atoms_sortable {a : Addr} {vs : List Value} {k : Value → List At} (h0 : 0 < vs.length) (hp : ∀ v ∈ vs, IsT s.heap v (k v)) (hne : ∀ v ∈ vs, k v ≠ []) (hk : ∀ v ∈ vs, ∀ u ∈ vs, sameK (k v) (k u) = true) (hu : ∀ v ∈ vs, ∀ u ∈ vs, k v = k u → v = u)
    (ha : ∀ o, s.heap.get? a = some o → o.cls ≠ .type "tuple") : SrtO.SortableO prog w A s a vs fun v u => lexA (k v) (k u) := by
  intro h' keep
  have hp' : ∀ v ∈ vs, IsT h' v (k v) := fun v hm => (hp v hm).keeps fun b o e c => keep b o (fun z => by subst z; exact ha o e c) e
  obtain ⟨fs, h1, h2, h3⟩ := atoms_first (h := h') (k := k) vs fun v hm => ⟨hp' v hm, hne v hm⟩
  obtain ⟨v0, hv0⟩ : ∃ v, v ∈ vs := ⟨vs[0], List.getElem_mem h0⟩
  obtain ⟨x0, r0, e0⟩ : ∃ x r, k v0 = x :: r := by
    cases e : k v0 with
    | nil => exact absurd e (hne v0 hv0)
    | cons x r => exact ⟨x, r, rfl⟩
  refine ⟨tuples' true, fun Q E hq => ?_, atoms_cmp hp' hk hu⟩
  refine PySem.W.kat_kind (T := .type (atT x0)) h1 (by omega) (fun f hm => ?_) (by simp) ?_
  · obtain ⟨v, hv, x, r, e, rx⟩ := h3 f hm
    have q := hk v0 hv0 v hv
    rw [e0, e] at q
    rw [sameK_head q]
    cases x with
    | i n =>
      obtain ⟨t, rfl⟩ := rx
      exact PySem.W.Looks.now
    | s z =>
      obtain ⟨t, rfl⟩ := rx
      exact PySem.W.Looks.now
  · rw [atT_no]
    exact hq
theorem sorted_atoms {l : Addr} {vs : List Value} {k : Value → List At} {Q : Value → Shared → Prop} {E : Value → Shared → Prop} (hl : s.heap.IsList l vs.toArray) (hz : vs.length ≤ sizeLine) (hp : ∀ v ∈ vs, IsT s.heap v (k v)) (hne : ∀ v ∈ vs, k v ≠ []) (hk : ∀ v ∈ vs, ∀ u ∈ vs, sameK (k v) (k u) = true) (hu : ∀ v ∈ vs, ∀ u ∈ vs, k v = k u → v = u)
    (h : ∀ (h' : Heap) (d : Addr) (out : List Value), SrtO.Srtd (fun v u => lexA (k v) (k u)) out → SrtO.Stb (fun v u => lexA (k v) (k u)) out vs → (∀ b o, s.heap.get? b = some o → h'.get? b = some o) → s.heap.objs.size ≤ d → (∃ n, h'.get? d = some (seqObj "list" out.toArray n)) → Q (.ref d) { s with heap := h' }) :
    wpAny (model prog w) A (call (.builtin "sorted") [.ref l]) Q E s := by
  refine SrtO.sorted_ord (swo_lexA k) hl hz (fun h2 h₁ a ha kk => ?_) fun out hs hb => ?_
  · refine atoms_sortable (s := { s with heap := h₁ }) (by omega) (fun v hm => (hp v hm).keeps fun b o e _ => (kk b o e).2) hne hk hu fun o e => ?_
    have e' := e.symm.trans ha
    cases e'
    intro c
    exact absurd (Value.type.inj c) (by decide)
  · exact h _ _ out hs hb (fun b o e => sortedAll_old e) (Nat.le_succ _) (sortedAll_at s.heap vs out.toArray)
end
theorem vals_split : ∀ {as : List At} {ys : List V} {its : List Value}, Vals (as.map atV ++ ys) its → ∃ us tl, its = us ++ tl ∧ Paired AtR as us
  | [], _, its, _ => ⟨[], its, rfl, .nil⟩
  | _ :: _, _, _, .cons r t => by
    obtain ⟨us, tl, e, p⟩ := vals_split t
    exact ⟨_ :: us, tl, by rw [e]; rfl, .cons r p⟩
/-- sorted(xs): tuples that differ in their first items -/
def rSortedAt (K : PySem.W.Frag) : List V → Hp → VK → Prop := fun vs H Q => ∃ (a : Addr) (xs : List V) (k : V → List At), vs = [V.ref a] ∧ SqL K H a xs ∧ (∀ x ∈ xs, ∃ t ys, x = V.ref t ∧ H t = some (.tup ((k x).map atV ++ ys))) ∧ (∀ x ∈ xs, k x ≠ []) ∧
  (∀ x ∈ xs, ∀ y ∈ xs, sameK (k x) (k y) = true) ∧ (∀ x ∈ xs, ∀ y ∈ xs, k x = k y → x = y) ∧
  ∀ ys p, SrtO.Srtd (fun x y => lexA (k x) (k y)) ys → ys.Perm xs → H p = none → Q (.ref p) (upd H p (.lst ys))
theorem cr_sortedAt {X : Cx} (K : PySem.W.Frag) (hK : X.K = K := by rfl) : CallR X (.builtin "sorted") (rSortedAt K) := by
  subst hK
  intro pins s σ H vs us Q I r h
  obtain ⟨a, xs, k, rfl, hs, hx, hne, hk, hu, q⟩ := h
  obtain ⟨its, rv, hl, hz⟩ := I.list hs
  obtain ⟨u, rfl, ru⟩ := vals1 r
  obtain rfl : u = Value.ref a := ru
  obtain ⟨e1, e2⟩ := refs_back rv fun x m => by
    obtain ⟨t, _, e, _⟩ := hx x m
    exact ⟨t, e⟩
  have mem : ∀ v ∈ its, backV v ∈ xs := fun v hv => by rw [e1]; exact List.mem_map.mpr ⟨v, hv, rfl⟩
  refine sorted_atoms (k := fun u => k (backV u)) hl.isList (by rw [← rv.length]; exact hz) (fun v hv => ?_) (fun v hv => hne _ (mem v hv)) (fun v hv u hu' => hk _ (mem v hv) _ (mem u hu')) (fun v hv u hu' e => ?_) fun h' d out h1 h2 kp hd hn => ?_
  · obtain ⟨t, rfl⟩ := e2 v hv
    obtain ⟨t', ys, e, ht⟩ := hx _ (mem _ hv)
    cases e
    obtain ⟨_, its2, r2, o, ho, hc, n, hd⟩ := I.hok _ _ ht
    obtain ⟨us, tl, rfl, pu⟩ := vals_split r2
    exact ⟨t, o, us, tl, n, rfl, ho, hc, hd, pu⟩
  · obtain ⟨t, rfl⟩ := e2 v hv
    obtain ⟨t', rfl⟩ := e2 u hu'
    have := hu _ (mem _ hv) _ (mem _ hu') e
    cases this
    rfl
  · have h3 : ∀ u ∈ out, ∃ a, u = Value.ref a := fun u hu => e2 u (h2.perm.mem_iff.mp hu)
    obtain ⟨n, hn⟩ := hn
    have hb : (out.map backV).Perm xs := by
      rw [e1]
      exact h2.perm.map backV
    refine ⟨.ref d, upd H d (.lst (out.map backV)), I.laid (t' := s.toks) kp hd ⟨?_, out, n, vals_back h3, hn⟩, rfl, q _ d (SrtO.srtd_map h1) hb (I.hok.fresh hd)⟩
    rw [hb.length_eq]
    exact hz
end Ly

set_option maxRecDepth 100000
set_option maxHeartbeats 4000000
/-! the reader of a diagram's rows -/
namespace Ly
open PySem PySem.Spec PyProof.Rows L2
abbrev Prt := Str × Str
/-- what a reader has read -/
structure RSt where
  name : Option Str
  ins : List Str
  outs : List Str
  parts : List Prt
  wires : List (Prt × Prt)
  done : Bool
def nameV : Option Str → V
  | none => .non
  | some n => .str n
def fsR (n : V) (i o p w : Addr) (d : Bool) : List (Str × V) := [("name", n), ("inputs", .ref i), ("outputs", .ref o), ("parts", .ref p), ("wires", .ref w), ("is_done", .bl d)]
def keyP (p : Prt) : List Key := [Sum.inr p.1, Sum.inr p.2]
/-- the wires of a reader: a dict with pairs as keys, pairs as values -/
def WiresAt (K : PySem.W.Frag) (H : Hp) (w : Addr) (ws : List (Prt × Prt)) : Prop := ∃ kvs : List (List Key × V), H w = some (.dT kvs) ∧ Paired (fun (x : Prt × Prt) (q : List Key × V) => q.1 = keyP x.1 ∧ ∃ t, q.2 = V.ref t ∧ SqT K H t [.str x.2.1, .str x.2.2]) ws kvs
def PartsAt (K : PySem.W.Frag) (H : Hp) (p : Addr) (ps : List Prt) : Prop := ∃ xs : List V, H p = some (.lst xs) ∧ DpAll K H xs (ps.map dPair)
structure ReaderAt (K : PySem.W.Frag) (C : Addr) (H : Hp) (x dx i o p w : Addr) (r : RSt) : Prop where
  obj : H x = some (.ins C dx (fsR (nameV r.name) i o p w r.done))
  ins : SqT K H i (r.ins.map V.str)
  outs : SqT K H o (r.outs.map V.str)
  parts : PartsAt K H p r.parts
  wires : WiresAt K H w r.wires
theorem fsR_name {n i o p w d} : (fsR n i o p w d).lookup ("name" : Str) = some n := by kernel_rfl
theorem fsR_inputs {n i o p w d} : (fsR n i o p w d).lookup ("inputs" : Str) = some (.ref i) := by kernel_rfl
theorem fsR_outputs {n i o p w d} : (fsR n i o p w d).lookup ("outputs" : Str) = some (.ref o) := by kernel_rfl
theorem fsR_parts {n i o p w d} : (fsR n i o p w d).lookup ("parts" : Str) = some (.ref p) := by kernel_rfl
theorem fsR_wires {n i o p w d} : (fsR n i o p w d).lookup ("wires" : Str) = some (.ref w) := by kernel_rfl
theorem fsR_done {n i o p w d} : (fsR n i o p w d).lookup ("is_done" : Str) = some (.bl d) := by kernel_rfl
theorem fsR_putn {n i o p w d m} : putF "name" m (fsR n i o p w d) = fsR m i o p w d := by kernel_rfl
theorem fsR_puti {n i o p w d j} : putF "inputs" (.ref j) (fsR n i o p w d) = fsR n j o p w d := by kernel_rfl
theorem fsR_puto {n i o p w d j} : putF "outputs" (.ref j) (fsR n i o p w d) = fsR n i j p w d := by kernel_rfl
theorem fsR_putd {n i o p w d e} : putF "is_done" (.bl e) (fsR n i o p w d) = fsR n i o p w e := by kernel_rfl
def rs0 : RSt := ⟨none, [], [], [], [], false⟩
def spRI (K : PySem.W.Frag) (C : Addr) : Sp := fun vs H Q _ => ∃ (x dx : Addr), vs = [.ref x] ∧ H x = some (.ins C dx []) ∧ ∀ i o p w H', SameX x H H' → H p = none → H w = none → p ≠ w → ReaderAt K C H' x dx i o p w rs0 → Q .non H'
def fr1 : List (Str × V) := [("name", V.non)]
def fr2 (i : Addr) : List (Str × V) := [("name", V.non), ("inputs", .ref i)]
def fr3 (i o : Addr) : List (Str × V) := [("name", V.non), ("inputs", .ref i), ("outputs", .ref o)]
def fr4 (i o p : Addr) : List (Str × V) := [("name", V.non), ("inputs", .ref i), ("outputs", .ref o), ("parts", .ref p)]
def fr5 (i o p w : Addr) : List (Str × V) := [("name", V.non), ("inputs", .ref i), ("outputs", .ref o), ("parts", .ref p), ("wires", .ref w)]
theorem fr_put1 : putF "name" .non [] = fr1 := by kernel_rfl
theorem fr_put2 {i : Addr} : putF "inputs" (.ref i) fr1 = fr2 i := by kernel_rfl
theorem fr_put3 {i o : Addr} : putF "outputs" (.ref o) (fr2 i) = fr3 i o := by kernel_rfl
theorem fr_put4 {i o p : Addr} : putF "parts" (.ref p) (fr3 i o) = fr4 i o p := by kernel_rfl
theorem fr_put5 {i o p w : Addr} : putF "wires" (.ref w) (fr4 i o p) = fr5 i o p w := by kernel_rfl
theorem fr_put6 {i o p w : Addr} : putF "is_done" (.bl false) (fr5 i o p w) = fsR .non i o p w false := by kernel_rfl
/-! ### the pure reader -/
def portOf (parts : List Prt) (own : List Str) (z : Str) : Option Prt :=
  match Txt.split z "." with
  | [_] => if z ∈ own then some ("", z) else none
  | [a, b] => if (decide (a ∈ parts.map (·.1)) && nameOk b) = true then some (a, b) else none
  | _ => none
def spPortOf (K : PySem.W.Frag) (C : Addr) : Sp := fun vs H Q _ => ∃ (x dx i o p w q : Addr) (z : Str) (own : List Str) (r : RSt), vs = [.ref x, .str z, .ref q] ∧ ReaderAt K C H x dx i o p w r ∧ z.length ≤ 100100 ∧ SqT K H q (own.map V.str) ∧ r.parts.length ≤ 1000 ∧
  ∀ v H', Same H H' → (match portOf r.parts own z with | none => v = .non | some pr => ∃ t, v = .ref t ∧ H' t = some (.tup [.str pr.1, .str pr.2])) → Q v H'
def spPName : Sp := spName
theorem val_some {kvs : List (Key × V)} {k : Key} : (valV kvs k).isSome = kvs.any fun p => decide (p.1 = k) := by
  unfold valV
  rw [Option.isSome_map]
  induction kvs with
  | nil => rfl
  | cons p r ih =>
    rw [List.find?_cons, List.any_cons]
    cases h : decide (p.1 = k) with
    | true => rfl
    | false => rw [Bool.false_or]; exact ih
theorem put_some {kvs : List (Key × V)} {k0 k : Key} {v : V} : (valV (putK kvs k0 v) k).isSome = ((valV kvs k).isSome || decide (k0 = k)) := by
  rw [val_some, val_some]
  unfold putK
  split
  · rename_i h
    have e : (kvs.map fun kv => if kv.1 = k0 then (kv.1, v) else kv).any (fun p => decide (p.1 = k)) = kvs.any fun p => decide (p.1 = k) := by
      rw [List.any_map]
      congr 1
      funext p
      show decide ((if p.1 = k0 then (p.1, v) else p).1 = k) = decide (p.1 = k)
      split <;> rfl
    rw [e]
    by_cases hk : k0 = k
    · subst hk
      rw [h]
      rfl
    · rw [decide_eq_false hk, Bool.or_false]
  · rw [List.any_append]
    simp
theorem merge_some : ∀ (more : List (Key × V)) (kvs : List (Key × V)) {k : Key}, (valV (mergeK kvs more) k).isSome = ((valV kvs k).isSome || more.any fun p => decide (p.1 = k))
  | [], kvs, k => by simp [mergeK]
  | p :: r, kvs, k => by
    have e : mergeK kvs (p :: r) = mergeK (putK kvs p.1 p.2) r := rfl
    rw [e, merge_some r, put_some, List.any_cons, Bool.or_assoc]
def partKV (q : Prt) : Key × V := (Sum.inr q.1, V.str q.2)
theorem parts_pairs {K : PySem.W.Frag} {H : Hp} : ∀ {xs : List V} {ps : List Prt}, DpAll K H xs (ps.map dPair) → ∃ as : List Addr, xs = as.map V.ref ∧ Paired (fun p (kv : Key × V) => SqT K H p [kV kv.1, kv.2]) as (ps.map partKV)
  | _, [], .nil => ⟨[], rfl, .nil⟩
  | _, q :: r, .cons h hs => by
    obtain ⟨as, e, p⟩ := parts_pairs hs
    obtain ⟨a, rfl, ha⟩ := dp_pair_inv h
    exact ⟨a :: as, by rw [e]; rfl, .cons ha p⟩
theorem parts_in {ps : List Prt} {a : Str} : (valV (mergeK [] (ps.map partKV)) (Sum.inr a)).isSome = decide (a ∈ ps.map (·.1)) := by
  rw [merge_some]
  show (false || _) = _
  rw [Bool.false_or]
  induction ps with
  | nil => simp
  | cons q r ih =>
    rw [List.map_cons, List.any_cons, ih, List.map_cons]
    show (decide ((Sum.inr q.1 : Key) = Sum.inr a) || _) = _
    by_cases h : q.1 = a
    · rw [decide_eq_true (by rw [h]), Bool.true_or, decide_eq_true (by rw [h]; exact List.mem_cons_self)]
    · rw [decide_eq_false (fun z => h (Sum.inr.inj z)), Bool.false_or]
      by_cases h2 : a ∈ r.map (·.1)
      · rw [decide_eq_true h2, decide_eq_true (List.mem_cons_of_mem _ h2)]
      · rw [decide_eq_false h2, decide_eq_false fun z => (List.mem_cons.mp z).elim (fun e => h e.symm) h2]
theorem flat_strs : ∀ l : List Str, (l.map V.str).all flatV = true
  | [] => rfl
  | x :: r => by
    rw [List.map_cons, List.all_cons, flat_strs r]
    rfl
end Ly

set_option maxRecDepth 100000
set_option maxHeartbeats 4000000
/-! d != {} for any dict -/
namespace Ly
open PySem PySem.Spec PyProof.Rows L2
section
variable {prog : Program} {w : World} {A : Around} {E : Value → Shared → Prop} {s : Shared}
theorem same_empty {nm : String} {a b : Addr} {oa ob : Obj} {es : Array DictEntry} {ep ep' : Nat} {Q : Bool → Shared → Prop} (ha : (a == sysModules) = false) (hb : (b == sysModules) = false)
    (hoa : s.heap.get? a = some oa) (hda : oa.data = .dict es ep) (hob : s.heap.get? b = some ob) (hdb : ob.data = .dict #[] ep') (h : Q (es.size == 0) s) :
    wpAny (model prog w) A (Builtin.Dict.samePairs nm a b) Q E s := by
  unfold Builtin.Dict.samePairs Builtin.Dict.showsAll
  rw [if_neg (show ¬ (a == sysModules) = true by rw [ha]; exact Bool.false_ne_true), if_neg (show ¬ (b == sysModules) = true by rw [hb]; exact Bool.false_ne_true)]
  refine wpAny_bind (wpAny_pure (wpAny_bind (wpAny_pure ?_)))
  refine wpAny_bind (wpAny_dictEntries hoa hda ?_)
  dsimp only
  refine wpAny_bind (wpAny_dictEntries hob hdb ?_)
  by_cases hsz : es.size = 0
  case neg =>
    rw [if_pos (by simpa using hsz)]
    have hbf : (es.size == 0) = false := by simpa using hsz
    rw [hbf] at h
    exact wpAny_bind (wpAny_rule (wpAny_pure h))
  case pos =>
    rw [hsz] at h
    rw [if_neg (by rw [hsz]; simp)]
    refine wpAny_bind (wpAny_dictEpoch hoa hda ?_)
    refine wpAny_bind ?_
    rw [Std.Legacy.Range.forIn_eq_forIn_range']
    simp only [Std.Legacy.Range.size, Nat.sub_zero, Nat.add_sub_cancel, Nat.div_one]
    rw [hsz]
    exact wpAny_pure (wpAny_pure h)
theorem ne_empty {a b : Addr} {oa ob : Obj} {es : Array DictEntry} {ep ep' : Nat} {Q : Value → Shared → Prop} (ha : (a == sysModules) = false) (hb : (b == sysModules) = false) (xa : oa.ExactDict) (xb : ob.ExactDict)
    (hoa : s.heap.get? a = some oa) (hda : oa.data = .dict es ep) (hob : s.heap.get? b = some ob) (hdb : ob.data = .dict #[] ep') (hu : A.units < cLine) (h : Q (.bool (!(es.size == 0))) s) :
    wpAny (model prog w) A (compareOp .NotEq (.ref a) (.ref b)) Q E s := by
  have ta : s.TypeIs (.ref a) "dict" := ⟨oa, hoa, xa.1⟩
  have tb : s.TypeIs (.ref b) "dict" := ⟨ob, hob, xb.1⟩
  refine wpAny_richCompare_same_room (op := .NotEq) ta tb PySem.F.slot_dict_ne (wpAny_call_entry PySem.F.slot_dict_ne ta PySem.F.entry_dict_ne ?_ (PySem.F.args_dict_ne_2 _ _)) hu
  show wpAny _ _ (Builtin.Dict.dictSlotArgs "__ne__" ⟨[.ref a, .ref b], []⟩ >>= _) _ _ s
  refine wpAny_bind ?_
  unfold Builtin.Dict.dictSlotArgs
  refine wpAny_bind (wpAny_notOrdered_dict ta ?_)
  show wpAny _ _ (pure (Value.ref a, Value.ref b)) _ _ s
  refine wpAny_pure ?_
  refine wpAny_bind (wpAny_isInstance (T := "dict") tb PySem.F.sub_dict_dict ?_)
  simp only [Bool.not_true, Bool.false_eq_true, if_false]
  refine wpAny_bind (wpAny_pure (wpAny_bind (wpAny_pure ?_)))
  refine wpAny_bind (same_empty ha hb hoa hda hob hdb ?_)
  refine wpAny_pure ⟨_, rfl, ?_, ?_⟩
  · exact fun x => nomatch x
  · simpa using h
end
/-- d != {}, d a dict with tuple keys, {} laid as one -/
def rNeEmptyT : R2 := fun x y H Q => ∃ a b kvs, x = .ref a ∧ y = .ref b ∧ H a = some (.dT kvs) ∧ H b = some (.dT []) ∧ Q (.bl (!(kvs.length == 0))) H
theorem op_neEmptyT {X : Cx} (hu : X.A.units < cLine) : OpR X (compareOp .NotEq) rNeEmptyT := by
  intro pins s σ H x y v u Q I rx ry h
  obtain ⟨a, b, kvs, rfl, rfl, ea, eb, q⟩ := h
  obtain rfl : v = Value.ref a := rx
  obtain rfl : u = Value.ref b := ry
  obtain ⟨_, ya, xs, px, oa, es, ep, ha, xa, da, ee, _⟩ := (show ObjOk X.prog X.w H s.heap a (.dT kvs) from I.hok a _ ea)
  obtain ⟨_, yb, xs', px', ob, es', ep', hb, xb, db, ee', _⟩ := (show ObjOk X.prog X.w H s.heap b (.dT []) from I.hok b _ eb)
  cases px'
  have e0 : es' = #[] := by
    have : es'.toList = [] := ee'
    simpa using this
  subst e0
  have hl : es.size = kvs.length := by
    have h1 : es.toList.length = xs.length := by rw [ee, List.length_map]
    rw [← Array.length_toList, h1, px.length]
  refine ne_empty ya yb xa xb ha da hb db hu ?_
  rw [hl]
  exact ⟨.bl (!(kvs.length == 0)), H, I, rfl, q⟩
end Ly

set_option maxRecDepth 100000
set_option maxHeartbeats 4000000
/-! sets of texts: set(xs), len, sorted, in -/
namespace Ly
open PySem PySem.Spec PyProof.Rows L2
def kOf (e : Int × Value) : Str := match e.2 with | .str k _ => k | _ => Str.empty
def GoodT (w : World) (e : Int × Value) : Prop := ∃ k tk, e.2 = Value.str k tk ∧ e.1 = hashStr w k
/-- the set of texts at a, L its members, each once -/
def SetS (w : World) (h : Heap) (a : Addr) (L : List Str) : Prop :=
  ∃ o es ep t, h.get? a = some o ∧ o.ExactSet ∧ o.data = .set es ep t ∧ (∀ e ∈ es.toList, GoodT w e) ∧ (es.toList.map kOf).Perm L ∧ L.Nodup ∧
    es.size < scanBound ∧ t.fits es.size = true ∧ Ris t.place.toList ∧ (w.params.followText "set-order" = true ∨ t.led = true)
section
variable {P : Program} {w : World} {h h' : Heap} {a : Addr} {L : List Str}
theorem SetS.at (R : SetS w h a L) (k : ∀ o, h.get? a = some o → h'.get? a = some o) : SetS w h' a L := by
  obtain ⟨o, es, ep, t, ho, r⟩ := R
  exact ⟨o, es, ep, t, k o ho, r⟩
theorem goodT_elems {l : List (Int × Value)} (g : ∀ e ∈ l, GoodT w e) : ElemsOf (strKind P w) l := fun e he => by
  obtain ⟨k, tk, h1, h2⟩ := g e he
  exact ⟨⟨k, by rw [h1]; exact strKind_is P w k tk, h2⟩, by rw [h1] <;> rfl⟩
theorem goodT_is {e : Int × Value} (g : GoodT w e) (k : Str) : (strKind P w).is k e.2 = true ↔ kOf e = k := by
  obtain ⟨k0, tk, h1, _⟩ := g
  unfold kOf
  rw [h1]
  show ((k0 == k) = true) ↔ k0 = k
  exact beq_iff_eq
theorem goodT_mem {l : List (Int × Value)} (g : ∀ e ∈ l, GoodT w e) (k : Str) : k ∈ l.map kOf ↔ ∃ e ∈ l, (strKind P w).is k e.2 = true := by
  rw [List.mem_map]
  constructor
  · rintro ⟨e, he, q⟩
    exact ⟨e, he, (goodT_is (g e he) k).2 q⟩
  · rintro ⟨e, he, q⟩
    exact ⟨e, he, (goodT_is (g e he) k).1 q⟩
theorem SetS.setOf (R : SetS w h a L) : h.SetOf (strKind P w) a (fun k => decide (k ∈ L)) L.length := by
  obtain ⟨o, es, ep, t, ho, hx, hd, g, pm, nd, hb, hf, _⟩ := R
  refine ⟨o, es, ep, t, ho, hx, hd, goodT_elems g, fun k => ?_, hb, hf, ?_⟩
  · show decide (k ∈ L) = true ↔ _
    rw [decide_eq_true_eq, ← pm.mem_iff]
    exact goodT_mem g k
  · rw [← pm.length_eq, List.length_map, Array.length_toList]
end
/-- one more -/
def addS (L : List Str) (k : Str) : List Str := if k ∈ L then L else L ++ [k]
/-- each once, in the order they are met -/
def dedS (xs : List Str) : List Str := xs.foldl addS []
theorem addS_nodup {L : List Str} {k : Str} (h : L.Nodup) : (addS L k).Nodup := by
  unfold addS
  split
  · exact h
  · rename_i hk
    rw [List.nodup_append]
    refine ⟨h, List.nodup_cons.mpr ⟨by simp, List.nodup_nil⟩, fun a ha b hb e => ?_⟩
    rw [List.mem_singleton.mp hb] at e
    exact hk (e ▸ ha)
theorem addS_mem {L : List Str} {k x : Str} : x ∈ addS L k ↔ x ∈ L ∨ x = k := by
  unfold addS
  split
  · rename_i hk
    exact ⟨.inl, fun h => h.elim id fun e => e ▸ hk⟩
  · rw [List.mem_append, List.mem_singleton]
theorem fold_nodup : ∀ (xs : List Str) {L : List Str}, L.Nodup → (xs.foldl addS L).Nodup
  | [], _, h => h
  | x :: r, _, h => fold_nodup r (addS_nodup h)
theorem fold_mem : ∀ (xs : List Str) {L : List Str} {x : Str}, x ∈ xs.foldl addS L ↔ x ∈ L ∨ x ∈ xs
  | [], L, x => by simp
  | y :: r, L, x => by
    show x ∈ r.foldl addS (addS L y) ↔ _
    rw [fold_mem r, addS_mem, List.mem_cons]
    exact or_assoc
theorem ded_nodup (xs : List Str) : (dedS xs).Nodup := fold_nodup xs List.nodup_nil
theorem ded_mem {xs : List Str} {x : Str} : x ∈ dedS xs ↔ x ∈ xs := by
  unfold dedS
  rw [fold_mem]
  simp
theorem fold_len : ∀ (xs : List Str) {L : List Str}, (xs.foldl addS L).length ≤ L.length + xs.length
  | [], _ => Nat.le_refl _
  | y :: r, L => by
    have := fold_len r (L := addS L y)
    have h2 : (addS L y).length ≤ L.length + 1 := by
      unfold addS
      split
      · omega
      · rw [List.length_append, List.length_singleton]
        omega
    rw [List.length_cons]
    show (r.foldl addS (addS L y)).length ≤ _
    omega
theorem ded_len (xs : List Str) : (dedS xs).length ≤ xs.length := by
  have := fold_len xs (L := [])
  rw [List.length_nil, Nat.zero_add] at this
  exact this
theorem fold_full : ∀ (xs : List Str) {L : List Str}, (xs.foldl addS L).length = L.length + xs.length → xs.foldl addS L = L ++ xs
  | [], L, _ => by simp
  | y :: r, L, h => by
    have h1 := fold_len r (L := addS L y)
    have h0 : (r.foldl addS (addS L y)).length = L.length + (y :: r).length := h
    rw [List.length_cons] at h0
    have hy : y ∉ L := fun hm => by
      have e : addS L y = L := if_pos hm
      rw [e] at h1 h0
      omega
    have e : addS L y = L ++ [y] := if_neg hy
    show r.foldl addS (addS L y) = _
    rw [e] at h0 ⊢
    rw [fold_full r (by rw [h0, List.length_append, List.length_singleton]; omega), List.append_assoc]
    rfl
theorem ded_lt : ∀ (xs : List Str), (dedS xs).length < xs.length ↔ ¬ xs.Nodup := fun xs => by
  have key : xs.Nodup ↔ (dedS xs).length = xs.length := by
    constructor
    · intro h
      exact (List.perm_ext_iff_of_nodup (ded_nodup xs) h |>.mpr fun x => ded_mem).length_eq
    · intro h
      have e := fold_full xs (L := []) (by rw [List.length_nil, Nat.zero_add]; exact h)
      have n := ded_nodup xs
      unfold dedS at n
      rw [e] at n
      simpa using n
  have := ded_len xs
  rw [key]
  omega
theorem fold_same : ∀ (xs : List Str) {L : List Str}, (L ++ xs).Nodup → xs.foldl addS L = L ++ xs
  | [], L, _ => by simp
  | y :: r, L, h => by
    have hy : y ∉ L := fun hm => by
      have := (List.nodup_append.mp h).2.2 y hm y List.mem_cons_self
      exact this rfl
    show r.foldl addS (addS L y) = _
    have e : addS L y = L ++ [y] := if_neg hy
    rw [e, fold_same r (by rw [List.append_assoc]; exact h), List.append_assoc]
    rfl
theorem ded_same {xs : List Str} (h : xs.Nodup) : dedS xs = xs := by
  have := fold_same xs (L := []) (by simpa using h)
  simpa [dedS] using this
section
variable {P : Program} {w : World} {A : Around} {E : Value → Shared → Prop} {s : Shared} {a : Addr} {L : List Str}
theorem setS_tail {g : Bool → Sem Unit} (hg : ∀ (b : Bool) (s₁ : Shared) (Q' : Unit → Shared → Prop), Q' () s₁ → wpAny (model P w) A (g b) Q' E s₁)
    {o : Obj} {es : Array (Int × Value)} {ep : Nat} {t : SetTable} (ho : s.heap.get? a = some o) (hex : o.ExactSet) (hd : o.data = .set es ep t)
    {es1 : Array (Int × Value)} {t2 : SetTable} {L' : List Str} (g1 : ∀ e ∈ es1.toList, GoodT w e) (p1 : (es1.toList.map kOf).Perm L') (nd1 : L'.Nodup)
    (hb1 : es1.size < scanBound) (hf2 : t2.fits es1.size = true) (hr : Ris t2.place.toList) (hl : w.params.followText "set-order" = true ∨ t2.led = true) {wasDummy : Bool} {R : Option Bool → Shared → Prop}
    (hR : ∀ h', Heap.SameBut a s.heap h' → SetS w h' a L' → R (some true) { s with heap := h' }) :
    wpAny (model P w) A (do
        storeSet a es1 t2
        if (!wasDummy && t2.tooFull) = true then do
            g (relayAll t2 es1 (SetTable.grown es1.size)).2.2
            storeSet a (relayAll t2 es1 (SetTable.grown es1.size)).1 (relayAll t2 es1 (SetTable.grown es1.size)).2.1
            pure (some true)
          else pure (some true)) R E s := by
  refine wpAny_bind (wpAny_storeSet_of ho hd ?_ (fits_of_scanBound hb1))
  have ho1 := store_at (es' := es1) (t' := t2) ho hd
  have sb1 := Heap.SameBut.update s.heap a (Obj.putSet es1 t2)
  split
  · have pm := relayAll_perm t2 es1 (SetTable.grown es1.size)
    have hf3 := relayAll_fits t2 es1 (SetTable.grown es1.size)
    have hr3 := relayAll_ris t2 es1 (SetTable.grown es1.size)
    have hl3 := relayAll_led t2 es1 (SetTable.grown es1.size)
    generalize relayAll t2 es1 (SetTable.grown es1.size) = Z at pm hf3 hr3 hl3 ⊢
    obtain ⟨es2, t3, gave⟩ := Z
    dsimp only at pm hf3 hr3 hl3 ⊢
    have hsz : es2.size = es1.size := by rw [← Array.length_toList, pm.length_eq, Array.length_toList]
    have hb2 : es2.size < scanBound := by rw [hsz]; exact hb1
    refine wpAny_bind (hg _ _ _ ?_)
    refine wpAny_bind (wpAny_storeSet_of ho1 rfl ?_ (fits_of_scanBound hb2))
    have ho2 := store_at (es' := es2) (t' := t3) ho1 rfl
    refine wpAny_pure (hR _ (sb1.trans (Heap.SameBut.update _ a _)) ?_)
    exact ⟨_, es2, _, t3, ho2, hex, rfl, fun e he => g1 e (pm.mem_iff.mp he), (pm.map kOf).trans p1, nd1, hb2, hf3, hr3,
      hl.imp id fun z => by rw [hl3]; exact z⟩
  · exact wpAny_pure (hR _ sb1 ⟨_, es1, _, t2, ho1, hex, rfl, g1, p1, nd1, hb1, hf2, hr, hl⟩)
theorem setS_hashed {k : Str} {tk : Tok} {Q : Bool → Shared → Prop} (R : SetS w s.heap a L) (room : L.length + 1 < scanBound)
    (hQ : ∀ h', Heap.SameBut a s.heap h' → SetS w h' a (addS L k) → Q (!decide (k ∈ L)) { s with heap := h' }) :
    wpAny (model P w) A (setAddHashed a (.str k tk) ((strKind P w).hash k)) Q E s := by
  obtain ⟨o, es, ep, t, ho, hex, hd, g, pm0, nd, hb, hf, hr, hl⟩ := R
  have hkey : (strKind P w).is k (.str k tk) = true := strKind_is P w k tk
  have hsc : (Value.str k tk).scannable = true := rfl
  have hel : ElemsOf (strKind P w) es.toList := goodT_elems g
  have hn : es.size = L.length := by rw [← pm0.length_eq, List.length_map, Array.length_toList]
  unfold setAddHashed setAddHashedIn
  refine wpAny_holding (wpAny_bind (wpAny_setState_of ho hd hf ?_))
  dsimp only
  rw [byScan_of hsc hb hel]
  simp only [↓reduceIte]
  unfold setAddByScan
  refine wpAny_bind ?_
  refine wpAny_bind (wpAny_rule ?_)
  refine wpAny_bind (wpAny_setScan_of hkey ho hd hf hel ?_)
  cases hfi : List.findIdx? (fun e => (strKind P w).is k e.2) es.toList with
  | some j =>
    dsimp only
    obtain ⟨hj, pj, _⟩ := List.findIdx?_eq_some_iff_getElem.mp hfi
    have hSk : k ∈ L := pm0.mem_iff.mp ((goodT_mem (P := P) (w := w) g k).2 ⟨es.toList[j], List.getElem_mem hj, pj⟩)
    refine wpAny_pure (wpAny_pure ?_)
    have q := hQ s.heap (Heap.SameBut.refl a s.heap) ⟨o, es, ep, t, ho, hex, hd, g, by
      unfold addS
      rw [if_pos hSk]
      exact pm0, addS_nodup nd, hb, hf, hr, hl⟩
    rw [decide_eq_true hSk] at q
    exact q
  | none =>
    dsimp only
    have hnk : k ∉ L := fun z => by
      obtain ⟨e, he, q⟩ := (goodT_mem (P := P) (w := w) g k).1 (pm0.mem_iff.mpr z)
      have c := List.findIdx?_eq_none_iff.mp hfi e he
      rw [q] at c
      cases c
    have hgw : ∀ (b : Bool) {s₁ : Shared} {Q' : Unit → Shared → Prop}, Q' () s₁ → wpAny (model P w) A (match b with | true => rule "set.scan.the-table-gave-way" | false => pure ()) Q' E s₁ :=
      fun b s₁ Q' q => by cases b <;> first | exact wpAny_pure q | exact wpAny_rule q
    have pm := layNew_perm t es ((strKind P w).hash k) (.str k tk)
    have hf1 := layNew_fits t es ((strKind P w).hash k) (.str k tk)
    have hr1 := layNew_ris t es ((strKind P w).hash k) (.str k tk) hr
    have hl1 := layNew_led t es ((strKind P w).hash k) (.str k tk)
    generalize layNew t es ((strKind P w).hash k) (.str k tk) = Z at pm hf1 hr1 hl1 ⊢
    obtain ⟨es1, t1, wasDummy, gave⟩ := Z
    dsimp only at pm hf1 hr1 hl1 ⊢
    rw [Array.toList_push] at pm
    have pc : es1.toList.Perm (((strKind P w).hash k, Value.str k tk) :: es.toList) := pm.trans (List.perm_append_singleton _ _)
    have pk : (es1.toList.map kOf).Perm (k :: es.toList.map kOf) := pc.map kOf
    have eL : addS L k = L ++ [k] := if_neg hnk
    have p1 : (es1.toList.map kOf).Perm (addS L k) := by
      rw [eL]
      exact pk.trans ((List.Perm.cons k pm0).trans (List.perm_append_singleton _ _).symm)
    have g1 : ∀ e ∈ es1.toList, GoodT w e := fun e he => by
      rcases List.mem_cons.mp (pc.mem_iff.mp he) with z | z
      · rw [z]; exact ⟨k, tk, rfl, rfl⟩
      · exact g e z
    have nd1 : (addS L k).Nodup := addS_nodup nd
    have hsz : es1.size = L.length + 1 := by rw [← Array.length_toList, pc.length_eq, List.length_cons, Array.length_toList, hn]
    have hb1 : es1.size < scanBound := by rw [hsz]; exact room
    have hled : w.params.followText "set-order" = true ∨ t1.led = true := hl.imp id fun z => by rw [hl1]; exact z
    have fin : ∀ h', Heap.SameBut a s.heap h' → SetS w h' a (addS L k) → Q true { s with heap := h' } := fun h' sb r => by
      have q := hQ h' sb r
      rw [decide_eq_false hnk] at q
      exact q
    refine wpAny_bind (hgw _ ?_)
    split
    · refine wpAny_bind ?_
      rw [hashByValue_scannable 8 hsc]
      refine wpAny_pure ?_
      refine setS_tail ?_ ho hex hd g1 p1 nd1 hb1 ?_ ?_ ?_ ?_
      · intro b s₁ Q' q; cases b <;> first | exact wpAny_pure q | exact wpAny_rule q
      · first | (split <;> first | exact hf1 | exact SetTable.fits_plain_off hf1) | exact hf1
      · first | (split <;> exact hr1) | exact hr1
      · first | (split <;> exact hled) | exact hled
      · intro h' sb r; dsimp only; exact wpAny_pure (fin h' sb r)
    · refine wpAny_bind (wpAny_pure ?_)
      simp only [↓reduceIte]
      refine setS_tail ?_ ho hex hd g1 p1 nd1 hb1 hf1 hr1 hled ?_
      · intro b s₁ Q' q; cases b <;> first | exact wpAny_pure q | exact wpAny_rule q
      · intro h' sb r; dsimp only; exact wpAny_pure (fin h' sb r)
theorem setS_fresh {h : Heap} {a : Addr} (ho : h.get? a = some { cls := .type "set", dict := none, data := .set #[] 0 (.fresh 0 0 (!w.params.followText "set-order")) }) : SetS w h a [] :=
  ⟨_, #[], 0, _, ho, ⟨rfl, rfl, rfl⟩, rfl, (fun e he => by simp at he), by simp, List.nodup_nil, (by decide), (by rfl), List.Pairwise.nil, by
    show _ ∨ (!w.params.followText "set-order") = true
    cases w.params.followText "set-order"
    · exact .inr rfl
    · exact .inl rfl⟩
theorem setS_loop {I : Addr} {fp wr : List Addr} {G : Array GenState → Array GenState → Prop} {n : Nat} {Pv : Nat → Value → Prop} {St : Nat → Shared → Prop} {R : Result → Shared → Prop}
    (W : WalksS P w A.in1 I fp wr G n Pv St) (S : Addr) (hSf : S ∉ fp) (xs : List Str) (hn : n = xs.length) (hb : xs.length + 1 < scanBound) (hval : ∀ i v, Pv i v → ∃ k t, xs[i]? = some k ∧ v = .str k t) :
    ∀ (k i : Nat) (s : Shared), n - i = k → i ≤ n → St i s → SetS w s.heap S (dedS (xs.take i)) →
      (∀ s', Moved (S :: wr) G s s' → SetS w s'.heap S (dedS xs) → R (.ok (.ret .none)) s') →
      codeAny (model P w) A (.builtin "set.update.loop" ⟨[.ref S, .ref I], []⟩) R s := by
  have hSw : S ∉ wr := fun h => hSf (W.sub _ h)
  have hsub : ∀ b ∈ wr, b ∈ S :: wr := fun b hb => List.mem_cons_of_mem _ hb
  intro k
  induction k with
  | zero =>
    intro i s hk' hi hst hS hR
    have hin : i = n := by omega
    subst hin
    refine codeAny_builtin F.entry_set_update_loop ?_
    rw [Around.under_plainId F.plain_set_update_loop _]
    show wpAny _ A.in1 (pyNext (.ref I) >>= _) _ _ s
    refine wpAny_bind (W.done s _ _ hst fun s' hm => ?_)
    show wpAny _ A.in1 (ret Value.none) _ _ s'
    have e : xs.take i = xs := List.take_of_length_le (by omega)
    rw [e] at hS
    exact wpAny_pure (hR s' (hm.mono hsub) (hS.at fun o e => hm.heap S o hSw e))
  | succ k ih =>
    intro i s hk' hi hst hS hR
    have hlt : i < n := by omega
    refine codeAny_builtin F.entry_set_update_loop ?_
    rw [Around.under_plainId F.plain_set_update_loop _]
    show wpAny _ A.in1 (pyNext (.ref I) >>= _) _ _ s
    refine wpAny_bind (W.item i s _ _ hlt hst fun v s' hP hst' hm => ?_)
    obtain ⟨z, t, hz, rfl⟩ := hval i v hP
    have hS' : SetS w s'.heap S (dedS (xs.take i)) := hS.at fun o e => hm.heap S o hSw e
    show wpAny _ A.in1 (holding [Value.str z t] (setAdd S (.str z t)) >>= _) _ _ s'
    refine wpAny_bind (wpAny_holding ?_)
    unfold setAdd
    refine wpAny_holding ?_
    refine wpAny_bind ((strKind P w).pyHash (k := z) (strKind_is _ _ _ _) ?_)
    have hlen := ded_len (xs.take i)
    rw [List.length_take] at hlen
    refine setS_hashed (s := { s' with toks := s'.toks + 1 }) hS' (by omega) fun h' hsb hS2 => ?_
    have hS3 : SetS w h' S (dedS (xs.take (i + 1))) := by
      have e : dedS (xs.take (i + 1)) = addS (dedS (xs.take i)) z := by
        rw [List.take_add_one, hz]
        show (xs.take i ++ [z]).foldl addS [] = _
        rw [List.foldl_append]
        rfl
      rw [e]
      exact hS2
    refine wpAny_pure ⟨plainId_quiet F.plain_set_update_loop _, ih (i + 1) _ (by omega) hlt (W.frame _ s' _ _ hst' (Nat.le_succ _) fun b hb o e => ?_) hS3 fun s'' hm'' hS'' => ?_⟩
    · rw [hsb.2 b (fun h : b = S => hSf (by rw [← h]; exact hb))]; exact e
    · refine hR s'' (Moved.trans W.gtrans ((hm.mono hsub).then_heap (Nat.le_succ _) fun b o hb e => ?_) hm'') hS''
      rw [hsb.2 b (fun h : b = S => hb (by rw [h]; exact List.mem_cons_self))]; exact e
set_option maxRecDepth 100000 in
set_option maxHeartbeats 3200000 in
theorem call_setL {l : Addr} {items : Array Value} (xs : List Str) {Q : Value → Shared → Prop} (hh : A.handled = none) (hl : s.heap.IsList l items) (hit : StrsAre items.toList xs) (hb : xs.length + 1 < scanBound)
    (h : ∀ (h' : Heap) (tk : Nat), SetS w h' s.heap.objs.size (dedS xs) → (∀ b o, s.heap.get? b = some o → h'.get? b = some o) → Q (.ref s.heap.objs.size) { s with heap := h', toks := tk }) :
    wpAny (model P w) A (call (.type "set") [.ref l]) Q E s := by
  have hisz : items.size = xs.length := by
    rw [← StrsAre.len_eq hit, Array.length_toList]
  obtain ⟨c, tl, hmro⟩ := F.called_set.mro
  have hmade := F.called_set.made
  have hsub := F.called_set.sub
  refine wpAny_call (codeAny_of_tree ?_)
  show wpAny _ _ (callAny (.type "set") _) _ _ _
  refine wpAny_pure ⟨Code.quiet_builtin _ (by decide +kernel), codeAny_builtin F.entry_type_call ?_⟩
  rw [Around.under_plain (weight_type_call_type "set" [.ref l] []) rfl]
  have h1 := F.called_set.notType
  have h2 := F.called_set.canCreate
  have hct := F.typeCall_set_1 (.ref l)
  repeat (any_goals (first | assumption | wp_step))
  refine codeAny_mono (code_set_led1 (.ref l) (E := E) (Q₁ := fun obj s₁ => obj = .ref s.heap.objs.size ∧ s₁ = { s with heap := s.heap.push { cls := .type "set", dict := none, data := .set #[] 0 (.fresh 0 0 (!w.params.followText "set-order")) } }) ⟨rfl, rfl⟩) fun r s₁ hr => ?_
  cases r with
  | error e => exact hr
  | ok fl =>
    cases fl with
    | ret obj =>
      obtain ⟨rfl, rfl⟩ := hr
      have hS : (s.heap.push { cls := .type "set", dict := none, data := .set #[] 0 (.fresh 0 0 (!w.params.followText "set-order")) }).get? s.heap.objs.size = some { cls := .type "set", dict := none, data := .set #[] 0 (.fresh 0 0 (!w.params.followText "set-order")) } := Heap.get?_push_size _ rfl
      have hT : Shared.TypeIs { s with heap := s.heap.push { cls := .type "set", dict := none, data := .set #[] 0 (.fresh 0 0 (!w.params.followText "set-order")) } } (.ref s.heap.objs.size) "set" := ⟨_, hS, rfl⟩
      have hli := F.called_set.init.lookup
      have hbi := F.called_set.init.bind (.ref s.heap.objs.size)
      repeat (any_goals (first | assumption | wp_step))
      refine codeAny_mono (codeAny_call_builtin (R := wants (fun r s₂ => r = .none ∧ ∃ h' tk, s₂ = { s with heap := h', toks := tk } ∧ SetS w h' s.heap.objs.size (dedS xs) ∧
          (∀ b o, s.heap.get? b = some o → h'.get? b = some o)) E) F.called_set.init.plain F.entry_set_init (check_set_init_1 hT ?_)) fun r₂ s₂ hr₂ => ?_
      · obtain ⟨ol, hol, hcl, nl, hdl⟩ := hl
        obtain ⟨ocls, odict, odata, oslots⟩ := ol
        simp only at hcl hdl
        subst hcl; subst hdl
        have hol' : (s.heap.push { cls := .type "set", dict := none, data := .set #[] 0 (.fresh 0 0 (!w.params.followText "set-order")) }).get? l = some { cls := .type "list", dict := odict, data := .seq items nl, slots := oslots } := Heap.get?_push_of_some _ hol
        have hsls := F.sub_list_set
        have hslf := F.sub_list_frozenset
        have hne : (Value.type "list" == Value.type "dict") = false := by decide
        have hl1 : (s.heap.push { cls := .type "set", dict := none, data := .set #[] 0 (.fresh 0 0 (!w.params.followText "set-order")) }).IsList l items := ⟨_, hol', rfl, nl, rfl⟩
        unfold Builtin.«set.__init__» noKeywords Builtin.Frozenset.updateFrom
        generalize hPI : pyIter = PI
        wp_walk
        subst hPI
        refine wpAny_pyIter_list hl1 ?_
        refine wpAny_bind (wpAny_runValue ?_)
        have hlS : l < s.heap.objs.size := Heap.lt_size hol
        have hh3 : A.in1.in1.in1.handled = none := by simp [hh]
        have hneI : l ≠ (s.heap.push { cls := .type "set", dict := none, data := .set #[] 0 (.fresh 0 0 (!w.params.followText "set-order")) }).objs.size := by
          rw [Heap.size_push]; exact Nat.ne_of_lt (Nat.lt_succ_of_lt hlS)
        have hSf : s.heap.objs.size ∉ [(s.heap.push { cls := .type "set", dict := none, data := .set #[] 0 (.fresh 0 0 (!w.params.followText "set-order")) }).objs.size, l] := by
          rw [Heap.size_push]; simp only [List.mem_cons, List.mem_singleton, List.not_mem_nil, or_false, not_or]
          exact ⟨Nat.ne_of_lt (Nat.lt_succ_self _), Nat.ne_of_gt hlS⟩
        have hval : ∀ (i : Nat) (v : Value), items[i]? = some v → ∃ k t, xs[i]? = some k ∧ v = .str k t := fun i v hv => by
          have q : items.toList[i]? = some v := by rw [Array.getElem?_toList]; exact hv
          obtain ⟨t, e⟩ := SS.strs_at hit i v q
          have hlt : i < xs.length := by
            rw [← hisz]
            exact (Array.getElem?_eq_some_iff.mp hv).1
          refine ⟨xs[i], t, List.getElem?_eq_getElem hlt, ?_⟩
          rw [e, List.getD_eq_getElem?_getD, List.getElem?_eq_getElem hlt]
          rfl
        refine setS_loop ((Walks.list hh3 _ l hneI items).toS) s.heap.objs.size
          hSf xs hisz hb hval (items.size - 0) 0 _ (by omega) (Nat.zero_le _)
          ⟨⟨_, Heap.get?_push_size _ rfl, rfl, rfl⟩, (hl1.push _)⟩ ?hS0 ?hR
        case hS0 =>
          have hget : ((s.heap.push { cls := .type "set", dict := none, data := .set #[] 0 (.fresh 0 0 (!w.params.followText "set-order")) }).push { cls := .type "list_iterator", data := .fields #[.ref l, .int 0 0] }).get? s.heap.objs.size
              = some { cls := .type "set", dict := none, data := .set #[] 0 (.fresh 0 0 (!w.params.followText "set-order")) } := Heap.get?_push_of_some _ hS
          exact setS_fresh hget
        case hR =>
          intro s' hm hS'
          obtain ⟨h', g2, d', tk', os'⟩ := s'
          have eg : g2 = s.gens := hm.gens
          have ed : d' = s.drawn := hm.drawn
          have eo : os' = s.os := hm.os
          subst eg; subst ed; subst eo
          show wpAny _ _ _ _ _ _
          refine wpAny_pure ?_
          show wpAny _ _ (ret Value.none) _ _ _
          refine wpAny_pure ⟨rfl, h', tk', rfl, hS', fun b o e => ?_⟩
          have hbl : b < s.heap.objs.size := Heap.lt_size e
          have hb1 : b ≠ s.heap.objs.size := Nat.ne_of_lt hbl
          have hb2 : b ≠ (s.heap.push { cls := .type "set", dict := none, data := .set #[] 0 (.fresh 0 0 (!w.params.followText "set-order")) }).objs.size := by
            rw [Heap.size_push]; exact Nat.ne_of_lt (Nat.lt_succ_of_lt hbl)
          exact hm.heap b o (by simp only [List.mem_cons, List.mem_singleton, List.not_mem_nil, or_false, not_or]; exact ⟨hb1, hb2⟩) (Heap.get?_push_of_some _ (Heap.get?_push_of_some _ e))
      · cases r₂ with
        | error e => exact hr₂
        | ok fl₂ =>
          cases fl₂ with
          | ret r =>
            obtain ⟨rfl, h', tk, rfl, hS', hk'⟩ := hr₂
            repeat (any_goals (first | assumption | wp_step))
            exact h _ _ hS' hk'
          | _ => exact hr₂.elim
    | _ => exact hr.elim
end
/-! ### the rules -/
/-- the set of texts at a -/
def SetSO (w : World) (a : Addr) (L : List Str) : HO := .ext fun h => SetS w h a L
section
variable {X : Cx}
theorem setSO_new {P : Program} {w : World} {H : Hp} {h : Heap} {a : Addr} {L : List Str} (R : SetS w h a L) : ObjOk P w H h a (SetSO w a L) := by
  have ⟨o, _, _, _, ho, _⟩ := R
  exact ⟨R, ⟨o, ho⟩, fun h1 h2 p k => SetS.at p k⟩
/-- set(xs), a list of texts -/
def rSetS (K : PySem.W.Frag) (w : World) : List V → Hp → VK → Prop := fun vs H Q => ∃ (l : Addr) (xs : List Str), vs = [.ref l] ∧ SqL K H l (xs.map V.str) ∧ xs.length ≤ 2000 ∧ ∀ p, H p = none → Q (.ref p) (upd H p (SetSO w p (dedS xs)))
theorem cr_setS (K : PySem.W.Frag) (w : World) (hc : X.calm = true) (hK : X.K = K := by rfl) (hw : X.w = w := by rfl) : CallR X (.type "set") (rSetS K w) := by
  subst hK
  subst hw
  intro pins s σ H vs us Q I r h
  obtain ⟨l, xs, rfl, hl, hz, q⟩ := h
  rw [Vals.ref1 r]
  obtain ⟨its, rv, pl, _⟩ := I.list hl
  refine call_setL xs (I.ok.hd hc) pl.isList (by simpa using strsAre_of rv) (by unfold scanBound; omega) fun h' tk R k => ?_
  exact ⟨.ref s.heap.objs.size, upd H s.heap.objs.size (SetSO X.w s.heap.objs.size (dedS xs)), I.laid (t' := tk) k (Nat.le_refl _) (setSO_new R), rfl, q _ (I.hok.fresh (Nat.le_refl _))⟩
/-- len(set) -/
def rLenSet (w : World) : List V → Hp → VK → Prop := fun vs H Q => ∃ (a : Addr) (L : List Str), vs = [.ref a] ∧ H a = some (SetSO w a L) ∧ Q (.int (L.length : Nat)) H
theorem cr_lenSetS (w : World) (hw : X.w = w := by rfl) : CallR X (.builtin "len") (rLenSet w) := by
  subst hw
  intro pins s σ H vs us Q I r h
  obtain ⟨a, L, rfl, ha, q⟩ := h
  rw [Vals.ref1 r]
  have R : SetS X.w s.heap a L := (I.hok a _ ha).1
  obtain ⟨o, es, ep, t, ho, hex, hd, g, pm, nd, hb, hf, _⟩ := R
  have hn : es.size = L.length := by rw [← pm.length_eq, List.length_map, Array.length_toList]
  exact call_len_set ho hex hd hf (by unfold scanBound at hb; omega) ⟨.int (L.length : Nat), H, I.tok _, ⟨_, by rw [hn]⟩, q⟩
theorem strs_of : ∀ (l : List Value), (∀ v ∈ l, ∃ k tk, v = Value.str k tk) → StrsAre l (l.map fun v => match v with | .str k _ => k | _ => Str.empty)
  | [], _ => .nil
  | v :: l, h => by
    obtain ⟨k, tk, rfl⟩ := h v List.mem_cons_self
    exact .cons k tk (strs_of l fun u hu => h u (List.mem_cons_of_mem _ hu))
/-- sorted(set) -/
def rSortedSS (w : World) : List V → Hp → VK → Prop := fun vs H Q => ∃ (a : Addr) (L : List Str), vs = [.ref a] ∧ H a = some (SetSO w a L) ∧ ∀ ys p, ys.Perm L → sortedS ys = true → H p = none → Q (.ref p) (upd H p (.lst (ys.map V.str)))
theorem cr_sortedSS (w : World) (hc : X.calm = true) (hw : X.w = w := by rfl) : CallR X (.builtin "sorted") (rSortedSS w) := by
  subst hw
  intro pins s σ H vs us Q I r h
  obtain ⟨a, L, rfl, ha, q⟩ := h
  rw [Vals.ref1 r]
  have R : SetS X.w s.heap a L := (I.hok a _ ha).1
  obtain ⟨o, es, ep, t, ho, hex, hd, g, pm0, nd, hb, hf, hr, hl⟩ := R
  refine Calls.call_function_entry kind_sorted plain_sorted entry_sorted (args_sorted1 _) ?_
  unfold Builtin.«sorted»
  refine wpAny_bind (m := checkCount "sorted" 1 1 _) (wpAny_pure ?_)
  refine wpAny_bind (collect_set (A := X.A.in1) (I.ok.hd hc) ⟨o, ho, hex.1, hd⟩ hf hb hr hl fun s1 vs k1 hz g1 o1 pm => ?_)
  have hvl : vs.length < 4096 := by
    rw [pm.length_eq, List.length_map, Array.length_toList]
    exact hb
  have hS := strs_of vs fun v hv => by
    obtain ⟨e, he, q⟩ := List.mem_map.mp (pm.mem_iff.mp hv)
    obtain ⟨k, tk, h1, _⟩ := g e he
    exact ⟨k, tk, by rw [← q]; exact h1⟩
  have pk : (vs.map fun v => match v with | .str k _ => k | _ => Str.empty).Perm L := by
    refine (pm.map _).trans ?_
    rw [List.map_map]
    exact pm0
  have hz2 : vs.length ≤ sizeLine := by rw [sizeLine_eq]; omega
  refine wpAny_bind (wpAny_newList ?_ hz2)
  have hoL : (s1.heap.push (seqObj "list" vs.toArray 0)).get? s1.heap.objs.size = some (seqObj "list" vs.toArray 0) := Heap.get?_push_size _ rfl
  refine wpAny_bind (wpAny_holding (wpAny_call_entry slot_list_sort ⟨_, hoL, rfl⟩ entry_list_sort (list_sort_treeKAny strKind_oneLt hoL hS.keysOf (fun v₁ v₂ rest e => keyKind_strs (by rw [← e]; exact hS)) hz2 fun st' a1 a2 => ⟨_, rfl, ?_⟩) (args_list_sort _)))
  obtain ⟨ys, b1, b2, b3⟩ := sorted_out_str hS a1 a2
  obtain ⟨c, hc'⟩ := sortedHeap_at (vs := vs) (out := (arrOf st').map (·.2)) hoL
  refine wpAny_pure ?_
  have hp : s.heap.objs.size ≤ s1.heap.objs.size := hz
  have hn : H s1.heap.objs.size = none := I.hok.fresh hp
  have hlen : (ys.map V.str).length ≤ sizeLine := by
    rw [List.length_map, b2.length_eq, List.length_map]
    exact hz2
  have kk : ∀ b u, s.heap.get? b = some u → (sortedHeap (s1.heap.push (seqObj "list" vs.toArray 0)) s1.heap.objs.size vs ((arrOf st').map (·.2))).get? b = some u := fun b u e => by
    have q := k1 b u e
    have hlt := Heap.lt_size q
    rw [sortedHeap_old (Nat.ne_of_lt hlt) (by rw [size_push']; exact Nat.lt_succ_of_lt hlt)]
    exact Heap.get?_push_of_some _ q
  have J : Inv X pins σ (upd H s1.heap.objs.size (.lst (ys.map V.str))) { s with heap := sortedHeap (s1.heap.push (seqObj "list" vs.toArray 0)) s1.heap.objs.size vs ((arrOf st').map (·.2)), gens := s1.gens, drawn := s1.drawn, toks := s1.toks } :=
    I.call (ch := []) (Un.laid kk hp hn) (I.hok.laid kk hp ⟨hlen, _, c, vals_of_strs b1, hc'⟩) (by rw [g1]; exact I.bare) (fun _ z => nomatch z)
  have e : ({ s1 with heap := sortedHeap (s1.heap.push (seqObj "list" vs.toArray 0)) s1.heap.objs.size vs ((arrOf st').map (·.2)) } : Shared) = { s with heap := sortedHeap (s1.heap.push (seqObj "list" vs.toArray 0)) s1.heap.objs.size vs ((arrOf st').map (·.2)), gens := s1.gens, drawn := s1.drawn, toks := s1.toks } := by
    cases s1
    cases s
    cases o1
    rfl
  rw [e]
  exact ⟨_, rfl, .ref s1.heap.objs.size, _, J, rfl, q ys _ (b2.trans pk) b3 hn⟩
end
end Ly

set_option maxRecDepth 100000
set_option maxHeartbeats 4000000
/-! the reader takes a row -/
namespace Ly
open PySem PySem.Spec PyProof.Rows L2
/-- all stands but the objects at l -/
def SameL (l : List Addr) (H H' : Hp) : Prop := ∀ b u, b ∉ l → H b = some u → H' b = some u
theorem sl_of {l : List Addr} {H H' : Hp} (s : Same H H') : SameL l H H' := fun b u _ e => s b u e
theorem SameL.refl (l : List Addr) (H : Hp) : SameL l H H := fun _ _ _ e => e
theorem SameL.trans {l : List Addr} {H H1 H2 : Hp} (a : SameL l H H1) (b : SameL l H1 H2) : SameL l H H2 := fun c u n e => b c u n (a c u n e)
theorem sl_put {l : List Addr} {H H' : Hp} {p : Addr} {o : HO} (s : SameL l H H') (hp : p ∈ l) : SameL l H (upd H' p o) := fun b u n e => by
  have nb : b ≠ p := fun z => n (by rw [z]; exact hp)
  rw [upd_ne nb]
  exact s b u n e
theorem sl_new {l : List Addr} {H H' : Hp} {q : Addr} {o : HO} (s : SameL l H H') (hq : H' q = none) : SameL l H (upd H' q o) := s.trans (sl_of (same_new hq))
theorem sl_sx {l : List Addr} {p : Addr} {H H' : Hp} (s : SameX p H H') (hp : p ∈ l) : SameL l H H' := fun b u n e => s b u (fun z => n (by rw [z]; exact hp)) e
theorem sl_mono {l m : List Addr} {H H' : Hp} (s : SameL l H H') (h : ∀ a ∈ l, a ∈ m) : SameL m H H' := fun b u n e => s b u (fun z => n (h b z)) e
theorem sl_same {l : List Addr} {H H1 H2 : Hp} (s : Same H H1) (x : SameL l H1 H2) (hl : ∀ a ∈ l, H a = none) : Same H H2 := fun b u e => x b u (fun z => by
  rw [hl b z] at e
  cases e) (s b u e)
def NoT (l : List Addr) (H : Hp) : Prop := ∀ b ∈ l, ∀ xs, ¬ Rd H b (.tup xs)
theorem sl_sqt {K : PySem.W.Frag} {l : List Addr} {H H' : Hp} {q : Addr} {xs : List V} (s : SameL l H H') (n : NoT l H) (h : SqT K H q xs) : SqT K H' q xs := by
  rcases h with h | h
  · have hq : q ∉ l := fun z => n q z xs h
    rcases h with h | ⟨ob, h⟩
    · exact .inl (.inl (s _ _ hq h))
    · exact .inl (.inr ⟨ob, s _ _ hq h⟩)
  · exact .inr h
theorem noT_ins {H : Hp} {x : Addr} {C dx : Addr} {fs : List (Str × V)} (h : H x = some (.ins C dx fs)) : ∀ xs, ¬ Rd H x (.tup xs) := fun xs r => by
  rcases r with r | ⟨ob, r⟩ <;> (rw [h] at r; cases r)
theorem noT_lst {H : Hp} {x : Addr} {ys : List V} (h : H x = some (.lst ys)) : ∀ xs, ¬ Rd H x (.tup xs) := fun xs r => by
  rcases r with r | ⟨ob, r⟩ <;> (rw [h] at r; cases r)
theorem noT_dT {H : Hp} {x : Addr} {ys : List (List Key × V)} (h : H x = some (.dT ys)) : ∀ xs, ¬ Rd H x (.tup xs) := fun xs r => by
  rcases r with r | ⟨ob, r⟩ <;> (rw [h] at r; cases r)
theorem ReaderAt.noT {K : PySem.W.Frag} {C : Addr} {H : Hp} {x dx i o p w : Addr} {r : RSt} (h : ReaderAt K C H x dx i o p w r) : NoT [x, p, w] H := fun b hb => by
  obtain ⟨xs, hx, _⟩ := h.parts
  obtain ⟨ys, hy, _⟩ := h.wires
  rcases List.mem_cons.mp hb with rfl | hb
  · exact noT_ins h.obj
  rcases List.mem_cons.mp hb with rfl | hb
  · exact noT_lst hx
  rcases List.mem_cons.mp hb with rfl | hb
  · exact noT_dT hy
  · cases hb
theorem dp_pair {K : PySem.W.Frag} {H : Hp} {a : Addr} {p : Prt} (h : SqT K H a [.str p.1, .str p.2]) : Dp K H (.ref a) (dPair p) := dp_strs (xs := [p.1, p.2]) h
theorem sl_pairs {K : PySem.W.Frag} {l : List Addr} {H H' : Hp} (s : SameL l H H') (n : NoT l H) : ∀ {xs : List V} {ps : List Prt}, DpAll K H xs (ps.map dPair) → DpAll K H' xs (ps.map dPair)
  | _, [], .nil => .nil
  | _, q :: r, .cons h hs => by
    obtain ⟨a, rfl, ha⟩ := dp_pair_inv h
    exact .cons (dp_pair (sl_sqt s n ha)) (sl_pairs s n hs)
theorem ReaderAt.ne {K : PySem.W.Frag} {C : Addr} {H : Hp} {x dx i o p w : Addr} {r : RSt} (h : ReaderAt K C H x dx i o p w r) : x ≠ p ∧ x ≠ w ∧ p ≠ w := by
  obtain ⟨xs, hx, _⟩ := h.parts
  obtain ⟨ys, hy, _⟩ := h.wires
  have ho := h.obj
  refine ⟨fun e => ?_, fun e => ?_, fun e => ?_⟩
  · subst e
    rw [hx] at ho
    cases ho
  · subst e
    rw [hy] at ho
    cases ho
  · subst e
    rw [hy] at hx
    cases hx
theorem paired_imp {α β : Type} {R S : α → β → Prop} (f : ∀ x y, R x y → S x y) : ∀ {xs : List α} {ys : List β}, Paired R xs ys → Paired S xs ys
  | _, _, .nil => .nil
  | _, _, .cons h t => .cons (f _ _ h) (paired_imp f t)
theorem ReaderAt.same {K : PySem.W.Frag} {C : Addr} {H H' : Hp} {x dx i o p w : Addr} {r : RSt} (h : ReaderAt K C H x dx i o p w r) (s : Same H H') : ReaderAt K C H' x dx i o p w r := by
  obtain ⟨xs, hx, hd⟩ := h.parts
  obtain ⟨ys, hy, hp⟩ := h.wires
  exact ⟨s _ _ h.obj, same_sqt s h.ins, same_sqt s h.outs, ⟨xs, s _ _ hx, same_dps s hd⟩, ⟨ys, s _ _ hy, paired_imp (fun _ _ z => ⟨z.1, by
    obtain ⟨t, e, ht⟩ := z.2
    exact ⟨t, e, same_sqt s ht⟩⟩) hp⟩⟩
/-! ### o.f, a target among others -/
def gFld (K : PySem.W.Frag) (to : TE) (f : Str) : TG := fun v σ H Q => to σ H fun x H1 => ∃ a C dx fs, x = .ref a ∧ H1 a = some (.ins C dx fs) ∧ Cls K C ∧ NoAttr K C f ∧ fs.length < 1000 ∧ Q σ (upd H1 a (.ins C dx (putF f v fs)))
theorem pg_fld {X : Cx} {K : PySem.W.Frag} {o : Expr} {f : Str} {pos : Pos} {to : TE} (ho : PE X o to) (hK : X.K = K := by rfl) : PG X (.Attribute o f pos) (gFld K to f) := by
  subst hK
  refine ⟨fun pins s σ H v u Q I r h => ?_⟩
  refine PySem.W.kas_attr (thn (ho.run pins s σ H _ I h) fun ov s1 ⟨x, H1, I1, rx, a, C, dx, fs, ex, ea, c, n, l, q⟩ => ?_)
  subst ex
  obtain rfl : ov = Value.ref a := rx
  exact setattr_ok I1 ea c n l r fun s2 I2 => ⟨σ, _, I2, q⟩
/-! ### one row -/
def takePartR (r : RSt) (hs : List Str) : Option RSt :=
  match hs with
  | [a, b] => if (nameOk a && blockOk b && (r.wires.length == 0) && !(r.parts.length == 16) && !decide (a ∈ r.parts.map (·.1))) = true then some { r with parts := r.parts ++ [(a, b)] } else none
  | _ => none
def takeWireR (r : RSt) (hs : List Str) : Option RSt :=
  match hs with
  | [a, b] =>
    match portOf r.parts r.outs a, portOf r.parts r.ins b with
    | some t, some s => if t ∈ r.wires.map (·.1) then none else some { r with wires := r.wires ++ [(t, s)] }
    | _, _ => none
  | _ => none
/-- what is read of a head, its signs seen to -/
def headPorts (h : Str) : List Str := if h = "" then [] else Txt.split h " "
def headOut (h : Str) : List Str := if h = "" then [] else Txt.split (cutS h (some 1) none) " "
def headFin (n : Str) (ins outs : List Str) : Option (Str × List Str × List Str) :=
  if (nameOk n && !decide (n ∈ portNames) && (ins ++ outs).all nameOk && decide (max ins.length outs.length ≤ 8) && decide (ins ++ outs).Nodup) = true then some (n, ins, outs) else none
def headEnd (n ps : Str) : Option (Str × List Str × List Str) :=
  match Txt.split ps ";" with
  | [h0, h1] => if (decide (h1 = "") || Txt.startswith h1 " ") = true then headFin n (headPorts h0) (headOut h1) else none
  | _ => none
def headMid (m : Str) : Option (Str × List Str × List Str) :=
  match Txt.split m "(" with
  | [n, ps] => headEnd n ps
  | _ => none
def headOf (z : Str) : Option (Str × List Str × List Str) :=
  if (Txt.startswith z "block " && Txt.endswith z ")" && decide (Txt.count z "(" = 1) && decide (Txt.count z ";" = 1)) = true then headMid (cutS z (some 6) (some (-1))) else none
def takeR (r : RSt) (z : Str) : Option RSt :=
  match r.name with
  | none => (headOf z).map fun h => { r with name := some h.1, ins := h.2.1, outs := h.2.2 }
  | some _ =>
    if z = "end" then some { r with done := true }
    else if Txt.startswith z "  part " = true then takePartR r (Txt.split (cutS z (some 7) none) " = ")
    else if Txt.startswith z "  " = true then takeWireR r (Txt.split (cutS z (some 2) none) " <- ")
    else none
/-- a reader takes: what stands, what is answered -/
def RTook (K : PySem.W.Frag) (C : Addr) (H : Hp) (x dx p w : Addr) (o : Option RSt) (Q : VK) : Prop := ∀ H', SameL [x, p, w] H H' →
  match o with
  | none => Q (.bl false) H'
  | some r' => ∀ i' o', ReaderAt K C H' x dx i' o' p w r' → Q (.bl true) H'
structure RFew (r : RSt) : Prop where
  p : r.parts.length ≤ 16
  w : r.wires.length ≤ 14000
def spTakePart (K : PySem.W.Frag) (C : Addr) : Sp := fun vs H Q _ => ∃ (x dx i o p w h : Addr) (r : RSt) (hs : List Str), vs = [.ref x, .ref h] ∧ ReaderAt K C H x dx i o p w r ∧ RFew r ∧ SqL K H h (hs.map V.str) ∧ (∀ z ∈ hs, z.length ≤ 100100) ∧
  RTook K C H x dx p w (takePartR r hs) Q
def spTakeWire (K : PySem.W.Frag) (C : Addr) : Sp := fun vs H Q _ => ∃ (x dx i o p w h : Addr) (r : RSt) (hs : List Str), vs = [.ref x, .ref h] ∧ ReaderAt K C H x dx i o p w r ∧ RFew r ∧ SqL K H h (hs.map V.str) ∧ (∀ z ∈ hs, z.length ≤ 100100) ∧
  RTook K C H x dx p w (takeWireR r hs) Q
def spTakeHead (K : PySem.W.Frag) (C : Addr) : Sp := fun vs H Q _ => ∃ (x dx i o p w : Addr) (r : RSt) (z : Str), vs = [.ref x, .str z] ∧ ReaderAt K C H x dx i o p w r ∧ r.name = none ∧ z.length ≤ 100100 ∧
  RTook K C H x dx p w ((headOf z).map fun h => { r with name := some h.1, ins := h.2.1, outs := h.2.2 }) Q
def spTakeRow (K : PySem.W.Frag) (C : Addr) : Sp := fun vs H Q _ => ∃ (x dx i o p w : Addr) (r : RSt) (z : Str), vs = [.ref x, .str z] ∧ ReaderAt K C H x dx i o p w r ∧ RFew r ∧ z.length ≤ 100100 ∧
  RTook K C H x dx p w (takeR r z) Q
/-! ### dicts with other keys -/
section
variable {κ : Type} [DecidableEq κ]
theorem valG_some {kvs : List (κ × V)} {k : κ} : (valV kvs k).isSome = kvs.any fun p => decide (p.1 = k) := by
  unfold valV
  rw [Option.isSome_map]
  induction kvs with
  | nil => rfl
  | cons p r ih =>
    rw [List.find?_cons, List.any_cons]
    cases h : decide (p.1 = k) with
    | true => rfl
    | false => rw [Bool.false_or]; exact ih
theorem putK_new {kvs : List (κ × V)} {k : κ} {v : V} (h : (valV kvs k).isSome = false) : putK kvs k v = kvs ++ [(k, v)] := by
  rw [valG_some] at h
  unfold putK
  rw [if_neg (by rw [h]; simp)]
end
theorem keyP_inj {a b : Prt} (h : keyP a = keyP b) : a = b := by
  unfold keyP at h
  have h1 := (List.cons.inj h).1
  have h2 := (List.cons.inj (List.cons.inj h).2).1
  exact Prod.ext (Sum.inr.inj h1) (Sum.inr.inj h2)
theorem wires_in {K : PySem.W.Frag} {H : Hp} {ws : List (Prt × Prt)} {kvs : List (List Key × V)} (h : Paired (fun (x : Prt × Prt) (q : List Key × V) => q.1 = keyP x.1 ∧ ∃ t, q.2 = V.ref t ∧ SqT K H t [.str x.2.1, .str x.2.2]) ws kvs) (t : Prt) :
    (valV kvs (keyP t)).isSome = decide (t ∈ ws.map (·.1)) := by
  rw [valG_some]
  induction h with
  | nil => simp
  | cons a _ ih =>
    rename_i x q xs ys _
    rw [List.any_cons, ih, a.1, List.map_cons]
    by_cases e : x.1 = t
    · rw [decide_eq_true (by rw [e]), Bool.true_or, decide_eq_true (by rw [e]; exact List.mem_cons_self)]
    · rw [decide_eq_false fun z => e (keyP_inj z), Bool.false_or]
      by_cases h2 : t ∈ xs.map (·.1)
      · rw [decide_eq_true h2, decide_eq_true (List.mem_cons_of_mem _ h2)]
      · rw [decide_eq_false h2, decide_eq_false fun z => (List.mem_cons.mp z).elim (fun e' => e e'.symm) h2]
theorem paired_snoc {α β : Type} {R : α → β → Prop} : ∀ {xs : List α} {ys : List β} {x : α} {y : β}, Paired R xs ys → R x y → Paired R (xs ++ [x]) (ys ++ [y])
  | _, _, _, _, .nil, h => .cons h .nil
  | _, _, _, _, .cons h t, h2 => .cons h (paired_snoc t h2)
theorem paired_len {α β : Type} {R : α → β → Prop} : ∀ {xs : List α} {ys : List β}, Paired R xs ys → xs.length = ys.length
  | _, _, .nil => rfl
  | _, _, .cons _ t => congrArg (· + 1) (paired_len t)
theorem dps_snoc {K : PySem.W.Frag} {H : Hp} : ∀ {xs : List V} {ds : List PyData} {v : V} {d : PyData}, DpAll K H xs ds → Dp K H v d → DpAll K H (xs ++ [v]) (ds ++ [d])
  | _, _, _, _, .nil, h => .cons h .nil
  | _, _, _, _, .cons h t, h2 => .cons h (dps_snoc t h2)
end Ly

set_option maxRecDepth 100000
set_option maxHeartbeats 4000000
/-! texts: what rows say -/
namespace Ly
open PySem PySem.Spec PyProof.Rows L2
abbrev sl (z : Str) : List Nat := z.cps.toList
theorem sl_app (a b : Str) : sl (a ++ b) = sl a ++ sl b := by
  show (a.cps ++ b.cps).toList = _
  rw [Array.toList_append]
theorem sl_inj {a b : Str} (h : sl a = sl b) : a = b := by
  cases a
  cases b
  exact congrArg Str.mk (Array.toList_inj.mp h)
theorem sl_len (a : Str) : (sl a).length = a.length := by
  show a.cps.toList.length = a.cps.size
  simp
theorem starts_iff {x y : Str} : Txt.startswith x y = true ↔ ∃ r, x = y ++ r := by
  unfold Txt.startswith
  rw [Bool.and_eq_true, decide_eq_true_eq, StrLaws.subAt_eq, List.drop_zero]
  constructor
  · rintro ⟨h1, h2⟩
    have e : (sl x).take y.length = sl y := eq_of_beq h2
    refine ⟨⟨((sl x).drop y.length).toArray⟩, sl_inj ?_⟩
    rw [sl_app]
    show sl x = sl y ++ (sl x).drop y.length
    rw [← e, List.take_append_drop]
  · rintro ⟨r, rfl⟩
    refine ⟨by rw [PySem.Str.length_append]; omega, ?_⟩
    show ((sl (y ++ r)).take y.length == sl y) = true
    rw [sl_app, ← sl_len y, List.take_left]
    exact beq_self_eq_true _
theorem ends_iff {x y : Str} : Txt.endswith x y = true ↔ ∃ r, x = r ++ y := by
  unfold Txt.endswith
  rw [Bool.and_eq_true, decide_eq_true_eq, StrLaws.subAt_eq]
  constructor
  · rintro ⟨h1, h2⟩
    have e : ((sl x).drop (x.length - y.length)).take y.length = sl y := eq_of_beq h2
    have hl : ((sl x).drop (x.length - y.length)).length = y.length := by rw [List.length_drop, sl_len]; omega
    rw [List.take_of_length_le (by omega)] at e
    refine ⟨⟨((sl x).take (x.length - y.length)).toArray⟩, sl_inj ?_⟩
    rw [sl_app]
    show sl x = (sl x).take (x.length - y.length) ++ sl y
    rw [← e, List.take_append_drop]
  · rintro ⟨r, rfl⟩
    have hl : (r ++ y : Str).length = r.length + y.length := PySem.Str.length_append r y
    refine ⟨by omega, ?_⟩
    show (((sl (r ++ y)).drop ((r ++ y).length - y.length)).take y.length == sl y) = true
    rw [sl_app, hl, show r.length + y.length - y.length = (sl r).length by rw [sl_len]; omega, List.drop_left, ← sl_len y, List.take_length]
    exact beq_self_eq_true _
theorem cut_pre {a b : Str} {n : Nat} (h : a.length = n) : cutS (a ++ b) (some (n : Int)) none = b := by
  refine sl_inj ?_
  have hl : (a ++ b : Str).length = a.length + b.length := PySem.Str.length_append a b
  show ((sl (a ++ b)).drop (HT.sIx (a ++ b).length 0 (some (n : Int)))).take _ = sl b
  rw [HT.sIx_nat, HT.sIx_none, Nat.min_eq_left (by omega), sl_app, ← h, ← sl_len a, List.drop_left]
  refine List.take_of_length_le ?_
  have h1 := sl_len b
  have h2 := sl_len a
  omega
theorem cut_mid {a b c : Str} {n : Nat} (h : a.length = n) (hc : c.length = 1) : cutS (a ++ b ++ c) (some (n : Int)) (some (-1)) = b := by
  refine sl_inj ?_
  have hl : (a ++ b ++ c : Str).length = a.length + b.length + c.length := by rw [PySem.Str.length_append, PySem.Str.length_append]
  show ((sl (a ++ b ++ c)).drop (HT.sIx (a ++ b ++ c).length 0 (some (n : Int)))).take (HT.sIx (a ++ b ++ c).length (a ++ b ++ c).length (some (-1)) - HT.sIx (a ++ b ++ c).length 0 (some (n : Int))) = sl b
  have e1 : HT.sIx (a ++ b ++ c).length (a ++ b ++ c).length (some (-1)) = a.length + b.length := by
    show (if (-1 : Int) < 0 then ((-1 : Int) + ((a ++ b ++ c).length : Int)).toNat else min (-1 : Int).toNat (a ++ b ++ c).length) = _
    rw [if_pos (by decide), hl]
    omega
  rw [HT.sIx_nat, e1, Nat.min_eq_left (by omega), sl_app, sl_app, List.append_assoc, ← h, ← sl_len a, List.drop_left, show (sl a).length + b.length - (sl a).length = (sl b).length by rw [sl_len b]; omega, List.take_left]
/-! ### how many parts -/
theorem spl_count (c : Nat) : ∀ (l acc : List Nat), ((TL.spl [c] 0 acc l).length : Int) = cnt c l + 1
  | [], acc => by
    rw [TL.spl_nil, cnt_nil]
    rfl
  | d :: r, acc => by
    rw [cnt_cons]
    by_cases h : d = c
    · subst h
      have hp : TL.pre [d] (d :: r) = true := TL.pre_self [d] r
      rw [TL.spl_hit hp, if_pos rfl]
      show ((acc :: TL.spl [d] 0 [] r).length : Int) = _
      have := spl_count d r []
      rw [List.length_cons]
      push_cast
      omega
    · rw [TL.spl_miss (TL.pre_of_head [] r h), if_neg h]
      have := spl_count c r (acc ++ [d])
      omega
theorem split_count {x y : Str} {c : Nat} (h : y = ⟨#[c]⟩) (hk : c < 256) : ((Txt.split x y).length : Int) = Txt.count x y + 1 := by
  subst h
  have e := TL.split_spl x ⟨#[c]⟩ (by simp [TL.tl]) (TL.kind_ok (by simp [hk]))
  have e2 := congrArg List.length e
  rw [List.length_map] at e2
  rw [e2, count_cnt]
  exact spl_count c _ _
theorem count_app {x y z : Str} {c : Nat} (h : z = ⟨#[c]⟩) : Txt.count (x ++ y) z = Txt.count x z + Txt.count y z := by
  subst h
  rw [count_cnt, count_cnt, count_cnt, ← cnt_append]
  rw [show (x ++ y : Str).cps.toList = x.cps.toList ++ y.cps.toList from sl_app x y]
theorem mid_of {z : Str} (h1 : Txt.startswith z "block " = true) (h2 : Txt.endswith z ")" = true) : ∃ m, z = "block " ++ m ++ ")" ∧ cutS z (some 6) (some (-1)) = m := by
  obtain ⟨r, rfl⟩ := starts_iff.mp h1
  obtain ⟨q, e⟩ := ends_iff.mp h2
  have e1 := congrArg sl e
  rw [sl_app, sl_app] at e1
  have hb : sl "block " = [98, 108, 111, 99, 107, 32] := by decide +kernel
  have hc : sl ")" = [41] := by decide +kernel
  have hr : sl r ≠ [] := fun er => by
    rw [hb, hc, er, List.append_nil] at e1
    have := congrArg List.getLast? e1
    rw [List.getLast?_append] at this
    simp at this
  have hl : (sl r).getLast hr = 41 := by
    have := congrArg List.getLast? e1
    rw [hc, List.getLast?_append, List.getLast?_append, List.getLast?_eq_some_getLast hr] at this
    simpa using this
  have er : r = ⟨((sl r).dropLast).toArray⟩ ++ ")" := by
    refine sl_inj ?_
    rw [sl_app, hc, ← hl]
    show sl r = (sl r).dropLast ++ [(sl r).getLast hr]
    rw [List.dropLast_concat_getLast hr]
  generalize (⟨((sl r).dropLast).toArray⟩ : Str) = m at er
  subst er
  refine ⟨m, (PySem.Str.append_assoc _ _ _).symm, ?_⟩
  rw [← PySem.Str.append_assoc]
  exact cut_mid (n := 6) (by decide +kernel) (by decide +kernel)
theorem split_mid {z : Str} (h1 : Txt.startswith z "block " = true) (h2 : Txt.endswith z ")" = true) (h3 : Txt.count z "(" = 1) : (Txt.split (cutS z (some 6) (some (-1))) "(").length = 2 := by
  obtain ⟨m, rfl, e⟩ := mid_of h1 h2
  rw [e]
  have hp : ("(" : Str) = ⟨#[40]⟩ := by decide +kernel
  have hs := split_count (x := m) hp (by decide)
  rw [count_app hp, count_app hp] at h3
  have q1 : Txt.count "block " "(" = 0 := by decide +kernel
  have q2 : Txt.count ")" "(" = 0 := by decide +kernel
  rw [q1, q2] at h3
  omega
theorem dInt (n m : Int) : decide (V.int n = V.int m) = decide (n = m) := by
  by_cases h : n = m
  · rw [decide_eq_true h, decide_eq_true (by rw [h])]
  · rw [decide_eq_false h, decide_eq_false fun z => h (V.int.inj z)]
theorem dStr (n m : Str) : decide (V.str n = V.str m) = decide (n = m) := by
  by_cases h : n = m
  · rw [decide_eq_true h, decide_eq_true (by rw [h])]
  · rw [decide_eq_false h, decide_eq_false fun z => h (V.str.inj z)]
end Ly

set_option maxRecDepth 100000
set_option maxHeartbeats 4000000
/-! enumerate(a tuple) -/
namespace PySem
open Sem (wp)
open AutoSeq1 (wpAny_loadPart')
theorem meets_enumerate_newTup (l : Addr) (items : Array Value) (n : Nat) (dct : Option Addr) (sl : Array (Option Value)) :
    Meets (Builtin.«enumerate.__new__» ⟨[.type "enumerate", .ref l], []⟩) (fun _ R s => s.heap.get? l = some { cls := .type "tuple", dict := dct, data := .seq items n, slots := sl } ∧
      R (.ok (.ret (.ref (s.heap.push { cls := .type "tuple_iterator", data := .fields #[.ref l, .int 0 0] }).objs.size)))
        { s with heap := (s.heap.push { cls := .type "tuple_iterator", data := .fields #[.ref l, .int 0 0] }).push { cls := .type "enumerate", data := .fields #[.none, .bool false, .ref s.heap.objs.size, rawInt 0, .none, .none] } }) :=
  .of_wp fun prog w A R s h => by
    obtain ⟨hp, g, d, tk, os⟩ := s; obtain ⟨hl, h⟩ := h
    have hsub := sub_enumerate
    have hL : Heap.IsTuple (Shared.heap ⟨hp, g, d, tk, os⟩) l items := ⟨_, hl, rfl, n, rfl⟩
    wp_walk using wpAny_loadPart' hl
    refine wpAny_stack_any fun st => wpAny_pure ?_
    split
    · rename_i c _ _ _ _ _
      cases (c == Value.type "enumerate")
      · wp_walk using wpAny_loadPart' hl, wpAny_pyIter_tuple hL
        exact ⟨_, rfl, h⟩
      · wp_walk using wpAny_loadPart' hl, wpAny_pyIter_tuple hL
        exact ⟨_, rfl, h⟩
    · wp_walk using wpAny_loadPart' hl, wpAny_pyIter_tuple hL
      exact ⟨_, rfl, h⟩
section
variable {prog : Program} {w : World} {A : Around} {E : Value → Shared → Prop} {s : Shared}
theorem call_enumerate_tup {l : Addr} {items : Array Value} {Q : Value → Shared → Prop} (hL : s.heap.IsTuple l items)
    (h : ∀ h', IsEnum h' (s.heap.objs.size + 1) s.heap.objs.size 0 .none → h'.IsTupleIter s.heap.objs.size l 0 → h'.objs.size = s.heap.objs.size + 2 →
      (∀ b o, s.heap.get? b = some o → h'.get? b = some o) → Q (.ref (s.heap.objs.size + 1)) { s with heap := h' }) :
    wpAny (model prog w) A (call (.type "enumerate") [.ref l]) Q E s := by
  obtain ⟨⟨c, dct, dt, sl⟩, hl, hc, n, hd⟩ := hL
  replace hc : c = .type "tuple" := hc
  replace hd : dt = .seq items n := hd
  subst hc hd
  refine callType_new F.called_enumerate (by decide) (F.typeCall_enumerate_1 _) (F.newCall_enumerate_1 _) (fun obj => F.args_object_init_2 obj _) F.entry_enumerate_new
    (meets_enumerate_newTup l items n dct sl) ⟨hl, ?_⟩
  have hz : (s.heap.push { cls := .type "tuple_iterator", data := .fields #[.ref l, .int 0 0] }).objs.size = s.heap.objs.size + 1 := Heap.size_push ..
  show _ ∧ _
  rw [hz]
  have he : IsEnum ((s.heap.push { cls := .type "tuple_iterator", data := .fields #[.ref l, .int 0 0] }).push
      { cls := .type "enumerate", data := .fields #[.none, .bool false, .ref s.heap.objs.size, rawInt 0, .none, .none] }) (s.heap.objs.size + 1) s.heap.objs.size 0 .none := by
    have := Heap.get?_push_size (s.heap.push { cls := .type "tuple_iterator", data := .fields #[.ref l, .int 0 0] })
      (o := { cls := .type "enumerate", data := .fields #[.none, .bool false, .ref s.heap.objs.size, rawInt 0, .none, .none] }) rfl
    rw [hz] at this; exact this
  refine ⟨⟨_, he, rfl⟩, h _ he ⟨_, Heap.get?_push_of_some _ (Heap.get?_push_size _ rfl), rfl, rfl⟩ (by rw [Heap.size_push, hz]) fun b o x => Heap.get?_push_of_some _ (Heap.get?_push_of_some _ x)⟩
end
end PySem
namespace Ly
open PySem PySem.Spec PyProof.Rows L2
/-- the tuple at a, each item in a new pair with its number -/
def IteT (K : PySem.W.Frag) (a : Addr) : It :=
  ⟨fun i H => ∃ (xs : List V) (x : V), SqT K H a xs ∧ xs[i]? = some x, fun i H v H' => ∃ T x, v = .ref T ∧ H T = none ∧ H' = upd H T (.tup [.int (i : Nat), x]) ∧ ∀ xs, SqT K H a xs → xs[i]? = some x, fun i H => ∃ xs : List V, SqT K H a xs ∧ xs.length = i⟩
theorem turn_enumT {P : Program} {w : World} {K : PySem.W.Frag} {elts : List Expr} {kk : Nat} {tpos : Pos} (a e it : Addr) :
    Turn P w K (.Tuple elts kk tpos) (IteT K a) [e, it] e (fun i h => (∃ old, IsEnum h e it ((i : Nat) : Int) old) ∧ h.IsTupleIter it a i ∧ e ≠ it ∧ a ≠ it ∧ a ≠ e) where
  mem := by simp
  obj := fun i h st b hb => by
    obtain ⟨⟨old, he⟩, ⟨o, ho, hc, hd⟩, _⟩ := st
    have e' : b = e ∨ b = it := by simpa using hb
    rcases e' with z | z
    · rw [z]; exact ⟨_, he, fun v q => nomatch q⟩
    · rw [z]; exact ⟨o, ho, fun v q => by rw [hd] at q; cases q⟩
  keep := fun i h h' st k => let ⟨⟨old, he⟩, hi, hne⟩ := st; ⟨⟨old, k e (by simp) _ he⟩, hi.at fun o q => k it (by simp) o q, hne⟩
  item := by
    intro X hP hw hK hc i pins s σ H E I hf st hg
    subst hP hw hK
    obtain ⟨⟨old, he⟩, hit, hne, hai, hae⟩ := st
    obtain ⟨xs, x, hq, hx⟩ := hg
    obtain ⟨its, rv, p, hz⟩ := I.tuple hq
    obtain ⟨u, hu, ru⟩ := rv.get hx
    have hel : e < s.heap.objs.size := Heap.lt_size he
    have hil : it < s.heap.objs.size := by obtain ⟨_, q, _⟩ := hit; exact Heap.lt_size q
    have hlt : i < its.toArray.size := by
      have := (List.getElem?_eq_some_iff.mp hu).1
      simpa using this
    refine wpAny_pyNext_enum_itemD (Draws.tuple (A := X.A.in1) (by simp [I.ok.hd hc]) it a hai its.toArray) he ⟨hit, p⟩ hlt hne (by simp [hne, Ne.symm hae]) fun x' h' tk hP' ho hst' hT hsz hk => ?_
    have hxu : x' = u := by
      have : its[i]? = some x' := by simpa using hP'
      rw [hu] at this
      exact (Option.some.inj this).symm
    subst hxu
    refine ⟨_, rfl, wpAny_letOwnedTupleGo_enum (s := { s with heap := h', toks := tk + 1 }) ho fun h'' he' sb => ?_⟩
    have hT2 : h''.get? s.heap.objs.size = some { cls := .type "tuple", data := .seq #[.int i tk, x'] } := (sb.2 _ (Nat.ne_of_gt hel)).trans hT
    have new : ObjOk X.prog X.w (upd H s.heap.objs.size (.tup [.int (i : Nat), x])) h'' s.heap.objs.size (.tup [.int (i : Nat), x]) :=
      ⟨by show 2 ≤ sizeLine; decide, [.int i tk, x'], .cons ⟨_, rfl⟩ (.cons ru .nil), ⟨_, hT2, rfl, _, rfl⟩⟩
    have I1 : Inv X pins σ (upd H s.heap.objs.size (.tup [.int (i : Nat), x])) { s with heap := h'', toks := tk + 1 } :=
      I.turnedNew (ch := [e, it]) (fun b ob hb q => (sb.2 b (fun z => hb (by simp [z]))).trans (hk b ob (fun z => hb (by simp [z])) (fun z => hb (by simp [z])) q)) hf (Nat.le_refl _) new
    refine ⟨.ref s.heap.objs.size, _, I1, rfl, ⟨_, x, rfl, I.hok.fresh (Nat.le_refl _), rfl, fun ys hy => by rw [I.tuple_inj hy hq]; exact hx⟩, ⟨⟨x', ?_⟩, hst'.1.at fun o q => (sb.2 it (Ne.symm hne)).trans q, hne, hai, hae⟩, fun b hb => ?_⟩
    · have e1 : ((i + 1 : Nat) : Int) = (i : Int) + 1 := by omega
      rw [e1]; exact he'
    · have hb' : b < s.heap.objs.size := by
        have e' : b = e ∨ b = it := by simpa using hb
        rcases e' with z | z
        · rw [z]; exact hel
        · rw [z]; exact hil
      rw [upd_ne (Nat.ne_of_lt hb')]
      exact (hf b hb).1
  done := by
    intro X hP hw hK hc i pins s σ H E I hf st hg
    subst hP hw hK
    obtain ⟨⟨old, he⟩, hit, hne, hai, hae⟩ := st
    obtain ⟨xs, hq, hx⟩ := hg
    obtain ⟨its, rv, p, hz⟩ := I.tuple hq
    obtain ⟨f0, f1, f2, f3, f4, f5⟩ := hf it (by simp)
    have hl := rv.length
    have hi : i = its.toArray.size := by simp; omega
    subst hi
    exact wpAny_pyNext_enum_endD (Draws.tuple (A := X.A.in1) (by simp [I.ok.hd hc]) it a hai its.toArray) he ⟨hit, p⟩ fun h' eb => ⟨rfl, I.turned (t' := s.toks) (fun b o hb q => eb b o hb q) f0 f1 f3 f4 f5⟩
  self := fun A i s Q E st h => let ⟨⟨_, he⟩, _⟩ := st; wpAny_pyIter_enum he h
def iEnumT (K : PySem.W.Frag) (ta : TA) : TI := fun σ H R => ta σ H fun vs H1 => ∃ a xs, vs = [.ref a] ∧ SqT K H1 a xs ∧ R (IteT K a) H1
theorem pi_enumT {X : Cx} (K : PySem.W.Frag) {e : Expr} {ta : TA} {p pos tpos : Pos} {elts : List Expr} {kk : Nat} (hg : Gl X "enumerate") (hm : X.mg "enumerate" = none) (ha : PA X [e] ta) (hs : starEach [e] X.env = [(false, eval e X.env)] := by rfl) (hK : X.K = K := by rfl) :
    PI X (.Tuple elts kk tpos) (.Call (.Name "enumerate" p) [e] [] pos) (iEnumT K ta) := by
  subst hK
  refine ⟨fun pins s σ H R I h => ?_⟩
  refine Call_ (ld_blt I hg hm boot_enumerate (PyProof.Rows.callWith_type1 (thn (ha.run pos pins s σ H _ I h) fun us s1 ⟨vs, H1, I1, r1, q1⟩ => ?_) hs rfl))
  obtain ⟨a, xs, ex, hq, q⟩ := q1
  subst ex
  cases r1 with
  | cons r rr =>
    cases rr
    cases r
    obtain ⟨its, rv, p', hz⟩ := I1.tuple hq
    have hal : a < s1.heap.objs.size := by obtain ⟨_, q, _⟩ := p'; exact Heap.lt_size q
    refine call_enumerate_tup p' fun h' he hit hsz hk => wpAny_pyIter_enum he ?_
    have I2 : Inv X pins σ H1 { s1 with heap := h' } := I1.kept (t' := s1.toks) hk
    refine ⟨s1.heap.objs.size + 1, [s1.heap.objs.size + 1, s1.heap.objs.size], _, _, H1, rfl, I2, turn_enumT a (s1.heap.objs.size + 1) s1.heap.objs.size, ⟨⟨.none, he⟩, hit, Nat.succ_ne_self _, Nat.ne_of_lt hal, Nat.ne_of_lt (Nat.lt_succ_of_lt hal)⟩, fun b hb => ?_, q⟩
    have e' : b = s1.heap.objs.size + 1 ∨ b = s1.heap.objs.size := by simpa using hb
    have hle : s1.heap.objs.size ≤ b := by
      rcases e' with z | z
      · rw [z]; exact Nat.le_add_right _ _
      · rw [z]; exact Nat.le_refl _
    exact I1.fpOk hle (I1.hok.fresh hle)
theorem walk_enumT {K : PySem.W.Frag} {a : Addr} {xs : List V} : Walk (IteT K a) xs.length (fun H => SqT K H a xs) (YPair (fun i => some (.int (i : Nat))) (fun i => xs[i]?)) := by
  refine ⟨fun i _ hi q => ⟨xs, xs[i], q, by simp [hi]⟩, fun _ q => ⟨xs, q, rfl⟩, fun i H v H' _ q y => ?_⟩
  obtain ⟨T, x, h1, h2, h3, h4⟩ := y
  exact ⟨T, .int (i : Nat), x, h1, h2, h3, rfl, h4 xs q⟩
/-- a dict comprehension over what is walked -/
theorem dc_it {J : It} {n : Nat} {G : Hp → Prop} {Y : Nat → Hp → V → Hp → Prop} (w : Walk J n G Y) {g : TG} {tt : TT} {tk tv : TE} {vs : List Nat} {σ : L2.St} {H1 : Hp} {D : Addr} {Qd : Hp → Prop} (Pv : Nat → Hp → Prop) (h0 : Pv 0 (upd H1 D (.dK []))) (hG : ∀ i H, i ≤ n → Pv i H → G H)
    (hs : ∀ i x H H', i < n → Pv i H → Y i H x H' → g x (wipe σ vs) H' fun σ2 H2 => wipe σ2 vs = wipe σ vs ∧ tt σ2 H2 fun b H3 =>
      if b = true then tk σ2 H3 fun y H4 => tv σ2 H4 fun z H5 => ∃ kvs k, y = kV k ∧ H5 D = some (.dK kvs) ∧ kvs.length < sizeLine ∧ Pv (i + 1) (upd H5 D (.dK (putK kvs k z))) else Pv (i + 1) H3) (hd : ∀ H, Pv n H → Qd H) :
    ∃ W : Nat → Nat → Hp → Prop, (∃ m, W 0 m (upd H1 D (.dK []))) ∧ ∀ i m H, W i m H →
      (J.stop i H ∧ Qd H) ∨ (J.go i H ∧ ∃ Nx : Hp → Prop, (∀ H', Nx H' → ∃ m', m' < m ∧ W (i + 1) m' H') ∧ ∀ x H', J.yld i H x H' → g x (wipe σ vs) H' fun σ2 H2 => wipe σ2 vs = wipe σ vs ∧ tt σ2 H2 fun b H3 =>
        if b = true then tk σ2 H3 fun y H4 => tv σ2 H4 fun z H5 => ∃ kvs k, y = kV k ∧ H5 D = some (.dK kvs) ∧ kvs.length < sizeLine ∧ Nx (upd H5 D (.dK (putK kvs k z))) else Nx H3) := by
  refine ⟨fun i m H => m = n - i ∧ i ≤ n ∧ Pv i H, ⟨n, by simp, Nat.zero_le _, h0⟩, ?_⟩
  rintro i m H ⟨rfl, hi, p⟩
  have q := hG i H hi p
  by_cases hlt : i < n
  · refine .inr ⟨w.goes i H hlt q, Pv (i + 1), fun H' p' => ⟨n - (i + 1), by omega, rfl, hlt, p'⟩, fun x H' y => hs i x H H' hlt p (w.yields i H x H' hlt q y)⟩
  · have e : i = n := by omega
    subst e
    exact .inl ⟨w.stops H q, hd H p⟩
end Ly

set_option maxRecDepth 100000
set_option maxHeartbeats 4000000
/-! diagrams -/
namespace Ly
open PySem PySem.Spec PyProof.Rows L2
/-- what a reader has read hangs together -/
structure ROk (r : RSt) : Prop where
  few : RFew r
  nm : ∀ n, r.name = some n → nameOk n = true
  i : r.ins.length ≤ 8 ∧ ∀ y ∈ r.ins, nameOk y = true
  o : r.outs.length ≤ 8 ∧ ∀ y ∈ r.outs, nameOk y = true
  nd : (r.parts.map (·.1)).Nodup
  p : ∀ q ∈ r.parts, nameOk q.1 = true ∧ blockOk q.2 = true
  wn : (r.wires.map (·.1)).Nodup
  w1 : ∀ x ∈ r.wires, (x.1.1 = "" ∧ x.1.2 ∈ r.outs) ∨ (x.1.1 ∈ r.parts.map (·.1) ∧ nameOk x.1.2 = true)
  w2 : ∀ x ∈ r.wires, (x.2.1 = "" ∧ x.2.2 ∈ r.ins) ∨ (x.2.1 ∈ r.parts.map (·.1) ∧ nameOk x.2.2 = true)
/-- where a part stands -/
def posOf (ps : List Prt) (a : Str) : Nat := (ps.map (·.1)).idxOf a
def keyW (ps : List Prt) (t : Prt) : List At := [.i (posOf ps t.1 : Nat), .s t.2]
/-- what feeds a target -/
def lookW (ws : List (Prt × Prt)) (t : Prt) : Prt := ((ws.find? fun x => decide (x.1 = t)).map (·.2)).getD ("", "")
def outerT (outs : List Str) (ws : List (Prt × Prt)) : List Prt := (outs.map fun o => (("" : Str), o)).filter fun t => decide (t ∈ ws.map (·.1))
/-- the order that a diagram gives the wires -/
def IsOrd (outs : List Str) (ps : List Prt) (ws zs : List (Prt × Prt)) : Prop :=
  ∃ inn : List Prt, inn.Perm ((ws.map (·.1)).filter fun t => !decide (t.1 = "")) ∧ SrtO.Srtd (fun x y => lexA (keyW ps x) (keyW ps y)) inn ∧ zs = (inn ++ outerT outs ws).map fun t => (t, lookW ws t)
def fsD (n : Str) (i o p w : Addr) (t : Str) : List (Str × V) := [("name", .str n), ("inputs", .ref i), ("outputs", .ref o), ("parts", .ref p), ("wires", .ref w), ("text", .str t)]
def fsD4 (n : Str) (i o p : Addr) : List (Str × V) := [("name", .str n), ("inputs", .ref i), ("outputs", .ref o), ("parts", .ref p)]
def fsD5 (n : Str) (i o p w : Addr) : List (Str × V) := [("name", .str n), ("inputs", .ref i), ("outputs", .ref o), ("parts", .ref p), ("wires", .ref w)]
theorem fsD_name {n i o p w t} : (fsD n i o p w t).lookup ("name" : Str) = some (.str n) := by kernel_rfl
theorem fsD_inputs {n i o p w t} : (fsD n i o p w t).lookup ("inputs" : Str) = some (.ref i) := by kernel_rfl
theorem fsD_outputs {n i o p w t} : (fsD n i o p w t).lookup ("outputs" : Str) = some (.ref o) := by kernel_rfl
theorem fsD_parts {n i o p w t} : (fsD n i o p w t).lookup ("parts" : Str) = some (.ref p) := by kernel_rfl
theorem fsD_wires {n i o p w t} : (fsD n i o p w t).lookup ("wires" : Str) = some (.ref w) := by kernel_rfl
theorem fsD_text {n i o p w t} : (fsD n i o p w t).lookup ("text" : Str) = some (.str t) := by kernel_rfl
theorem fsD4_parts {n i o p} : (fsD4 n i o p).lookup ("parts" : Str) = some (.ref p) := by kernel_rfl
theorem fsD4_outputs {n i o p} : (fsD4 n i o p).lookup ("outputs" : Str) = some (.ref o) := by kernel_rfl
theorem fsD5_name {n i o p w} : (fsD5 n i o p w).lookup ("name" : Str) = some (.str n) := by kernel_rfl
theorem fsD5_inputs {n i o p w} : (fsD5 n i o p w).lookup ("inputs" : Str) = some (.ref i) := by kernel_rfl
theorem fsD5_outputs {n i o p w} : (fsD5 n i o p w).lookup ("outputs" : Str) = some (.ref o) := by kernel_rfl
theorem fsD5_parts {n i o p w} : (fsD5 n i o p w).lookup ("parts" : Str) = some (.ref p) := by kernel_rfl
theorem fsD5_wires {n i o p w} : (fsD5 n i o p w).lookup ("wires" : Str) = some (.ref w) := by kernel_rfl
theorem fsD_put4 {n : Str} {i o p : Addr} : putF "parts" (.ref p) (fsB n i o) = fsD4 n i o p := by kernel_rfl
theorem fsD_put5 {n : Str} {i o p w : Addr} : putF "wires" (.ref w) (fsD4 n i o p) = fsD5 n i o p w := by kernel_rfl
theorem fsD_put6 {n : Str} {i o p w : Addr} {t : Str} : putF "text" (.str t) (fsD5 n i o p w) = fsD n i o p w t := by kernel_rfl
/-- a diagram at x -/
def DiagAt (K : PySem.W.Frag) (C : Addr) (H : Hp) (x : Addr) (n : Str) (ins outs : List Str) (ps : List Prt) (ws : List (Prt × Prt)) : Prop :=
  ∃ dx i o p w, H x = some (.ins C dx (fsD n i o p w (textOfD n ins outs ps ws))) ∧ SqT K H i (ins.map V.str) ∧ SqT K H o (outs.map V.str) ∧ Dp K H (.ref p) (.tuple (ps.map dPair)) ∧ Dp K H (.ref w) (.tuple (ws.map dWire))
/-- Diagram.__init__ of what was read -/
def spDI (K : PySem.W.Frag) (C : Addr) : Sp := fun vs H Q _ => ∃ (x dx i o p w : Addr) (n : Str) (r : RSt), vs = [.ref x, .str n, .ref i, .ref o, .ref p, .ref w] ∧ H x = some (.ins C dx []) ∧ ROk r ∧ r.name = some n ∧
  SqT K H i (r.ins.map V.str) ∧ SqT K H o (r.outs.map V.str) ∧ PartsAt K H p r.parts ∧ WiresAt K H w r.wires ∧
  ∀ H' ws, SameX x H H' → IsOrd r.outs r.parts r.wires ws → DiagAt K C H' x n r.ins r.outs r.parts ws → Q .non H'
theorem nameOk_len {z : Str} (h : nameOk z = true) : 1 ≤ z.length ∧ z.length ≤ 8 := by
  unfold nameOk at h
  simp only [Bool.and_eq_true, decide_eq_true_eq] at h
  exact h.1.1
theorem nameOk_ne {z : Str} (h : nameOk z = true) : z ≠ "" := fun e => by
  have := (nameOk_len h).1
  rw [e] at this
  exact absurd this (by decide +kernel)
theorem posOf_inj {ps : List Prt} {a b : Str} (ha : a ∈ ps.map (·.1)) (hb : b ∈ ps.map (·.1)) (h : posOf ps a = posOf ps b) : a = b := by
  unfold posOf at h
  have h1 := List.idxOf_lt_length_of_mem ha
  have h2 := List.idxOf_lt_length_of_mem hb
  have e1 := List.getElem_idxOf h1
  have e2 := List.getElem_idxOf h2
  rw [← e1, ← e2]
  congr 1
theorem posOf_get {ps : List Prt} (nd : (ps.map (·.1)).Nodup) {j : Nat} {q : Prt} (h : ps[j]? = some q) : posOf ps q.1 = j := by
  unfold posOf
  have hj : j < (ps.map (·.1)).length := by
    rw [List.length_map]
    exact (List.getElem?_eq_some_iff.mp h).1
  have e : (ps.map (·.1))[j] = q.1 := by
    have := (List.getElem?_eq_some_iff.mp h).2
    simp [this]
  rw [← e]
  exact nd.idxOf_getElem j hj
theorem pl_get {α β : Type} {R : α → β → Prop} : ∀ {xs : List α} {ys : List β} {i : Nat} {y : β}, Paired R xs ys → ys[i]? = some y → ∃ x, xs[i]? = some x ∧ R x y
  | _, _, _, _, .nil, h => by simp at h
  | _, _, 0, _, .cons h t, e => by
    rw [List.getElem?_cons_zero] at e
    cases e
    exact ⟨_, rfl, h⟩
  | _, _, i + 1, _, .cons h t, e => by
    rw [List.getElem?_cons_succ] at e
    obtain ⟨x, h1, h2⟩ := pl_get t e
    exact ⟨x, by rw [List.getElem?_cons_succ]; exact h1, h2⟩
theorem pl_get' {α β : Type} {R : α → β → Prop} : ∀ {xs : List α} {ys : List β} {i : Nat} {x : α}, Paired R xs ys → xs[i]? = some x → ∃ y, ys[i]? = some y ∧ R x y
  | _, _, _, _, .nil, h => by simp at h
  | _, _, 0, _, .cons h t, e => by
    rw [List.getElem?_cons_zero] at e
    cases e
    exact ⟨_, rfl, h⟩
  | _, _, i + 1, _, .cons h t, e => by
    rw [List.getElem?_cons_succ] at e
    obtain ⟨y, h1, h2⟩ := pl_get' t e
    exact ⟨y, by rw [List.getElem?_cons_succ]; exact h1, h2⟩
/-- the places of the first i parts -/
def PosKV (ps : List Prt) (i : Nat) (kvs : List (Key × V)) : Prop := kvs.length ≤ i ∧ ∀ j q, j < i → ps[j]? = some q → valV kvs (Sum.inr q.1) = some (.int (j : Nat))
theorem posKV_put {ps : List Prt} (nd : (ps.map (·.1)).Nodup) {i : Nat} {q : Prt} {kvs : List (Key × V)} (h : PosKV ps i kvs) (hq : ps[i]? = some q) : PosKV ps (i + 1) (putK kvs (Sum.inr q.1) (.int (i : Nat))) := by
  refine ⟨Nat.le_trans (length_putK _ _ _) (by have := h.1; omega), fun j q' hj hq' => ?_⟩
  rw [valV_put]
  by_cases e : q'.1 = q.1
  · have e1 := posOf_get nd hq
    have e2 := posOf_get nd hq'
    rw [e] at e2
    have : i = j := e1.symm.trans e2
    subst this
    rw [if_pos (by rw [e])]
  · rw [if_neg fun z => e (Sum.inr.inj z)]
    have : j ≠ i := fun z => by
      subst z
      rw [hq] at hq'
      cases hq'
      exact e rfl
    exact h.2 j q' (by omega) hq'
theorem posKV_at {ps : List Prt} (nd : (ps.map (·.1)).Nodup) {kvs : List (Key × V)} (h : PosKV ps ps.length kvs) {a : Str} (ha : a ∈ ps.map (·.1)) : valV kvs (Sum.inr a) = some (.int (posOf ps a : Nat)) := by
  obtain ⟨q, hq, rfl⟩ := List.mem_map.mp ha
  obtain ⟨j, hj, e⟩ := List.getElem_of_mem hq
  have e2 : ps[j]? = some q := by rw [List.getElem?_eq_getElem hj, e]
  rw [posOf_get nd e2]
  exact h.2 j q hj e2
/-! ### the rows of inner -/
def InnAt (H : Hp) (ps : List Prt) (t : Prt) (v : V) : Prop := ∃ a q, v = .ref a ∧ H a = some (.tup [.int (posOf ps t.1 : Nat), .str t.2, .ref q]) ∧ H q = some (.tup [.str t.1, .str t.2])
def TgtAt (H : Hp) (t : Prt) (v : V) : Prop := ∃ q, v = .ref q ∧ H q = some (.tup [.str t.1, .str t.2])
theorem InnAt.same {H H' : Hp} {ps : List Prt} {t : Prt} {v : V} (s : Same H H') (h : InnAt H ps t v) : InnAt H' ps t v := by
  obtain ⟨a, q, e, h1, h2⟩ := h
  exact ⟨a, q, e, s _ _ h1, s _ _ h2⟩
theorem TgtAt.same {H H' : Hp} {t : Prt} {v : V} (s : Same H H') (h : TgtAt H t v) : TgtAt H' t v := by
  obtain ⟨q, e, h2⟩ := h
  exact ⟨q, e, s _ _ h2⟩
def kH (H : Hp) (v : V) : List At :=
  match v with
  | .ref a => match H a with
    | some (.tup [.int n, .str z, .ref _]) => [.i n, .s z]
    | _ => []
  | _ => []
def tH (H : Hp) (v : V) : Prt :=
  match v with
  | .ref a => match H a with
    | some (.tup [.int _, .str _, .ref q]) => match H q with
      | some (.tup [.str a, .str b]) => (a, b)
      | _ => ("", "")
    | _ => ("", "")
  | _ => ("", "")
theorem inn_kH {H : Hp} {ps : List Prt} {t : Prt} {v : V} (h : InnAt H ps t v) : kH H v = keyW ps t ∧ tH H v = t := by
  obtain ⟨a, q, rfl, h1, h2⟩ := h
  unfold kH tH
  dsimp only
  rw [h1]
  dsimp only
  rw [h2]
  exact ⟨rfl, rfl⟩
theorem inn_map {H : Hp} {ps : List Prt} : ∀ {ts : List Prt} {vs : List V}, Paired (InnAt H ps) ts vs → vs.map (tH H) = ts
  | _, _, .nil => rfl
  | _, _, .cons h t => by rw [List.map_cons, (inn_kH h).2, inn_map t]
theorem inn_mem {H : Hp} {ps : List Prt} : ∀ {ts : List Prt} {vs : List V}, Paired (InnAt H ps) ts vs → ∀ v ∈ vs, tH H v ∈ ts ∧ InnAt H ps (tH H v) v
  | _, _, .nil, v, hv => by cases hv
  | _, _, .cons h t, v, hv => by
    rcases List.mem_cons.mp hv with rfl | hv
    · rw [(inn_kH h).2]
      exact ⟨List.mem_cons_self, h⟩
    · obtain ⟨h1, h2⟩ := inn_mem t v hv
      exact ⟨List.mem_cons_of_mem _ h1, h2⟩
theorem map_inj_nd {α β : Type} {f : α → β} : ∀ {l : List α}, (l.map f).Nodup → ∀ x ∈ l, ∀ y ∈ l, f x = f y → x = y
  | [], _, x, hx, _, _, _ => by cases hx
  | a :: l, h, x, hx, y, hy, e => by
    rw [List.map_cons, List.nodup_cons] at h
    rcases List.mem_cons.mp hx with ex | hx'
    · rcases List.mem_cons.mp hy with ey | hy'
      · rw [ex, ey]
      · exact absurd (List.mem_map.mpr ⟨y, hy', by rw [← e, ex]⟩) h.1
    · rcases List.mem_cons.mp hy with ey | hy'
      · exact absurd (List.mem_map.mpr ⟨x, hx', by rw [e, ey]⟩) h.1
      · exact map_inj_nd h.2 x hx' y hy' e
theorem keyW_inj {ps : List Prt} {t u : Prt} (ht : t.1 ∈ ps.map (·.1)) (hu : u.1 ∈ ps.map (·.1)) (h : keyW ps t = keyW ps u) : t = u := by
  unfold keyW at h
  have h1 := (List.cons.inj h).1
  have h2 := (List.cons.inj (List.cons.inj h).2).1
  have e2 := At.s.inj h2
  have e1 := At.i.inj h1
  exact Prod.ext (posOf_inj ht hu (by omega)) e2
theorem inn_pair {H : Hp} {ps : List Prt} : ∀ {ys : List V}, (∀ v ∈ ys, InnAt H ps (tH H v) v) → Paired (InnAt H ps) (ys.map (tH H)) ys
  | [], _ => .nil
  | y :: r, h => .cons (h y List.mem_cons_self) (inn_pair fun v hv => h v (List.mem_cons_of_mem _ hv))
theorem rSort_inn {K : PySem.W.Frag} {H : Hp} {Q : VK} {ps : List Prt} {ts : List Prt} {vs : List V} {a : Addr} (ha : SqL K H a vs) (h : Paired (InnAt H ps) ts vs) (nd : ts.Nodup) (ht : ∀ t ∈ ts, t.1 ∈ ps.map (·.1))
    (q : ∀ inn ys p, inn.Perm ts → SrtO.Srtd (fun x y => lexA (keyW ps x) (keyW ps y)) inn → Paired (InnAt H ps) inn ys → H p = none → Q (.ref p) (upd H p (.lst ys))) : rSortedAt K [.ref a] H Q := by
  have hm := inn_map h
  have hi := inn_mem h
  refine ⟨a, vs, kH H, rfl, ha, fun x hx => ?_, fun x hx => ?_, fun x hx y hy => ?_, fun x hx y hy e => ?_, fun ys p hs hp hn => ?_⟩
  · obtain ⟨_, b, c, e, h1, h2⟩ := hi x hx
    refine ⟨b, [.ref c], e, ?_⟩
    rw [(inn_kH (hi x hx).2).1, h1]
    rfl
  · rw [(inn_kH (hi x hx).2).1]
    unfold keyW
    simp
  · rw [(inn_kH (hi x hx).2).1, (inn_kH (hi y hy).2).1]
    rfl
  · rw [(inn_kH (hi x hx).2).1, (inn_kH (hi y hy).2).1] at e
    exact map_inj_nd (f := tH H) (by rw [hm]; exact nd) x hx y hy (keyW_inj (ht _ (hi x hx).1) (ht _ (hi y hy).1) e)
  · have hy : ∀ v ∈ ys, InnAt H ps (tH H v) v := fun v hv => (hi v (hp.mem_iff.mp hv)).2
    refine q (ys.map (tH H)) ys p ?_ ?_ (inn_pair hy) hn
    · rw [← hm]
      exact hp.map _
    · refine List.pairwise_map.mpr (List.Pairwise.imp_of_mem (fun {x y} hx hy' e => ?_) hs)
      have e' : lexA (kH H y) (kH H x) = false := e
      rw [(inn_kH (hy x hx)).1, (inn_kH (hy y hy')).1] at e'
      exact e'
/-! ### what feeds -/
theorem wires_get {K : PySem.W.Frag} {H : Hp} {ws : List (Prt × Prt)} {kvs : List (List Key × V)} (h : Paired (fun (x : Prt × Prt) (q : List Key × V) => q.1 = keyP x.1 ∧ ∃ t, q.2 = V.ref t ∧ SqT K H t [.str x.2.1, .str x.2.2]) ws kvs) {t : Prt} (ht : t ∈ ws.map (·.1)) :
    ∃ s, valV kvs (keyP t) = some (.ref s) ∧ SqT K H s [.str (lookW ws t).1, .str (lookW ws t).2] := by
  induction h with
  | nil => cases ht
  | cons a p ih =>
    rename_i x q xs ys
    unfold lookW
    by_cases e : x.1 = t
    · obtain ⟨e1, s, e2, hs⟩ := a
      refine ⟨s, ?_, ?_⟩
      · unfold valV
        rw [List.find?_cons_of_pos (by rw [e1, e]; simp)]
        show some q.2 = _
        rw [e2]
      · rw [List.find?_cons_of_pos (by simp [e])]
        exact hs
    · have ht' : t ∈ xs.map (·.1) := by
        rw [List.map_cons] at ht
        exact (List.mem_cons.mp ht).elim (fun z => absurd z.symm e) id
      obtain ⟨s, e1, hs⟩ := ih ht'
      refine ⟨s, ?_, ?_⟩
      · unfold valV at e1 ⊢
        rw [List.find?_cons_of_neg (by rw [a.1]; simp only [decide_eq_true_eq]; exact fun z => e (keyP_inj z))]
        exact e1
      · rw [List.find?_cons_of_neg (by simp [e])]
        exact hs
theorem paired_app {α β : Type} {R : α → β → Prop} : ∀ {xs : List α} {ys : List β} {xs' : List α} {ys' : List β}, Paired R xs ys → Paired R xs' ys' → Paired R (xs ++ xs') (ys ++ ys')
  | _, _, _, _, .nil, h => h
  | _, _, _, _, .cons h t, h2 => .cons h (paired_app t h2)
theorem sl_wires {K : PySem.W.Frag} {l : List Addr} {H H' : Hp} (s : SameL l H H') (n : NoT l H) : ∀ {xs : List V} {zs : List (Prt × Prt)}, DpAll K H xs (zs.map dWire) → DpAll K H' xs (zs.map dWire)
  | _, [], .nil => .nil
  | _, q :: r, .cons h hs => by
    obtain ⟨a, t, u, rfl, ha, ht, hu⟩ := dp_wire_inv h
    exact .cons (.tup (sl_sqt s n ha) (.cons (dp_pair (sl_sqt s n ht)) (.cons (dp_pair (sl_sqt s n hu)) .nil))) (sl_wires s n hs)
theorem dp_wire {K : PySem.W.Frag} {H : Hp} {a t u : Addr} {x : Prt × Prt} (h : SqT K H a [.ref t, .ref u]) (ht : SqT K H t [.str x.1.1, .str x.1.2]) (hu : SqT K H u [.str x.2.1, .str x.2.2]) : Dp K H (.ref a) (dWire x) :=
  .tup h (.cons (dp_pair ht) (.cons (dp_pair hu) .nil))
theorem lookW_mem {ws : List (Prt × Prt)} {t : Prt} (h : t ∈ ws.map (·.1)) : (t, lookW ws t) ∈ ws := by
  unfold lookW
  cases e : ws.find? fun x => decide (x.1 = t) with
  | none =>
    obtain ⟨y, hy, rfl⟩ := List.mem_map.mp h
    have := List.find?_eq_none.mp e y hy
    simp at this
  | some y =>
    have h1 := List.mem_of_find?_eq_some e
    have h2 := List.find?_some e
    have e2 : y.1 = t := by simpa using h2
    show (t, y.2) ∈ ws
    rw [← e2]
    exact h1
theorem blockOk_len {z : Str} (h : blockOk z = true) : z.length ≤ 100 := by
  unfold blockOk at h
  rcases Bool.or_eq_true_iff.mp h with h | h
  · cases e : primOf z with
    | none => rw [e] at h; cases h
    | some nc =>
      obtain ⟨n, c⟩ := nc
      rw [← text_prim e]
      exact textOf_len (primOf_ok e)
  · have := (nameOk_len (Bool.and_eq_true_iff.mp h).1).2
    omega
theorem ord_short {r : RSt} {n : Str} (h : ROk r) (hn : r.name = some n) {zs : List (Prt × Prt)} (ho : IsOrd r.outs r.parts r.wires zs) : DShort n r.ins r.outs r.parts zs := by
  have nl := nameOk_len (h.nm n hn)
  obtain ⟨inn, hp, _, rfl⟩ := ho
  have hwl : ∀ x ∈ r.wires, (x.1.1.length ≤ 100 ∧ x.1.2.length ≤ 100) ∧ x.2.1.length ≤ 100 ∧ x.2.2.length ≤ 100 := fun x hx => by
    have part : ∀ a, a ∈ r.parts.map (·.1) → a.length ≤ 100 := fun a ha => by
      obtain ⟨q, hq, rfl⟩ := List.mem_map.mp ha
      have := (nameOk_len (h.p q hq).1).2
      omega
    have e0 : (("" : Str)).length = 0 := by decide +kernel
    refine ⟨?_, ?_⟩
    · rcases h.w1 x hx with ⟨e1, e2⟩ | ⟨e1, e2⟩
      · have := (nameOk_len (h.o.2 _ e2)).2
        rw [e1, e0]
        exact ⟨by omega, by omega⟩
      · have := (nameOk_len e2).2
        exact ⟨part _ e1, by omega⟩
    · rcases h.w2 x hx with ⟨e1, e2⟩ | ⟨e1, e2⟩
      · have := (nameOk_len (h.i.2 _ e2)).2
        rw [e1, e0]
        exact ⟨by omega, by omega⟩
      · have := (nameOk_len e2).2
        exact ⟨part _ e1, by omega⟩
  have hmem : ∀ t ∈ inn ++ outerT r.outs r.wires, t ∈ r.wires.map (·.1) := fun t ht => by
    rcases List.mem_append.mp ht with ht | ht
    · exact (List.mem_filter.mp (hp.mem_iff.mp ht)).1
    · have := (List.mem_filter.mp ht).2
      simpa using this
  refine ⟨by omega, ⟨by have := h.i.1; omega, fun y hy => by have := (nameOk_len (h.i.2 y hy)).2; omega⟩, ⟨by have := h.o.1; omega, fun y hy => by have := (nameOk_len (h.o.2 y hy)).2; omega⟩, ⟨by have := h.few.p; omega, fun y hy => ⟨by have := (nameOk_len (h.p y hy).1).2; omega, blockOk_len (h.p y hy).2⟩⟩, ?_, fun x hx => ?_⟩
  · have h1 := hp.length_eq
    have h2 := List.length_filter_le (fun t : Prt => !decide (t.1 = "")) (r.wires.map (·.1))
    have h3 := List.length_filter_le (fun t : Prt => decide (t ∈ r.wires.map (·.1))) (r.outs.map fun o => (("" : Str), o))
    have h4 := h.few.w
    have h5 := h.o.1
    rw [List.length_map] at h2 h3
    rw [List.length_map, List.length_append]
    unfold outerT
    omega
  · obtain ⟨t, ht, rfl⟩ := List.mem_map.mp hx
    exact hwl _ (lookW_mem (hmem t ht))
end Ly

set_option maxRecDepth 100000
set_option maxHeartbeats 4000000
/-! whole texts -/
namespace Ly
open PySem PySem.Spec PyProof.Rows L2
def loopR : List Str → RSt → Nat → Except Nat RSt
  | [], r, k => if r.done = true then .ok r else .error k
  | z :: zs, r, k => if r.done = true then .error k else match takeR r z with
    | none => .error k
    | some r' => loopR zs r' (k + 1)
/-- a text, read: what was read, or the first wrong row -/
def parseR (z : Str) : Except Nat RSt := loopR (Txt.split z "\n") rs0 0
/-- .. and before the first row there is nothing -/
structure RInv (r : RSt) : Prop extends ROk r where
  z : r.name = none → r.parts = [] ∧ r.wires = [] ∧ r.done = false
theorem rinv0 : RInv rs0 := ⟨⟨⟨by decide, by decide⟩, fun n e => (by cases e), ⟨by decide, fun y hy => (by cases hy)⟩, ⟨by decide, fun y hy => (by cases hy)⟩, List.nodup_nil, fun q hq => (by cases hq), List.nodup_nil, fun x hx => (by cases hx), fun x hx => (by cases hx)⟩, fun _ => ⟨rfl, rfl, rfl⟩⟩
theorem headOf_ok {z n : Str} {ins outs : List Str} (h : headOf z = some (n, ins, outs)) : nameOk n = true ∧ n ∉ portNames ∧ (∀ y ∈ ins ++ outs, nameOk y = true) ∧ max ins.length outs.length ≤ 8 ∧ (ins ++ outs).Nodup := by
  unfold headOf at h
  split at h
  case isFalse => cases h
  unfold headMid at h
  split at h
  case h_2 => cases h
  unfold headEnd at h
  split at h
  case h_2 => cases h
  split at h
  case isFalse => cases h
  unfold headFin at h
  split at h
  case isFalse => cases h
  rename_i hc
  have h := Option.some.inj h
  injection h with h1 h2
  injection h2 with h2 h3
  rw [h1, h2, h3] at hc
  simp only [Bool.and_eq_true, Bool.not_eq_true', decide_eq_true_eq, decide_eq_false_iff_not, List.all_eq_true] at hc
  exact ⟨hc.1.1.1.1, hc.1.1.1.2, hc.1.1.2, hc.1.2, hc.2⟩
theorem portOf_ok {ps : List Prt} {own : List Str} {z : Str} {t : Prt} (h : portOf ps own z = some t) : (t.1 = "" ∧ t.2 ∈ own) ∨ (t.1 ∈ ps.map (·.1) ∧ nameOk t.2 = true) := by
  unfold portOf at h
  split at h
  · split at h
    · rename_i hin
      cases h
      exact .inl ⟨rfl, hin⟩
    · cases h
  · split at h
    · rename_i hc
      cases h
      simp only [Bool.and_eq_true, decide_eq_true_eq] at hc
      exact .inr hc
    · cases h
  · cases h
theorem takeR_inv {r r' : RSt} {z : Str} (hi : RInv r) (hw : r.wires.length + 1 ≤ 14000) (h : takeR r z = some r') : RInv r' ∧ r'.wires.length ≤ r.wires.length + 1 := by
  unfold takeR at h
  cases hn : r.name with
  | none =>
    rw [hn] at h
    obtain ⟨hp, hw0, hd⟩ := hi.z hn
    cases hh : headOf z with
    | none => rw [hh] at h; cases h
    | some y =>
      obtain ⟨n, ins, outs⟩ := y
      rw [hh] at h
      cases h
      obtain ⟨h1, h2, h3, h4, h5⟩ := headOf_ok hh
      refine ⟨⟨⟨⟨hi.few.p, hi.few.w⟩, fun m e => (by cases e; exact h1), ⟨by dsimp only; omega, fun y hy => h3 y (List.mem_append_left _ hy)⟩, ⟨by dsimp only; omega, fun y hy => h3 y (List.mem_append_right _ hy)⟩, hi.nd, hi.p, hi.wn, fun x hx => ?_, fun x hx => ?_⟩, fun e => (by cases e)⟩, by dsimp only; omega⟩
      · dsimp only at hx
        rw [hw0] at hx
        cases hx
      · dsimp only at hx
        rw [hw0] at hx
        cases hx
  | some m =>
    rw [hn] at h
    dsimp only at h
    split at h
    · cases h
      exact ⟨⟨⟨⟨hi.few.p, hi.few.w⟩, fun k e => hi.nm k (hn.trans e), hi.i, hi.o, hi.nd, hi.p, hi.wn, hi.w1, hi.w2⟩, fun e => (by cases e)⟩, by dsimp only; omega⟩
    split at h
    · unfold takePartR at h
      split at h
      case h_2 => cases h
      rename_i a b _
      split at h
      case isFalse => cases h
      rename_i hc
      cases h
      simp only [Bool.and_eq_true, Bool.not_eq_true', decide_eq_false_iff_not, beq_iff_eq] at hc
      obtain ⟨⟨⟨⟨c1, c2⟩, c3⟩, c4⟩, c5⟩ := hc
      have hwe : r.wires = [] := List.length_eq_zero_iff.mp c3
      have hlt : r.parts.length ≠ 16 := beq_eq_false_iff_ne.mp c4
      have hp16 := hi.few.p
      refine ⟨⟨⟨⟨by simp only [List.length_append, List.length_singleton]; omega, hi.few.w⟩, hi.nm, hi.i, hi.o, ?_, ?_, hi.wn, fun x hx => ?_, fun x hx => ?_⟩, fun e => (by rw [hn] at e; cases e)⟩, by dsimp only; omega⟩
      · dsimp only
        rw [List.map_append, List.nodup_append]
        refine ⟨hi.nd, by simp, fun y hy q hq e => ?_⟩
        simp only [List.map_cons, List.map_nil, List.mem_singleton] at hq
        rw [hq] at e
        exact c5 (e ▸ hy)
      · intro q hq
        rcases List.mem_append.mp hq with hq | hq
        · exact hi.p q hq
        · rw [List.mem_singleton.mp hq]
          exact ⟨c1, c2⟩
      · dsimp only at hx
        rw [hwe] at hx
        cases hx
      · dsimp only at hx
        rw [hwe] at hx
        cases hx
    split at h
    · unfold takeWireR at h
      split at h
      case h_2 => cases h
      split at h
      case h_2 => cases h
      rename_i t s e1 e2
      split at h
      · cases h
      rename_i hc
      cases h
      refine ⟨⟨⟨⟨hi.few.p, by simp only [List.length_append, List.length_singleton]; omega⟩, hi.nm, hi.i, hi.o, hi.nd, hi.p, ?_, fun x hx => ?_, fun x hx => ?_⟩, fun e => (by rw [hn] at e; cases e)⟩, by simp only [List.length_append, List.length_singleton]; omega⟩
      · dsimp only
        rw [List.map_append, List.nodup_append]
        refine ⟨hi.wn, by simp, fun y hy q hq e => ?_⟩
        simp only [List.map_cons, List.map_nil, List.mem_singleton] at hq
        rw [hq] at e
        exact hc (e ▸ hy)
      · rcases List.mem_append.mp hx with hx | hx
        · exact hi.w1 x hx
        · rw [List.mem_singleton.mp hx]
          exact portOf_ok e1
      · rcases List.mem_append.mp hx with hx | hx
        · exact hi.w2 x hx
        · rw [List.mem_singleton.mp hx]
          exact portOf_ok e2
    · cases h
/-- Reader.result -/
def spResult (K : PySem.W.Frag) (C CD : Addr) : Sp := fun vs H Q _ => ∃ (x dx i o p w : Addr) (r : RSt) (n : Str), vs = [.ref x] ∧ ReaderAt K C H x dx i o p w r ∧ ROk r ∧ r.name = some n ∧
  ∀ y H' ws, Same H H' → H y = none → IsOrd r.outs r.parts r.wires ws → DiagAt K CD H' y n r.ins r.outs r.parts ws → Q (.ref y) H'
structure TextFits (z : Str) : Prop where
  len : z.length ≤ 1000000
  rows : (Txt.split z "\n").length ≤ 13000
  row : ∀ y ∈ Txt.split z "\n", y.length ≤ 100100
/-- Diagram.parse of a text that is right -/
def spDParse0 (K : PySem.W.Frag) (CD : Addr) : Sp := fun vs H Q _ => ∃ (z : Str) (r : RSt), vs = [.ref CD, .str z] ∧ TextFits z ∧ parseR z = .ok r ∧
  ∀ y H' ws n, r.name = some n → Same H H' → H y = none → IsOrd r.outs r.parts r.wires ws → DiagAt K CD H' y n r.ins r.outs r.parts ws → Q (.ref y) H'
/-- Diagram.parse -/
def spDParse (K : PySem.W.Frag) (CD CE : Addr) : Sp := fun vs H Q E => ∃ (z : Str), vs = [.ref CD, .str z] ∧ TextFits z ∧
  (∀ r, parseR z = .ok r → ∀ y H' ws n, r.name = some n → Same H H' → H y = none → IsOrd r.outs r.parts r.wires ws → DiagAt K CD H' y n r.ins r.outs r.parts ws → Q (.ref y) H') ∧
  ∀ k, parseR z = .error k → ∀ d H', Same H H' → H' d = some (.xd [("row", .int (k : Nat))]) → E (.ref CE) (some d) H'
/-- Diagram.__str__ -/
def spDStr (C : Addr) : Sp := fun vs H Q _ => ∃ (x dx : Addr) (n : Str) (i o p w : Addr) (t : Str), vs = [.ref x] ∧ H x = some (.ins C dx (fsD n i o p w t)) ∧ t.length ≤ sizeLine ∧ Q (.str t) H
end Ly

set_option maxRecDepth 100000
set_option maxHeartbeats 4000000
/-! a text form, read -/
namespace Ly
open PySem PySem.Spec PyProof.Rows L2
def LowT (z : Str) : Prop := ∀ c ∈ sl z, 97 ≤ c ∧ c ≤ 122
theorem nameOk_low {z : Str} (h : nameOk z = true) : LowT z := fun c hc => by
  unfold nameOk at h
  simp only [Bool.and_eq_true] at h
  have := List.all_eq_true.mp h.2 c hc
  unfold isLet at this
  simpa using this
theorem nameOk_res {z : Str} (h : nameOk z = true) : z ∉ reserved := by
  unfold nameOk at h
  simp only [Bool.and_eq_true, Bool.not_eq_true', decide_eq_false_iff_not] at h
  exact h.1.2
def BlkT (z : Str) : Prop := ∀ c ∈ sl z, c = 32 ∨ (48 ≤ c ∧ c ≤ 57) ∨ (97 ≤ c ∧ c ≤ 122)
theorem textOf_blk {n : Str} {c : Option Int} (h : OkC n c) : BlkT (textOf n c) := by
  have hn : ∀ n ∈ portNames, BlkT n := by
    unfold BlkT
    decide +kernel
  have h1 := hn n h.1
  cases c with
  | none => exact h1
  | some v =>
    have hv := h.2 v rfl
    intro d hd
    have e : sl (textOf n (some v)) = sl n ++ (sl " " ++ sl (Str.ofString (toString v))) := by
      show sl (n ++ " " ++ _) = _
      rw [sl_app, sl_app, List.append_assoc]
    rw [e] at hd
    rcases List.mem_append.mp hd with hd | hd
    · exact h1 d hd
    rcases List.mem_append.mp hd with hd | hd
    · have : sl " " = [32] := by decide +kernel
      rw [this] at hd
      exact .inl (List.mem_singleton.mp hd)
    · obtain ⟨m, rfl⟩ := Int.eq_ofNat_of_zero_le hv.1
      have := TL.numL_digits m d (by rw [← TL.tl_num m]; exact hd)
      exact .inr (.inl this)
theorem blockOk_blk {z : Str} (h : blockOk z = true) : BlkT z := by
  unfold blockOk at h
  rcases Bool.or_eq_true_iff.mp h with h | h
  · cases e : primOf z with
    | none => rw [e] at h; cases h
    | some nc =>
      obtain ⟨n, c⟩ := nc
      rw [← text_prim e]
      exact textOf_blk (primOf_ok e)
  · exact fun c hc => .inr (.inr (nameOk_low (Bool.and_eq_true_iff.mp h).1 c hc))
theorem low_not {z : Str} (h : LowT z) {c : Nat} (hc : c < 97 ∨ 122 < c) : c ∉ sl z := fun hm => by
  have := h c hm
  omega
theorem join_two (y a b : Str) : Txt.join y [a, b] = a ++ y ++ b := by
  rw [TL.join_eq]
  rfl
theorem split_2y {y : Str} {s : Nat} {S : List Nat} (ey : sl y = s :: S) (hk : y.cps.all (· < 256) = true) {a b : Str} (ha : s ∉ sl a) (hb : s ∉ sl b) : Txt.split (a ++ y ++ b) y = [a, b] := by
  rw [← join_two]
  refine TL.split_join ey hk (by simp) fun p hp => ?_
  rcases List.mem_cons.mp hp with rfl | hp
  · exact ha
  · rw [List.mem_singleton.mp hp]
    exact hb
theorem split_1y {y : Str} {s : Nat} {S : List Nat} (ey : sl y = s :: S) (hk : y.cps.all (· < 256) = true) {a : Str} (ha : s ∉ sl a) : Txt.split a y = [a] := by
  have := TL.split_join ey hk (parts := [a]) (by simp) fun p hp => by rw [List.mem_singleton.mp hp]; exact ha
  rw [TL.join_eq] at this
  exact this
theorem sl_blk : sl "block " = [98, 108, 111, 99, 107, 32] := by decide +kernel
theorem sl_op : sl "(" = [40] := by decide +kernel
theorem sl_cl : sl ")" = [41] := by decide +kernel
theorem sl_sc : sl ";" = [59] := by decide +kernel
theorem sl_sp : sl " " = [32] := by decide +kernel
theorem sl_em : sl "" = [] := by decide +kernel
theorem sl_nl : sl "\n" = [10] := by decide +kernel
theorem sl_dot : sl "." = [46] := by decide +kernel
theorem sl_pt : sl "  part " = [32, 32, 112, 97, 114, 116, 32] := by decide +kernel
theorem sl_eq : sl " = " = [32, 61, 32] := by decide +kernel
theorem sl_ar : sl " <- " = [32, 60, 45, 32] := by decide +kernel
theorem sl_s2 : sl "  " = [32, 32] := by decide +kernel
theorem sl_end : sl "end" = [101, 110, 100] := by decide +kernel
/-- letters and spaces -/
def LsT (z : Str) : Prop := ∀ c ∈ sl z, c = 32 ∨ (97 ≤ c ∧ c ≤ 122)
theorem join_ls {y : Str} {xs : List Str} (hy : LsT y) (h : ∀ x ∈ xs, LsT x) : LsT (Txt.join y xs) := fun c hc => by
  rw [TL.join_eq] at hc
  have e := TL.tl_join y xs
  have hm : ∀ (ps : List (List Nat)), (∀ p ∈ ps, ∀ c ∈ p, c = 32 ∨ (97 ≤ c ∧ c ≤ 122)) → ∀ c ∈ TL.joinL (sl y) ps, c = 32 ∨ (97 ≤ c ∧ c ≤ 122) := by
    intro ps
    induction ps with
    | nil => intro _ c hc; cases hc
    | cons p r ih =>
      intro hp c hc
      cases r with
      | nil => exact hp p List.mem_cons_self c hc
      | cons q r =>
        have hc' : c ∈ p ++ (sl y ++ TL.joinL (sl y) (q :: r)) := hc
        rcases List.mem_append.mp hc' with hc | hc
        · exact hp p List.mem_cons_self c hc
        rcases List.mem_append.mp hc with hc | hc
        · exact hy c hc
        · exact ih (fun q hq => hp q (List.mem_cons_of_mem _ hq)) c hc
  refine hm (xs.map sl) (fun p hp => ?_) c (e ▸ hc)
  obtain ⟨x, hx, rfl⟩ := List.mem_map.mp hp
  exact h x hx
theorem low_ls {z : Str} (h : LowT z) : LsT z := fun c hc => .inr (h c hc)
theorem ls_not {z : Str} (h : LsT z) {c : Nat} (hc : c ≠ 32 ∧ (c < 97 ∨ 122 < c)) : c ∉ sl z := fun hm => by
  have := h c hm
  omega
theorem cnt0 {z y : Str} {c : Nat} (hy : y = ⟨#[c]⟩) (h : c ∉ sl z) : Txt.count z y = 0 := by
  subst hy
  rw [count_cnt]
  exact cnt_none c _ h
/-- what a diagram's data must be -/
structure DataOk (n : Str) (ins outs : List Str) (ps : List Prt) (ws : List (Prt × Prt)) : Prop where
  n : nameOk n = true ∧ n ∉ portNames
  io : (∀ y ∈ ins ++ outs, nameOk y = true) ∧ ins.length ≤ 8 ∧ outs.length ≤ 8 ∧ (ins ++ outs).Nodup
  p : ps.length ≤ 16 ∧ (∀ q ∈ ps, nameOk q.1 = true ∧ blockOk q.2 = true) ∧ (ps.map (·.1)).Nodup
  wn : (ws.map (·.1)).Nodup
  w1 : ∀ x ∈ ws, (x.1.1 = "" ∧ x.1.2 ∈ outs) ∨ (x.1.1 ∈ ps.map (·.1) ∧ nameOk x.1.2 = true)
  w2 : ∀ x ∈ ws, (x.2.1 = "" ∧ x.2.2 ∈ ins) ∨ (x.2.1 ∈ ps.map (·.1) ∧ nameOk x.2.2 = true)
theorem head_back {n : Str} {ins outs : List Str} (hn : nameOk n = true ∧ n ∉ portNames) (io : (∀ y ∈ ins ++ outs, nameOk y = true) ∧ ins.length ≤ 8 ∧ outs.length ≤ 8 ∧ (ins ++ outs).Nodup) : headOf (headText n ins outs) = some (n, ins, outs) := by
  have lown := nameOk_low hn.1
  have hsp : LsT " " := fun c hc => by rw [sl_sp] at hc; exact .inl (List.mem_singleton.mp hc)
  have hem : LsT "" := fun c hc => by rw [sl_em] at hc; cases hc
  have lsJ : LsT (Txt.join " " ins) := join_ls hsp fun x hx => low_ls (nameOk_low (io.1 x (List.mem_append_left _ hx)))
  have lsO : LsT (Txt.join "" (outs.map fun o => " " ++ o)) := join_ls hem fun x hx => by
    obtain ⟨o, ho, rfl⟩ := List.mem_map.mp hx
    intro c hc
    rw [sl_app] at hc
    rcases List.mem_append.mp hc with hc | hc
    · exact hsp c hc
    · exact low_ls (nameOk_low (io.1 o (List.mem_append_right _ ho))) c hc
  have ehead : headText n ins outs = "block " ++ (n ++ "(" ++ (Txt.join " " ins ++ ";" ++ Txt.join "" (outs.map fun o => " " ++ o))) ++ ")" := by
    unfold headText
    simp only [PySem.Str.append_assoc]
  have hp : ("(" : Str) = ⟨#[40]⟩ := by decide +kernel
  have hs : (";" : Str) = ⟨#[59]⟩ := by decide +kernel
  have c1 : Txt.startswith (headText n ins outs) "block " = true := starts_iff.mpr ⟨_, by rw [ehead, PySem.Str.append_assoc]⟩
  have c2 : Txt.endswith (headText n ins outs) ")" = true := ends_iff.mpr ⟨_, ehead⟩
  have q1 : Txt.count "block " "(" = 0 := by decide +kernel
  have q2 : Txt.count ")" "(" = 0 := by decide +kernel
  have q3 : Txt.count "(" "(" = 1 := by decide +kernel
  have q4 : Txt.count ";" "(" = 0 := by decide +kernel
  have r1 : Txt.count "block " ";" = 0 := by decide +kernel
  have r2 : Txt.count ")" ";" = 0 := by decide +kernel
  have r3 : Txt.count "(" ";" = 0 := by decide +kernel
  have r4 : Txt.count ";" ";" = 1 := by decide +kernel
  have c3 : Txt.count (headText n ins outs) "(" = 1 := by
    rw [ehead]
    simp only [count_app hp, q1, q2, q3, q4, cnt0 hp (low_not lown (by decide)), cnt0 hp (ls_not lsJ (by decide)), cnt0 hp (ls_not lsO (by decide))]
    rfl
  have c4 : Txt.count (headText n ins outs) ";" = 1 := by
    rw [ehead]
    simp only [count_app hs, r1, r2, r3, r4, cnt0 hs (low_not lown (by decide)), cnt0 hs (ls_not lsJ (by decide)), cnt0 hs (ls_not lsO (by decide))]
    rfl
  unfold headOf
  rw [c1, c2, decide_eq_true c3, decide_eq_true c4, show (true && true && true && true) = true from rfl, if_pos rfl, ehead]
  have hcm : ∀ X : Str, cutS ("block " ++ X ++ ")") (some 6) (some (-1)) = X := fun X => cut_mid (n := 6) (by decide +kernel) (by decide +kernel)
  rw [hcm]
  unfold headMid
  have hrest : (40 : Nat) ∉ sl (Txt.join " " ins ++ ";" ++ Txt.join "" (outs.map fun o => " " ++ o)) := by
    rw [sl_app, sl_app, sl_sc]
    intro hm
    rcases List.mem_append.mp hm with hm | hm
    · rcases List.mem_append.mp hm with hm | hm
      · exact ls_not lsJ (by decide) hm
      · simp at hm
    · exact ls_not lsO (by decide) hm
  rw [split_2y (s := 40) (S := []) sl_op (by decide +kernel) (low_not lown (by decide)) hrest]
  dsimp only
  unfold headEnd
  rw [split_2y (s := 59) (S := []) sl_sc (by decide +kernel) (ls_not lsJ (by decide)) (ls_not lsO (by decide))]
  dsimp only
  have names : ∀ y ∈ ins ++ outs, y ≠ "" ∧ (32 : Nat) ∉ sl y := fun y hy => ⟨nameOk_ne (io.1 y hy), low_not (nameOk_low (io.1 y hy)) (by decide)⟩
  have hj : ∀ xs : List Str, (∀ y ∈ xs, y ≠ "" ∧ (32 : Nat) ∉ sl y) → headPorts (Txt.join " " xs) = xs := fun xs hx => by
    unfold headPorts
    cases xs with
    | nil =>
      rw [if_pos (by rw [TL.join_eq]; rfl)]
    | cons a r =>
      have ne : Txt.join " " (a :: r) ≠ "" := fun e => by
        have e1 := congrArg sl e
        rw [TL.join_eq] at e1
        have e2 := TL.tl_join " " (a :: r)
        have e3 : TL.joinL (sl " ") ((a :: r).map sl) = [] := by
          rw [sl_em] at e1
          rw [← e1]
          exact e2.symm
        have ha : sl a = [] := by
          cases r with
          | nil => exact e3
          | cons b r => exact (List.append_eq_nil_iff.mp (show sl a ++ _ = [] from e3)).1
        exact (hx a List.mem_cons_self).1 (sl_inj (by rw [ha, sl_em]))
      rw [if_neg ne]
      exact TL.split_join (s := 32) (S := []) sl_sp (by decide +kernel) (by simp) fun p hp => (hx p hp).2
  have hO : (decide (Txt.join "" (outs.map fun o => " " ++ o) = "") || Txt.startswith (Txt.join "" (outs.map fun o => " " ++ o)) " ") = true ∧ headOut (Txt.join "" (outs.map fun o => " " ++ o)) = outs := by
    cases ho : outs with
    | nil =>
      have e : Txt.join "" (([] : List Str).map fun o => " " ++ o) = "" := by rw [TL.join_eq]; rfl
      rw [e]
      exact ⟨by rw [decide_eq_true rfl]; rfl, by unfold headOut; rw [if_pos rfl]⟩
    | cons a r =>
      have key : ∀ (xs : List Str) (a : Str), Txt.join "" ((a :: xs).map fun o => " " ++ o) = " " ++ Txt.join " " (a :: xs) := by
        intro xs
        induction xs with
        | nil => intro a; rw [TL.join_eq, TL.join_eq]; rfl
        | cons b xs ih =>
          intro a
          have := ih b
          rw [TL.join_eq, TL.join_eq] at this ⊢
          show " " ++ a ++ "" ++ Str.join "" ((b :: xs).map fun o => " " ++ o) = " " ++ (a ++ " " ++ Str.join " " (b :: xs))
          rw [this]
          refine sl_inj ?_
          simp only [sl_app, sl_em, List.append_nil, List.append_assoc]
      rw [key r a]
      have ne : (" " : Str) ++ Txt.join " " (a :: r) ≠ "" := fun e => by
        have e1 := congrArg sl e
        rw [sl_app, sl_sp, sl_em] at e1
        cases e1
      refine ⟨by rw [show Txt.startswith ((" " : Str) ++ Txt.join " " (a :: r)) " " = true from starts_iff.mpr ⟨_, rfl⟩, Bool.or_true], ?_⟩
      unfold headOut
      have hcp : ∀ X : Str, cutS (" " ++ X) (some 1) none = X := fun X => cut_pre (n := 1) (by decide +kernel)
      rw [if_neg ne, hcp]
      exact TL.split_join (s := 32) (S := []) sl_sp (by decide +kernel) (by simp) fun p hp => (names p (List.mem_append_right _ (by rw [ho]; exact hp))).2
  rw [hO.1, if_pos rfl, hO.2, hj ins fun y hy => names y (List.mem_append_left _ hy)]
  unfold headFin
  have hall : (ins ++ outs).all nameOk = true := List.all_eq_true.mpr io.1
  rw [hn.1, decide_eq_false hn.2, hall, decide_eq_true (show max ins.length outs.length ≤ 8 by omega), decide_eq_true io.2.2.2]
  rfl
/-! ### parts -/
theorem part_starts (p : Prt) : Txt.startswith (partText p) "  part " = true ∧ cutS (partText p) (some 7) none = p.1 ++ " = " ++ p.2 ∧ partText p ≠ "end" := by
  have e : partText p = "  part " ++ (p.1 ++ " = " ++ p.2) := by
    unfold partText
    simp only [PySem.Str.append_assoc]
  refine ⟨starts_iff.mpr ⟨_, e⟩, by rw [e]; exact cut_pre (n := 7) (by decide +kernel), fun z => ?_⟩
  rw [e] at z
  have := congrArg sl z
  rw [sl_app, sl_pt, sl_end] at this
  cases this
theorem split_part {p : Prt} (h1 : LowT p.1) (h2 : BlkT p.2) : Txt.split (p.1 ++ " = " ++ p.2) " = " = [p.1, p.2] := by
  refine TL.map_tl_inj ?_
  rw [TL.split_spl _ " = " (by rw [show TL.tl " = " = [32, 61, 32] from sl_eq]; simp) (TL.kind_ok (by decide +kernel))]
  have e : TL.tl (p.1 ++ " = " ++ p.2) = sl p.1 ++ ([32, 61, 32] ++ sl p.2) := by
    show sl (p.1 ++ " = " ++ p.2) = _
    rw [sl_app, sl_app, sl_eq, List.append_assoc]
  rw [e, show TL.tl " = " = [32, 61, 32] from sl_eq, TL.spl_part1 (low_not h1 (by decide)), List.nil_append, TL.spl_last, List.nil_append]
  · rfl
  · intro i hi
    cases hp : TL.pre [32, 61, 32] ((sl p.2).drop i) with
    | false => rfl
    | true =>
      exfalso
      have e : ((sl p.2).drop i).take 3 = [32, 61, 32] := eq_of_beq hp
      have hm : (61 : Nat) ∈ sl p.2 := List.mem_of_mem_drop (List.mem_of_mem_take (by rw [e]; decide))
      have := h2 61 hm
      omega
theorem take_part {r : RSt} {p : Prt} (hn : r.name.isSome = true) (h : nameOk p.1 = true ∧ blockOk p.2 = true) (hw : r.wires = []) (hl : r.parts.length < 16) (hd : p.1 ∉ r.parts.map (·.1)) : takeR r (partText p) = some { r with parts := r.parts ++ [p] } := by
  obtain ⟨m, hm⟩ := Option.isSome_iff_exists.mp hn
  obtain ⟨c1, c2, c3⟩ := part_starts p
  unfold takeR
  rw [hm]
  dsimp only
  rw [if_neg c3, c1, if_pos rfl, c2, split_part (nameOk_low h.1) (blockOk_blk h.2)]
  unfold takePartR
  dsimp only
  have h16 : (r.parts.length == 16) = false := beq_eq_false_iff_ne.mpr (by omega)
  rw [h.1, h.2, h16, decide_eq_false hd, hw, ← hm]
  rfl
theorem loop_cons {r r' : RSt} {z : Str} {zs : List Str} {k : Nat} (hd : r.done = false) (ht : takeR r z = some r') : loopR (z :: zs) r k = loopR zs r' (k + 1) := by
  show (if r.done = true then Except.error k else match takeR r z with | none => Except.error k | some r' => loopR zs r' (k + 1)) = _
  rw [hd, if_neg (by decide), ht]
theorem loop_done {r : RSt} {k : Nat} (hd : r.done = true) : loopR [] r k = .ok r := by
  show (if r.done = true then Except.ok r else Except.error k) = _
  rw [if_pos hd]
theorem take_parts : ∀ (ps : List Prt) {r : RSt} {k : Nat} {rest : List Str}, r.name.isSome = true → r.done = false → r.wires = [] → (∀ p ∈ ps, nameOk p.1 = true ∧ blockOk p.2 = true) → ((r.parts ++ ps).map (·.1)).Nodup → (r.parts ++ ps).length ≤ 16 →
    loopR (ps.map partText ++ rest) r k = loopR rest { r with parts := r.parts ++ ps } (k + ps.length)
  | [], r, k, rest, _, _, _, _, _, _ => by
    rw [List.append_nil]
    rfl
  | p :: ps, r, k, rest, hn, hd, hw, hp, nd, hl => by
    have hl2 := hl
    rw [List.length_append, List.length_cons] at hl2
    have hnot : p.1 ∉ r.parts.map (·.1) := fun hm => by
      rw [List.map_append, List.map_cons] at nd
      exact (List.nodup_append.mp nd).2.2 _ hm _ List.mem_cons_self rfl
    have ht := take_part hn (hp p List.mem_cons_self) hw (by omega) hnot
    show loopR (partText p :: (ps.map partText ++ rest)) r k = _
    rw [loop_cons hd ht]
    rw [take_parts ps (r := { r with parts := r.parts ++ [p] }) hn hd hw (fun q hq => hp q (List.mem_cons_of_mem _ hq)) (by dsimp only; rw [List.append_assoc]; exact nd) (by dsimp only; rw [List.append_assoc]; exact hl)]
    dsimp only
    have ek : k + 1 + ps.length = k + (ps.length + 1) := by omega
    rw [List.append_assoc, List.length_cons, ek]
    rfl
/-! ### wires -/
/-- a port as a diagram's text has it -/
def PortOk (own : List Str) (ps : List Prt) (t : Prt) : Prop := (t.1 = "" ∧ t.2 ∈ own) ∨ (t.1 ∈ ps.map (·.1) ∧ nameOk t.2 = true)
theorem port_signs {own : List Str} {ps : List Prt} {t : Prt} (h : PortOk own ps t) (ho : ∀ y ∈ own, nameOk y = true) (hp : ∀ q ∈ ps, nameOk q.1 = true) : (∀ c ∈ sl (portText t), c = 46 ∨ (97 ≤ c ∧ c ≤ 122)) ∧ portText t ≠ "part" ∧ portOf ps own (portText t) = some t := by
  rcases h with ⟨h1, h2⟩ | ⟨h1, h2⟩
  · have hn := ho _ h2
    have hl := nameOk_low hn
    have e : portText t = t.2 := by
      unfold portText
      rw [if_pos h1]
    rw [e]
    refine ⟨fun c hc => .inr (hl c hc), fun z => nameOk_res hn (by rw [z]; decide +kernel), ?_⟩
    unfold portOf
    rw [split_1y (s := 46) (S := []) sl_dot (by decide +kernel) (low_not hl (by decide))]
    dsimp only
    rw [if_pos h2]
    exact congrArg some (Prod.ext h1.symm rfl)
  · have hn1 : nameOk t.1 = true := by
      obtain ⟨q, hq, e⟩ := List.mem_map.mp h1
      rw [← e]
      exact hp q hq
    have l1 := nameOk_low hn1
    have l2 := nameOk_low h2
    have e : portText t = t.1 ++ "." ++ t.2 := by
      unfold portText
      rw [if_neg (nameOk_ne hn1)]
    rw [e]
    refine ⟨fun c hc => ?_, fun z => ?_, ?_⟩
    · rw [sl_app, sl_app, sl_dot] at hc
      rcases List.mem_append.mp hc with hc | hc
      · rcases List.mem_append.mp hc with hc | hc
        · exact .inr (l1 c hc)
        · exact .inl (List.mem_singleton.mp hc)
      · exact .inr (l2 c hc)
    · have e1 := congrArg sl z
      rw [sl_app, sl_app, sl_dot] at e1
      have : (46 : Nat) ∈ sl "part" := by
        rw [← e1]
        simp
      exact absurd this (by decide +kernel)
    · unfold portOf
      rw [split_2y (s := 46) (S := []) sl_dot (by decide +kernel) (low_not l1 (by decide)) (low_not l2 (by decide))]
      dsimp only
      rw [decide_eq_true h1, h2]
      rfl
theorem wire_starts {x : Prt × Prt} (h1 : ∀ c ∈ sl (portText x.1), c = 46 ∨ (97 ≤ c ∧ c ≤ 122)) (hp : portText x.1 ≠ "part") (h2 : ∀ c ∈ sl (portText x.2), c = 46 ∨ (97 ≤ c ∧ c ≤ 122)) :
    wireText x ≠ "end" ∧ Txt.startswith (wireText x) "  part " = false ∧ Txt.startswith (wireText x) "  " = true ∧ Txt.split (cutS (wireText x) (some 2) none) " <- " = [portText x.1, portText x.2] := by
  have e : wireText x = "  " ++ (portText x.1 ++ " <- " ++ portText x.2) := by
    unfold wireText
    simp only [PySem.Str.append_assoc]
  have n32 : ∀ {u : Str}, (∀ c ∈ sl u, c = 46 ∨ (97 ≤ c ∧ c ≤ 122)) → (32 : Nat) ∉ sl u := fun h hm => by
    have := h 32 hm
    omega
  refine ⟨fun z => ?_, ?_, starts_iff.mpr ⟨_, e⟩, ?_⟩
  · rw [e] at z
    have := congrArg sl z
    rw [sl_app, sl_s2, sl_end] at this
    cases this
  · cases c : Txt.startswith (wireText x) "  part " with
    | false => rfl
    | true =>
      exfalso
      obtain ⟨r, er⟩ := starts_iff.mp c
      rw [e] at er
      have e1 := congrArg sl er
      rw [sl_app, sl_s2, sl_app, sl_app, sl_ar, sl_app, sl_pt] at e1
      have e2 : sl (portText x.1) ++ (32 :: ([60, 45, 32] ++ sl (portText x.2))) = [112, 97, 114, 116] ++ (32 :: sl r) := by
        have := List.append_cancel_left (as := [32, 32]) (show [32, 32] ++ (sl (portText x.1) ++ (32 :: ([60, 45, 32] ++ sl (portText x.2)))) = [32, 32] ++ ([112, 97, 114, 116] ++ (32 :: sl r)) by
          rw [← List.append_assoc] at e1 ⊢
          simpa using e1)
        exact this
      have tw : ∀ (l m : List Nat), 32 ∉ l → (l ++ (32 :: m)).takeWhile (fun c => decide (c ≠ 32)) = l := by
        intro l m hl
        induction l with
        | nil => simp
        | cons a l ih =>
          have ha : a ≠ 32 := fun z => hl (by rw [z]; exact List.mem_cons_self)
          rw [List.cons_append, List.takeWhile_cons, if_pos (by simpa using ha), ih fun z => hl (List.mem_cons_of_mem _ z)]
      have e3 := congrArg (List.takeWhile fun c => decide (c ≠ 32)) e2
      rw [tw _ _ (n32 h1), tw _ _ (by decide)] at e3
      exact hp (sl_inj (by rw [e3]; decide +kernel))
  · have hcp : ∀ X : Str, cutS ("  " ++ X) (some 2) none = X := fun X => cut_pre (n := 2) (by decide +kernel)
    rw [e, hcp]
    exact split_2y (s := 32) (S := [60, 45, 32]) sl_ar (by decide +kernel) (n32 h1) (n32 h2)
theorem take_wire {r : RSt} {x : Prt × Prt} (hn : r.name.isSome = true) (ho : ∀ y ∈ r.outs, nameOk y = true) (hi : ∀ y ∈ r.ins, nameOk y = true) (hp : ∀ q ∈ r.parts, nameOk q.1 = true) (h1 : PortOk r.outs r.parts x.1) (h2 : PortOk r.ins r.parts x.2) (hd : x.1 ∉ r.wires.map (·.1)) :
    takeR r (wireText x) = some { r with wires := r.wires ++ [x] } := by
  obtain ⟨m, hm⟩ := Option.isSome_iff_exists.mp hn
  obtain ⟨a1, a2, a3⟩ := port_signs h1 ho hp
  obtain ⟨b1, b2, b3⟩ := port_signs h2 hi hp
  obtain ⟨c1, c2, c3, c4⟩ := wire_starts a1 a2 b1
  unfold takeR
  rw [hm]
  dsimp only
  rw [if_neg c1, c2, if_neg (by decide), c3, if_pos rfl, c4]
  unfold takeWireR
  dsimp only
  rw [a3, b3]
  dsimp only
  rw [if_neg hd, ← hm]
theorem take_wires : ∀ (ws : List (Prt × Prt)) {r : RSt} {k : Nat} {rest : List Str}, r.name.isSome = true → r.done = false → (∀ y ∈ r.outs, nameOk y = true) → (∀ y ∈ r.ins, nameOk y = true) → (∀ q ∈ r.parts, nameOk q.1 = true) →
    (∀ x ∈ ws, PortOk r.outs r.parts x.1 ∧ PortOk r.ins r.parts x.2) → ((r.wires ++ ws).map (·.1)).Nodup → loopR (ws.map wireText ++ rest) r k = loopR rest { r with wires := r.wires ++ ws } (k + ws.length)
  | [], r, k, rest, _, _, _, _, _, _, _ => by
    rw [List.append_nil]
    rfl
  | x :: ws, r, k, rest, hn, hd, ho, hi, hp, hx, nd => by
    have hnot : x.1 ∉ r.wires.map (·.1) := fun hm => by
      rw [List.map_append, List.map_cons] at nd
      exact (List.nodup_append.mp nd).2.2 _ hm _ List.mem_cons_self rfl
    have ht := take_wire hn ho hi hp (hx x List.mem_cons_self).1 (hx x List.mem_cons_self).2 hnot
    show loopR (wireText x :: (ws.map wireText ++ rest)) r k = _
    rw [loop_cons hd ht]
    rw [take_wires ws (r := { r with wires := r.wires ++ [x] }) hn hd ho hi hp (fun q hq => hx q (List.mem_cons_of_mem _ hq)) (by dsimp only; rw [List.append_assoc]; exact nd)]
    dsimp only
    have ek : k + 1 + ws.length = k + (ws.length + 1) := by omega
    rw [List.append_assoc, List.length_cons, ek]
    rfl
/-! ### the text -/
theorem rows_nl {n : Str} {ins outs : List Str} {ps : List Prt} {ws : List (Prt × Prt)} (h : DataOk n ins outs ps ws) : ∀ z ∈ textRows n ins outs ps ws, (10 : Nat) ∉ sl z := by
  have hon : ∀ y ∈ outs, nameOk y = true := fun y hy => h.io.1 y (List.mem_append_right _ hy)
  have hin : ∀ y ∈ ins, nameOk y = true := fun y hy => h.io.1 y (List.mem_append_left _ hy)
  have hpn : ∀ q ∈ ps, nameOk q.1 = true := fun q hq => (h.p.2.1 q hq).1
  intro z hz hm
  unfold textRows at hz
  simp only [List.mem_append, List.mem_singleton, List.mem_map] at hz
  rcases hz with ((rfl | ⟨p, hp, rfl⟩) | ⟨x, hx, rfl⟩) | rfl
  · unfold headText at hm
    simp only [sl_app, List.mem_append, sl_blk, sl_op, sl_sc, sl_cl] at hm
    have hsp : LsT " " := fun c hc => by rw [sl_sp] at hc; exact .inl (List.mem_singleton.mp hc)
    have hem : LsT "" := fun c hc => by rw [sl_em] at hc; cases hc
    rcases hm with (((((hm | hm) | hm) | hm) | hm) | hm) | hm
    · revert hm; decide
    · exact low_not (nameOk_low h.n.1) (by decide) hm
    · revert hm; decide
    · exact ls_not (join_ls hsp fun x hx => low_ls (nameOk_low (hin x hx))) (by decide) hm
    · revert hm; decide
    · refine ls_not (join_ls hem fun x hx => ?_) (by decide) hm
      obtain ⟨o, ho, rfl⟩ := List.mem_map.mp hx
      intro c hc
      rw [sl_app] at hc
      rcases List.mem_append.mp hc with hc | hc
      · exact hsp c hc
      · exact low_ls (nameOk_low (hon o ho)) c hc
    · revert hm; decide
  · unfold partText at hm
    simp only [sl_app, List.mem_append, sl_pt, sl_eq] at hm
    rcases hm with ((hm | hm) | hm) | hm
    · revert hm; decide
    · exact low_not (nameOk_low (h.p.2.1 p hp).1) (by decide) hm
    · revert hm; decide
    · have := blockOk_blk (h.p.2.1 p hp).2 10 hm
      omega
  · obtain ⟨a1, a2, a3⟩ := port_signs (h.w1 x hx) hon hpn
    obtain ⟨b1, b2, b3⟩ := port_signs (h.w2 x hx) hin hpn
    unfold wireText at hm
    simp only [sl_app, List.mem_append, sl_s2, sl_ar] at hm
    rcases hm with ((hm | hm) | hm) | hm
    · revert hm; decide
    · have := a1 10 hm
      omega
    · revert hm; decide
    · have := b1 10 hm
      omega
  · rw [sl_end] at hm
    revert hm
    decide
theorem split_textD {n : Str} {ins outs : List Str} {ps : List Prt} {ws : List (Prt × Prt)} (h : DataOk n ins outs ps ws) : Txt.split (textOfD n ins outs ps ws) "\n" = textRows n ins outs ps ws := by
  unfold textOfD
  exact TL.split_join (s := 10) (S := []) sl_nl (by decide +kernel) (by unfold textRows; simp) (rows_nl h)
/-- THE READ-BACK -/
theorem parse_text {n : Str} {ins outs : List Str} {ps : List Prt} {ws : List (Prt × Prt)} (h : DataOk n ins outs ps ws) : parseR (textOfD n ins outs ps ws) = .ok ⟨some n, ins, outs, ps, ws, true⟩ := by
  have hon : ∀ y ∈ outs, nameOk y = true := fun y hy => h.io.1 y (List.mem_append_right _ hy)
  have hin : ∀ y ∈ ins, nameOk y = true := fun y hy => h.io.1 y (List.mem_append_left _ hy)
  have hpn : ∀ q ∈ ps, nameOk q.1 = true := fun q hq => (h.p.2.1 q hq).1
  unfold parseR
  rw [split_textD h]
  have e : textRows n ins outs ps ws = headText n ins outs :: (ps.map partText ++ (ws.map wireText ++ [("end" : Str)])) := by
    unfold textRows
    simp
  have ht : takeR rs0 (headText n ins outs) = some { rs0 with name := some n, ins := ins, outs := outs } := by
    unfold takeR
    show (headOf (headText n ins outs)).map _ = _
    rw [head_back h.n h.io]
    rfl
  rw [e, loop_cons rfl ht]
  rw [take_parts ps (r := { rs0 with name := some n, ins := ins, outs := outs }) rfl rfl rfl h.p.2.1 h.p.2.2 h.p.1]
  dsimp only
  rw [show rs0.parts ++ ps = ps from rfl]
  rw [take_wires ws (r := { rs0 with name := some n, ins := ins, outs := outs, parts := ps }) rfl rfl hon hin hpn (fun x hx => ⟨h.w1 x hx, h.w2 x hx⟩) h.wn]
  dsimp only
  rw [show rs0.wires ++ ws = ws from rfl]
  have he : takeR { rs0 with name := some n, ins := ins, outs := outs, parts := ps, wires := ws } "end" = some { rs0 with name := some n, ins := ins, outs := outs, parts := ps, wires := ws, done := true } := by
    unfold takeR
    dsimp only
    rw [if_pos rfl]
  rw [loop_cons rfl he, loop_done rfl]
end Ly

set_option maxRecDepth 100000
set_option maxHeartbeats 4000000
/-! drawn diagrams -/
namespace Ly
open PySem PySem.Spec PyProof.Rows L2
def WordsOk (ws : List Str) : Prop := (∀ y ∈ ws, nameOk y = true) ∧ ws.Nodup
def ltrs : Str := "abcdefghijklmnopqrstuvwxyz"
theorem ltrs_at : ∀ i : Nat, i < 26 → ltrs.cps.toList[i]? = some (97 + i) := by decide +kernel
theorem ltrs_len : ltrs.length = 26 := by decide +kernel
theorem sl_fold (d : Nat) : ∀ (n : Nat) (acc : Array Nat), ((List.replicate n #[d]).foldl (· ++ ·) acc).toList = acc.toList ++ List.replicate n d
  | 0, acc => by simp
  | n + 1, acc => by
    rw [List.replicate_succ, List.foldl_cons, sl_fold d n, List.replicate_succ]
    simp
theorem sl_mul (d n : Nat) : sl (Txt.mul ⟨#[d]⟩ (n : Int)) = List.replicate n d := by
  unfold Txt.mul
  by_cases h0 : (n : Int) < 1
  · rw [if_pos h0]
    have : n = 0 := by omega
    subst this
    rfl
  · rw [if_neg h0]
    by_cases h1 : ((n : Int) == 1 || (⟨#[d]⟩ : Str).length == 0) = true
    · rw [if_pos h1]
      have : n = 1 := by
        rcases Bool.or_eq_true_iff.mp h1 with h | h
        · have := eq_of_beq h
          omega
        · cases h
      subst this
      rfl
    · rw [if_neg h1, Int.toNat_natCast]
      show ((List.replicate n #[d]).foldl (· ++ ·) #[]).toList = _
      rw [sl_fold]
      rfl
theorem mulOk_small {x : Str} {n : Nat} (hx : x.length = 1) (hn : n ≤ 100) : MulOk x (n : Int) := by
  refine ⟨?_, fun h0 h1 => ?_, fun h0 h1 => ?_⟩
  · rw [decide_eq_false (by omega), decide_eq_false (by omega)]
    rfl
  · rw [hx]
    have h2 : (0 : Int) < n := by omega
    have h3 : (1 : Int) ≤ (2 ^ 63 - 1) / (n : Int) := by
      rw [Int.le_ediv_iff_mul_le h2]
      omega
    omega
  · rw [hx, Int.toNat_natCast, Nat.one_mul]
    exact PyProof.Rows.short24 (by omega)
def sgnS (f k : Nat) : Str := ⟨#[97 + (f + 5 * k) % 26]⟩
def wordS (f m d w k : Nat) : Str := if w = 0 then sgnS f k ++ Txt.mul ⟨#[d]⟩ (m : Int) else if w = 1 then Txt.mul ⟨#[d]⟩ (m : Int) ++ sgnS f k else Txt.mul "q" ((1 + k / 6 : Nat) : Int) ++ sgnS f k
theorem q_is : ("q" : Str) = ⟨#[113]⟩ := by decide +kernel
theorem sl_word (f m d w k : Nat) : sl (wordS f m d w k) = if w = 0 then (97 + (f + 5 * k) % 26) :: List.replicate m d else if w = 1 then List.replicate m d ++ [97 + (f + 5 * k) % 26] else List.replicate (1 + k / 6) 113 ++ [97 + (f + 5 * k) % 26] := by
  unfold wordS
  split
  · rw [sl_app, sl_mul]
    rfl
  · split
    · rw [sl_app, sl_mul]
      rfl
    · rw [sl_app, q_is, sl_mul]
      rfl
theorem word_low {f m d w k : Nat} (hd : 97 ≤ d ∧ d ≤ 122) : LowT (wordS f m d w k) := fun c hc => by
  rw [sl_word] at hc
  have h26 : (f + 5 * k) % 26 < 26 := Nat.mod_lt _ (by decide)
  split at hc
  · rcases List.mem_cons.mp hc with rfl | hc
    · omega
    · rw [List.eq_of_mem_replicate hc]; exact hd
  · split at hc
    · rcases List.mem_append.mp hc with hc | hc
      · rw [List.eq_of_mem_replicate hc]; exact hd
      · rw [List.mem_singleton.mp hc]; omega
    · rcases List.mem_append.mp hc with hc | hc
      · rw [List.eq_of_mem_replicate hc]; omega
      · rw [List.mem_singleton.mp hc]; omega
theorem word_len {f m d w k : Nat} (hm : m ≤ 7) (hk : k < 14) : 1 ≤ (wordS f m d w k).length ∧ (wordS f m d w k).length ≤ 8 := by
  rw [← sl_len, sl_word]
  split
  · simp; omega
  · split
    · simp; omega
    · simp; omega
theorem rep_no {m d : Nat} {a b : Nat} {r : List Nat} (h : List.replicate m d = a :: b :: r) (ne : a ≠ b) : False := by
  have h1 : a = d := List.eq_of_mem_replicate (by rw [h]; exact List.mem_cons_self)
  have h2 : b = d := List.eq_of_mem_replicate (by rw [h]; exact List.mem_cons_of_mem _ List.mem_cons_self)
  omega
theorem word_res {f m d w k : Nat} : wordS f m d w k ∉ reserved := fun hm => by
  have hs : sl (wordS f m d w k) ∈ reserved.map sl := List.mem_map.mpr ⟨_, hm, rfl⟩
  have er : reserved.map sl = [[98, 108, 111, 99, 107], [112, 97, 114, 116], [101, 110, 100], [115, 101, 108, 102]] := by decide +kernel
  rw [er, sl_word] at hs
  simp only [List.mem_cons, List.not_mem_nil, or_false] at hs
  split at hs
  · rcases hs with h | h | h | h <;> exact rep_no (List.cons.inj h).2 (by decide)
  · split at hs
    · rcases hs with h | h | h | h <;> (have h2 := congrArg List.dropLast h; rw [List.dropLast_concat] at h2; exact rep_no h2 (by decide))
    · rw [Nat.add_comm 1, List.replicate_succ, List.cons_append] at hs
      rcases hs with h | h | h | h <;> exact absurd (List.cons.inj h).1 (by decide)
theorem word_ok {f m d w k : Nat} (hd : 97 ≤ d ∧ d ≤ 122) (hm : m ≤ 7) (hk : k < 14) : nameOk (wordS f m d w k) = true := by
  obtain ⟨h1, h2⟩ := word_len (f := f) (d := d) (w := w) hm hk
  unfold nameOk
  rw [decide_eq_true h1, decide_eq_true h2, decide_eq_false word_res]
  have : (wordS f m d w k).cps.toList.all isLet = true := List.all_eq_true.mpr fun c hc => by
    have := word_low hd c hc
    unfold isLet
    simpa using this
  rw [this]
  rfl
theorem word_inj {f m d w k j : Nat} (hk : k < 14) (hj : j < 14) (h : wordS f m d w k = wordS f m d w j) : k = j := by
  have e := congrArg sl h
  rw [sl_word, sl_word] at e
  have key : 97 + (f + 5 * k) % 26 = 97 + (f + 5 * j) % 26 → k = j := fun q => by omega
  split at e
  · exact key (List.cons.inj e).1
  · split at e
    · have := congrArg List.getLast? e
      rw [List.getLast?_concat, List.getLast?_concat] at this
      exact key (Option.some.inj this)
    · have := congrArg List.getLast? e
      rw [List.getLast?_concat, List.getLast?_concat] at this
      exact key (Option.some.inj this)
def wordsL (f m d w n : Nat) : List Str := (List.range n).map (wordS f m d w)
theorem words_ok {f m d w n : Nat} (hd : 97 ≤ d ∧ d ≤ 122) (hm : m ≤ 7) (hn : n ≤ 14) : WordsOk (wordsL f m d w n) := by
  refine ⟨fun y hy => ?_, ?_⟩
  · obtain ⟨k, hk, rfl⟩ := List.mem_map.mp hy
    have := List.mem_range.mp hk
    exact word_ok hd hm (by omega)
  · refine List.pairwise_map.mpr (List.Pairwise.imp_of_mem (fun {k j} hk hj ne e => ?_) List.nodup_range)
    have h1 := List.mem_range.mp hk
    have h2 := List.mem_range.mp hj
    exact ne (word_inj (by omega) (by omega) e)
def spWords : Sp := fun vs H Q _ => ∃ (p : Addr) (n : Nat) (a b : Int), vs = [.ref p, .int (n : Nat)] ∧ FeedAt H p a b ∧ n ≤ 14 ∧
  ∀ q ws H' a' b', H q = none → SameX p H H' → FeedAt H' p a' b' → H' q = some (.lst (ws.map V.str)) → ws.length = n → WordsOk ws → Q (.ref q) H'
def spBlock (K : PySem.W.Frag) : Sp := fun vs H Q _ => ∃ (p q : Addr) (ws : List Str) (a b : Int), vs = [.ref p, .ref q] ∧ FeedAt H p a b ∧ SqL K H q (ws.map V.str) ∧ q ≠ p ∧ 0 < ws.length ∧ ws.length ≤ 1000 ∧ (∀ y ∈ ws, nameOk y = true) ∧
  ∀ z H' a' b', SameX p H H' → FeedAt H' p a' b' → blockOk z = true → Q (.str z) H'
/-! ### z and a word -/
theorem z_ok {y : Str} (h : nameOk y = true) : nameOk ("z" ++ cutS y none (some 7)) = true ∧ ("z" ++ cutS y none (some 7)) ∉ portNames := by
  have hz : sl ("z" : Str) = [122] := by decide +kernel
  have hl := cutS_length y none (some 7)
  have hc7 : (cutS y none (some 7)).length ≤ 7 := by
    rw [← sl_len]
    show (((sl y).drop _).take (HT.sIx y.length y.length (some 7) - HT.sIx y.length 0 none)).length ≤ 7
    rw [show HT.sIx y.length 0 none = 0 from rfl, show (some 7 : Option Int) = some ((7 : Nat) : Int) from rfl, HT.sIx_nat, List.length_take]
    omega
  have hlow : LowT ("z" ++ cutS y none (some 7)) := fun c hc => by
    rw [sl_app, hz] at hc
    rcases List.mem_append.mp hc with hc | hc
    · rw [List.mem_singleton.mp hc]; decide
    · have : c ∈ ((sl y).drop (HT.sIx y.length 0 none)).take (HT.sIx y.length y.length (some 7) - HT.sIx y.length 0 none) := hc
      exact nameOk_low h c (List.mem_of_mem_drop (List.mem_of_mem_take this))
  have hhd : ∀ z : Str, (sl z).head? ≠ some 122 → ("z" ++ cutS y none (some 7)) ≠ z := fun z hne e => by
    refine hne ?_
    rw [← e, sl_app, hz]
    rfl
  have hlen : (("z" : Str) ++ cutS y none (some 7)).length = 1 + (cutS y none (some 7)).length := by
    rw [PySem.Str.length_append]
    have : (("z" : Str)).length = 1 := by decide +kernel
    omega
  refine ⟨?_, fun hm => ?_⟩
  · unfold nameOk
    have hr : ("z" ++ cutS y none (some 7)) ∉ reserved := fun hm => hhd _ ((show ∀ z ∈ reserved, (sl z).head? ≠ some 122 by decide +kernel) _ hm) rfl
    have ha : (("z" : Str) ++ cutS y none (some 7)).cps.toList.all isLet = true := List.all_eq_true.mpr fun c hc => by
      have := hlow c hc
      unfold isLet
      simpa using this
    rw [decide_eq_true (by rw [hlen]; omega), decide_eq_true (by rw [hlen]; omega), decide_eq_false hr, ha]
    rfl
  · exact hhd _ ((show ∀ z ∈ portNames, (sl z).head? ≠ some 122 by decide +kernel) _ hm) rfl
theorem blk_name {z : Str} (h : nameOk z = true ∧ z ∉ portNames) : blockOk z = true := by
  unfold blockOk
  rw [h.1, decide_eq_false h.2, Bool.true_and, Bool.not_false, Bool.or_true]
theorem blk_prim {n : Str} {c : Option Int} (h : PText n c) : blockOk (textOf n c) = true := by
  unfold blockOk
  rw [primOf_text h]
  rfl
theorem blk_plain : ∀ z ∈ plain7, blockOk z = true := by decide +kernel
end Ly

set_option maxRecDepth 100000
set_option maxHeartbeats 4000000
/-! drawn diagrams, their rows, another order -/
namespace Ly
open PySem PySem.Spec PyProof.Rows L2
/-- a diagram as a tuple: name, inputs, outputs, parts, a dict of wires -/
structure TupD (K : PySem.W.Frag) (H : Hp) (t n' : Addr) (n : Str) (ins outs : List Str) (ps : List Prt) (ws : List (Prt × Prt)) : Prop where
  ex : ∃ i o p, SqT K H t [.str n, .ref i, .ref o, .ref p, .ref n'] ∧ SqT K H i (ins.map V.str) ∧ SqT K H o (outs.map V.str) ∧ Dp K H (.ref p) (.tuple (ps.map dPair))
  w : WiresAt K H n' ws
def spDraw (K : PySem.W.Frag) : Sp := fun vs H Q _ => ∃ (p q : Addr) (wd : List Str) (a b : Int), vs = [.ref p, .ref q] ∧ FeedAt H p a b ∧ SqL K H q (wd.map V.str) ∧ q ≠ p ∧ wd.length = 14 ∧ WordsOk wd ∧
  ∀ t m n ins outs ps ws H' a' b', SameX p H H' → FeedAt H' p a' b' → H t = none → H m = none → TupD K H' t m n ins outs ps ws → DataOk n ins outs ps ws → ps.length ≤ 4 → ws.length ≤ 35 → Q (.ref t) H'
/-- the order that the law gives the wires -/
def LOrd (outs : List Str) (ps : List Prt) (ws zs : List (Prt × Prt)) : Prop :=
  ∃ tss : List (List Prt), Paired (fun (p : Prt) (ts : List Prt) => ts.Perm ((ws.map (·.1)).filter fun t => decide (t.1 = p.1)) ∧ SrtO.Srtd (fun x y => lexA [.s x.1, .s x.2] [.s y.1, .s y.2]) ts) ps tss ∧ zs = (tss.flatten ++ outerT outs ws).map fun t => (t, lookW ws t)
def spLRows (K : PySem.W.Frag) : Sp := fun vs H Q _ => ∃ (t m : Addr) (n : Str) (ins outs : List Str) (ps : List Prt) (ws : List (Prt × Prt)), vs = [.ref t] ∧ TupD K H t m n ins outs ps ws ∧ DataOk n ins outs ps ws ∧ ws.length ≤ 200 ∧
  ∀ u l v zs H', Same H H' → H u = none → H l = none → H v = none → l ≠ v → H' u = some (.tup [.ref l, .ref v]) → H' l = some (.lst ((textRows n ins outs ps zs).map V.str)) → Dp K H' (.ref v) (.tuple (zs.map dWire)) → LOrd outs ps ws zs → Q (.ref u) H'
def spOrder (K : PySem.W.Frag) : Sp := fun vs H Q _ => ∃ (p l : Addr) (xs ys : List Str) (z : Str) (a b : Int), vs = [.ref p, .ref l, .int (ys.length : Nat)] ∧ FeedAt H p a b ∧ SqL K H l ((xs ++ ys ++ [z]).map V.str) ∧ l ≠ p ∧ xs.length ≤ 1000 ∧ ys.length ≤ 1000 ∧
  ∀ q ys' H' a' b', SameX p H H' → FeedAt H' p a' b' → H q = none → ys'.Perm ys → H' q = some (.lst ((xs ++ ys' ++ [z]).map V.str)) → Q (.ref q) H'
/-! ### one order -/
theorem srtd_one_way {α : Type} {lt : α → α → Bool} : ∀ {l m : List α}, (∀ x ∈ l, ∀ y ∈ l, lt x y = false → lt y x = false → x = y) → l.Perm m → SrtO.Srtd lt l → SrtO.Srtd lt m → l = m
  | [], m, _, hp, _, _ => by
    have := hp.length_eq
    exact (List.length_eq_zero_iff.mp this.symm).symm
  | x :: l, [], _, hp, _, _ => by
    have := hp.length_eq
    cases this
  | x :: l, y :: m, hlt, hp, hl, hm => by
    have e : x = y := by
      have h1 : x ∈ y :: m := hp.mem_iff.mp List.mem_cons_self
      have h2 : y ∈ x :: l := hp.mem_iff.mpr List.mem_cons_self
      have h2' := h2
      rcases List.mem_cons.mp h1 with e | h1
      · exact e
      rcases List.mem_cons.mp h2 with e | h2
      · exact e.symm
      have a1 := (List.pairwise_cons.mp hl).1 y h2
      have a2 := (List.pairwise_cons.mp hm).1 x h1
      exact hlt x List.mem_cons_self y h2' a2 a1
    subst e
    rw [srtd_one_way (fun a ha b hb => hlt a (List.mem_cons_of_mem _ ha) b (List.mem_cons_of_mem _ hb)) (List.Perm.cons_inv hp) (List.pairwise_cons.mp hl).2 (List.pairwise_cons.mp hm).2]
theorem lex_two {a b : At} {x y : At} : lexA [a, x] [b, y] = if a = b then (if x = y then false else atLt x y) else atLt a b := rfl
def R1 (ws : List (Prt × Prt)) (p : Prt) (ts : List Prt) : Prop := ts.Perm ((ws.map (·.1)).filter fun t => decide (t.1 = p.1)) ∧ SrtO.Srtd (fun x y => lexA [.s x.1, .s x.2] [.s y.1, .s y.2]) ts
theorem r1_mem {ws : List (Prt × Prt)} {p : Prt} {ts : List Prt} (h : R1 ws p ts) {t : Prt} (ht : t ∈ ts) : t.1 = p.1 := by
  have := (List.mem_filter.mp (h.1.mem_iff.mp ht)).2
  simpa using this
theorem r1_perm {ws : List (Prt × Prt)} : ∀ {qs : List Prt} {tss : List (List Prt)}, Paired (R1 ws) qs tss → (qs.map (·.1)).Nodup → tss.flatten.Perm ((ws.map (·.1)).filter fun t => decide (t.1 ∈ qs.map (·.1)))
  | _, _, .nil, _ => by simp
  | _, _, .cons (l₁ := qs) (a := q) (b := ts) h t, nd => by
    rw [List.map_cons, List.nodup_cons] at nd
    have ih := r1_perm t nd.2
    rw [List.flatten_cons]
    refine (List.Perm.append h.1 ih).trans ?_
    rw [List.perm_iff_count]
    intro u
    rw [List.count_append]
    have zero : ∀ {f : Prt → Bool}, f u = false → List.count u ((ws.map (·.1)).filter f) = 0 := fun hf => List.count_eq_zero.mpr fun hm => by
      have := (List.mem_filter.mp hm).2
      rw [hf] at this
      cases this
    by_cases e : u.1 = q.1
    · have n2 : u.1 ∉ qs.map (·.1) := by rw [e]; exact nd.1
      rw [List.count_filter (p := fun t : Prt => decide (t.1 = q.1)) (by simpa using e), zero (f := fun t : Prt => decide (t.1 ∈ qs.map (·.1))) (by simpa using n2), List.count_filter (p := fun t : Prt => decide (t.1 ∈ (q :: qs).map (·.1))) (by rw [e]; simp)]
      rfl
    · rw [zero (f := fun t : Prt => decide (t.1 = q.1)) (by simpa using e), Nat.zero_add]
      by_cases e2 : u.1 ∈ qs.map (·.1)
      · rw [List.count_filter (p := fun t : Prt => decide (t.1 ∈ qs.map (·.1))) (by simpa using e2), List.count_filter (p := fun t : Prt => decide (t.1 ∈ (q :: qs).map (·.1))) (by rw [List.map_cons]; simpa using Or.inr (by simpa using e2))]
      · rw [zero (f := fun t : Prt => decide (t.1 ∈ qs.map (·.1))) (by simpa using e2), zero (f := fun t : Prt => decide (t.1 ∈ (q :: qs).map (·.1))) (by
          rw [List.map_cons, decide_eq_false]
          intro hm
          rcases List.mem_cons.mp hm with h | h
          · exact e h
          · exact e2 h)]
theorem r1_sorted {ws : List (Prt × Prt)} {ps : List Prt} (nd : (ps.map (·.1)).Nodup) : ∀ {qs pre : List Prt} {tss : List (List Prt)}, Paired (R1 ws) qs tss → ps = pre ++ qs → SrtO.Srtd (fun x y => lexA (keyW ps x) (keyW ps y)) tss.flatten ∧ ∀ t ∈ tss.flatten, pre.length ≤ posOf ps t.1
  | _, _, _, .nil, _ => ⟨List.Pairwise.nil, fun t ht => (by cases ht)⟩
  | _, pre, _, .cons (l₁ := qs) (a := q) (b := ts) (l₂ := ss) h t, e => by
    obtain ⟨ih1, ih2⟩ := r1_sorted nd (pre := pre ++ [q]) t (by rw [e, List.append_assoc]; rfl)
    have hq : posOf ps q.1 = pre.length := posOf_get nd (by rw [e, List.getElem?_append_right (Nat.le_refl _), Nat.sub_self]; rfl)
    have hts : ∀ t ∈ ts, posOf ps t.1 = pre.length := fun t ht => by rw [r1_mem h ht, hq]
    have hrest : ∀ u ∈ ss.flatten, pre.length + 1 ≤ posOf ps u.1 := fun u hu => by
      have := ih2 u hu
      rwa [List.length_append, List.length_singleton] at this
    rw [List.flatten_cons]
    refine ⟨List.pairwise_append.mpr ⟨?_, ih1, fun x hx y hy => ?_⟩, fun u hu => ?_⟩
    · refine List.Pairwise.imp_of_mem (fun {x y} hx hy hl => ?_) h.2
      have ex := r1_mem h hx
      have ey := r1_mem h hy
      have hl' : lexA [.s y.1, .s y.2] [.s x.1, .s x.2] = false := hl
      rw [lex_two] at hl'
      show lexA (keyW ps y) (keyW ps x) = false
      unfold keyW
      rw [lex_two, hts x hx, hts y hy, if_pos rfl]
      rw [ex, ey, if_pos rfl] at hl'
      rw [ex, ey] at *
      exact hl'
    · show lexA (keyW ps y) (keyW ps x) = false
      unfold keyW
      have h1 := hts x hx
      have h2 := hrest y hy
      rw [lex_two, if_neg (fun z => by have := At.i.inj z; omega)]
      exact decide_eq_false (by omega)
    · rcases List.mem_append.mp hu with hu | hu
      · rw [hts u hu]
        exact Nat.le_refl _
      · have := hrest u hu
        omega
theorem lookW_perm {ws ws' : List (Prt × Prt)} (nd : (ws.map (·.1)).Nodup) (hp : ws'.Perm ws) {t : Prt} (ht : t ∈ ws.map (·.1)) : lookW ws' t = lookW ws t := by
  have h1 := lookW_mem ht
  have h2 := hp.mem_iff.mp (lookW_mem (ws := ws') ((hp.map (·.1)).mem_iff.mpr ht))
  have := map_inj_nd nd _ h2 _ h1 rfl
  exact (Prod.mk.inj this).2
theorem ord_same {n : Str} {ins outs : List Str} {ps : List Prt} {ws ws' zs zs' : List (Prt × Prt)} (hd : DataOk n ins outs ps ws) (hp : ws'.Perm ws) (h : IsOrd outs ps ws' zs') (hl : LOrd outs ps ws zs) : zs' = zs := by
  obtain ⟨inn, h1, h2, rfl⟩ := h
  obtain ⟨tss, h3, rfl⟩ := hl
  have h3' : Paired (R1 ws) ps tss := h3
  have hmap := hp.map (·.1)
  have hf : ((ws.map (·.1)).filter fun t => decide (t.1 ∈ ps.map (·.1))) = (ws.map (·.1)).filter fun t : Prt => !decide (t.1 = ("" : Str)) := by
    refine List.filter_congr fun t ht => ?_
    obtain ⟨x, hx, rfl⟩ := List.mem_map.mp ht
    rcases hd.w1 x hx with ⟨e1, e2⟩ | ⟨e1, e2⟩
    · rw [decide_eq_true e1, decide_eq_false]
      · rfl
      · intro hm
        obtain ⟨q, hq, e⟩ := List.mem_map.mp hm
        exact nameOk_ne (hd.p.2.1 q hq).1 (e.trans e1)
    · rw [decide_eq_true e1, decide_eq_false]
      · rfl
      · intro z
        obtain ⟨q, hq, e⟩ := List.mem_map.mp e1
        exact nameOk_ne (hd.p.2.1 q hq).1 (e.trans z)
  have pp : inn.Perm tss.flatten := by
    have a1 := r1_perm h3' hd.p.2.2
    rw [hf] at a1
    exact (h1.trans (hmap.filter _)).trans a1.symm
  have hin : ∀ t ∈ tss.flatten, t ∈ ws.map (·.1) ∧ t.1 ∈ ps.map (·.1) := fun t ht => by
    have := List.mem_filter.mp ((r1_perm h3' hd.p.2.2).mem_iff.mp ht)
    exact ⟨this.1, by simpa using this.2⟩
  have e1 : inn = tss.flatten := srtd_one_way (fun x hx y hy a b => by
    have ex := (hin x (pp.mem_iff.mp hx)).2
    have ey := (hin y (pp.mem_iff.mp hy)).2
    rcases lex_tri (keyW ps x) (keyW ps y) with e | e | e
    · exact keyW_inj ex ey e
    · rw [a] at e; cases e
    · rw [b] at e; cases e) pp h2 (r1_sorted hd.p.2.2 (pre := []) h3' rfl).1
  have e2 : outerT outs ws' = outerT outs ws := by
    unfold outerT
    refine List.filter_congr fun t _ => ?_
    by_cases h : t ∈ ws.map (·.1)
    · rw [decide_eq_true h, decide_eq_true (hmap.mem_iff.mpr h)]
    · rw [decide_eq_false h, decide_eq_false fun z => h (hmap.mem_iff.mp z)]
  rw [e1, e2]
  refine List.map_congr_left fun t ht => ?_
  have hm : t ∈ ws.map (·.1) := by
    rcases List.mem_append.mp ht with ht | ht
    · exact (hin t ht).1
    · have := (List.mem_filter.mp ht).2
      simpa using this
  rw [lookW_perm hd.wn hp hm]
/-! ### small things for the draw -/
theorem cut_lo {α : Type} (f : α → V) (xs : List α) {a b : Nat} (ha : a ≤ b) (hb : b ≤ xs.length) : cutV (xs.map f) (some (a : Int)) (some (b : Int)) = ((xs.drop a).take (b - a)).map f := by
  unfold cutV
  rw [List.length_map, HT.sIx_nat, HT.sIx_nat, Nat.min_eq_left (show a ≤ xs.length by omega), Nat.min_eq_left hb, ← List.map_drop, ← List.map_take]
theorem cut_hi {α : Type} (f : α → V) (xs : List α) {b : Nat} (hb : b ≤ xs.length) : cutV (xs.map f) none (some (b : Int)) = (xs.take b).map f := by
  unfold cutV
  rw [List.length_map, HT.sIx_nat, HT.sIx_none, Nat.min_eq_left hb, List.drop_zero, Nat.sub_zero, ← List.map_take]
theorem sql_sx {K : PySem.W.Frag} {p l : Addr} {H H1 : Hp} {xs : List V} (s : SameX p H H1) (n : l ≠ p) (h : SqL K H l xs) : SqL K H1 l xs := by
  rcases h with (h | ⟨ob, h⟩) | h
  · exact .inl (.inl (s _ _ n h))
  · exact .inl (.inr ⟨ob, s _ _ n h⟩)
  · exact .inr h
/-- a row of a part, as drawn -/
def PartAt (H : Hp) (q : Prt) (v : V) : Prop := ∃ a, v = .ref a ∧ H a = some (.tup [.str q.1, .str q.2])
theorem PartAt.same {H H' : Hp} {t : Prt} {v : V} (s : Same H H') (h : PartAt H t v) : PartAt H' t v := by
  obtain ⟨q, e, h2⟩ := h
  exact ⟨q, e, s _ _ h2⟩
/-- .. where one list alone has changed -/
theorem PartAt.sx {p : Addr} {H H' : Hp} {t : Prt} {v : V} (s : SameX p H H') (hp : ∀ xs, H p ≠ some (.tup xs)) (h : PartAt H t v) : PartAt H' t v := by
  obtain ⟨q, e, h2⟩ := h
  exact ⟨q, e, s _ _ (fun z => hp _ (z ▸ h2)) h2⟩
theorem feed_nt {H : Hp} {p : Addr} {a b : Int} (h : FeedAt H p a b) : ∀ xs, H p ≠ some (.tup xs) := fun xs e => by
  rw [h.1] at e
  cases e
theorem lst_nt {H : Hp} {p : Addr} {ys : List V} (h : H p = some (.lst ys)) : ∀ xs, H p ≠ some (.tup xs) := fun xs e => by
  rw [h] at e
  cases e
theorem cut_any {α : Type} (f : α → V) (xs : List α) (b : Nat) : cutV (xs.map f) none (some (b : Int)) = (xs.take b).map f := by
  rcases Nat.le_total b xs.length with h | h
  · exact cut_hi f xs h
  · unfold cutV
    rw [List.length_map, HT.sIx_nat, HT.sIx_none, Nat.min_eq_right h, List.drop_zero, Nat.sub_zero, List.take_of_length_le (by rw [List.length_map]; exact Nat.le_refl _), List.take_of_length_le h]
theorem nodup_pairs {a : Str} {l : List Str} (h : l.Nodup) : (l.map fun y => (a, y)).Nodup := List.pairwise_map.mpr (h.imp fun ne e => ne (Prod.mk.inj e).2)
/-! ### data compared -/
def OkS (z : Str) : Prop := PySem.PyData.strOk z = true
theorem okS_of {z : Str} (h : ∀ c ∈ sl z, c < 1114112) : OkS z := by
  show z.cps.all (· < 0x110000) = true
  rw [← Array.all_toList]
  exact List.all_eq_true.mpr fun c hc => decide_eq_true (h c hc)
theorem okS_low {z : Str} (h : LowT z) : OkS z := okS_of fun c hc => by have := h c hc; omega
theorem okS_name {z : Str} (h : nameOk z = true) : OkS z := okS_low (nameOk_low h)
theorem okS_blk {z : Str} (h : BlkT z) : OkS z := okS_of fun c hc => by have := h c hc; omega
theorem okS_em : OkS "" := okS_of fun c hc => by rw [sl_em] at hc; cases hc
theorem shp_list {α : Type} {f : α → PyData} {k : Nat} (hk : k ≤ 63) : ∀ {l : List α}, (∀ x ∈ l, (f x).canLay0 = true ∧ (f x).depth ≤ k) → PyData.canLayAll0 (l.map f) = true ∧ PyData.depthAll (l.map f) ≤ k
  | [], _ => ⟨rfl, Nat.zero_le _⟩
  | x :: l, h => by
    obtain ⟨h1, h2⟩ := h x List.mem_cons_self
    obtain ⟨h3, h4⟩ := shp_list hk (l := l) fun y hy => h y (List.mem_cons_of_mem _ hy)
    refine ⟨?_, ?_⟩
    · show ((f x).canLay0 && PyData.canLayAll0 (l.map f)) = true
      rw [h1, h3]
      rfl
    · show max (f x).depth (PyData.depthAll (l.map f)) ≤ k
      omega
theorem shp_pair {p : Prt} (h : OkS p.1 ∧ OkS p.2) : (dPair p).canLay0 = true ∧ (dPair p).depth ≤ 1 := by
  refine ⟨?_, Nat.le_refl _⟩
  show (PySem.PyData.strOk p.1 && (PySem.PyData.strOk p.2 && true)) = true
  rw [h.1, h.2]
  rfl
theorem shp_pairs {l : List Prt} (h : ∀ x ∈ l, OkS x.1 ∧ OkS x.2) : SeqAt.shaped (.list (l.map dPair)) = true ∧ SeqAt.shaped (.tuple (l.map dPair)) = true := by
  obtain ⟨h1, h2⟩ := shp_list (f := dPair) (k := 1) (by decide) (l := l) fun x hx => shp_pair (h x hx)
  have e : decide (PyData.depthAll (l.map dPair) + 1 ≤ 64) = true := decide_eq_true (by omega)
  refine ⟨?_, ?_⟩
  · show (PyData.canLayAll0 (l.map dPair) && decide (PyData.depthAll (l.map dPair) + 1 ≤ 64)) = true
    rw [h1, e]
    rfl
  · show (PyData.canLayAll0 (l.map dPair) && decide (PyData.depthAll (l.map dPair) + 1 ≤ 64)) = true
    rw [h1, e]
    rfl
theorem shp_wires {l : List (Prt × Prt)} (h : ∀ x ∈ l, (OkS x.1.1 ∧ OkS x.1.2) ∧ OkS x.2.1 ∧ OkS x.2.2) : SeqAt.shaped (.tuple (l.map dWire)) = true := by
  obtain ⟨h1, h2⟩ := shp_list (f := dWire) (k := 2) (by decide) (l := l) fun x hx => by
    obtain ⟨a1, a2⟩ := shp_pair (h x hx).1
    obtain ⟨b1, b2⟩ := shp_pair (h x hx).2
    refine ⟨?_, ?_⟩
    · show ((dPair x.1).canLay0 && ((dPair x.2).canLay0 && true)) = true
      rw [a1, b1]
      rfl
    · show max (dPair x.1).depth (max (dPair x.2).depth 0) + 1 ≤ 2
      omega
  show (PyData.canLayAll0 (l.map dWire) && decide (PyData.depthAll (l.map dWire) + 1 ≤ 64)) = true
  rw [h1, decide_eq_true (show PyData.depthAll (l.map dWire) + 1 ≤ 64 by omega)]
  rfl
theorem dp_parts {K : PySem.W.Frag} {H : Hp} : ∀ {ps : List Prt} {vs : List V}, Paired (PartAt H) ps vs → DpAll K H vs (ps.map dPair)
  | _, _, .nil => .nil
  | _, _, .cons h t => by
    obtain ⟨a, rfl, ha⟩ := h
    exact .cons (dp_pair (SqT.of ha)) (dp_parts t)
theorem part_sl {l : List Addr} {H H' : Hp} {t : Prt} {v : V} (s : SameL l H H') (n : NoT l H) (h : PartAt H t v) : PartAt H' t v := by
  obtain ⟨a, e, ha⟩ := h
  exact ⟨a, e, s _ _ (fun hm => n a hm _ (.inl ha)) ha⟩
end Ly

set_option maxRecDepth 100000
set_option maxHeartbeats 4000000
/-! targets, sorted -/
namespace Ly
open PySem PySem.Spec PyProof.Rows L2
def tT (H : Hp) (v : V) : Prt :=
  match v with
  | .ref a => match H a with
    | some (.tup [.str x, .str y]) => (x, y)
    | _ => ("", "")
  | _ => ("", "")
theorem part_tT {H : Hp} {t : Prt} {v : V} (h : PartAt H t v) : tT H v = t := by
  obtain ⟨a, rfl, ha⟩ := h
  unfold tT
  dsimp only
  rw [ha]
theorem tgt_map {H : Hp} : ∀ {ts : List Prt} {vs : List V}, Paired (PartAt H) ts vs → vs.map (tT H) = ts
  | _, _, .nil => rfl
  | _, _, .cons h t => by rw [List.map_cons, part_tT h, tgt_map t]
theorem tgt_mem {H : Hp} : ∀ {ts : List Prt} {vs : List V}, Paired (PartAt H) ts vs → ∀ v ∈ vs, tT H v ∈ ts ∧ PartAt H (tT H v) v
  | _, _, .nil, v, hv => by cases hv
  | _, _, .cons h t, v, hv => by
    rcases List.mem_cons.mp hv with rfl | hv
    · rw [part_tT h]
      exact ⟨List.mem_cons_self, h⟩
    · obtain ⟨h1, h2⟩ := tgt_mem t v hv
      exact ⟨List.mem_cons_of_mem _ h1, h2⟩
theorem tgt_pair {H : Hp} : ∀ {ys : List V}, (∀ v ∈ ys, PartAt H (tT H v) v) → Paired (PartAt H) (ys.map (tT H)) ys
  | [], _ => .nil
  | y :: r, h => .cons (h y List.mem_cons_self) (tgt_pair fun v hv => h v (List.mem_cons_of_mem _ hv))
def kT (t : Prt) : List At := [.s t.1, .s t.2]
theorem rSort_tgt {K : PySem.W.Frag} {H : Hp} {Q : VK} {ts : List Prt} {vs : List V} {a : Addr} (ha : SqL K H a vs) (h : Paired (PartAt H) ts vs) (nd : ts.Nodup)
    (q : ∀ ts' ys p, ts'.Perm ts → SrtO.Srtd (fun x y => lexA (kT x) (kT y)) ts' → Paired (PartAt H) ts' ys → H p = none → Q (.ref p) (upd H p (.lst ys))) : rSortedAt K [.ref a] H Q := by
  have hm := tgt_map h
  have hi := tgt_mem h
  refine ⟨a, vs, fun v => kT (tT H v), rfl, ha, fun x hx => ?_, fun x hx => (by unfold kT; simp), fun x hx y hy => rfl, fun x hx y hy e => ?_, fun ys p hs hp hn => ?_⟩
  · obtain ⟨_, b, e, h1⟩ := hi x hx
    exact ⟨b, [], e, h1⟩
  · have e1 : tT H x = tT H y := by
      have e' : kT (tT H x) = kT (tT H y) := e
      unfold kT at e'
      exact Prod.ext (At.s.inj (List.cons.inj e').1) (At.s.inj (List.cons.inj (List.cons.inj e').2).1)
    exact map_inj_nd (f := tT H) (by rw [hm]; exact nd) x hx y hy e1
  · have hy : ∀ v ∈ ys, PartAt H (tT H v) v := fun v hv => (hi v (hp.mem_iff.mp hv)).2
    refine q (ys.map (tT H)) ys p ?_ (List.pairwise_map.mpr hs) (tgt_pair hy) hn
    rw [← hm]
    exact hp.map _
/-! ### another order -/
def spOrd (K : PySem.W.Frag) : Sp := fun vs H Q _ => ∃ (p l : Addr) (xs ys : List Str) (z : Str) (a b : Int), vs = [.ref p, .ref l, .int (ys.length : Nat)] ∧ FeedAt H p a b ∧ SqL K H l ((xs ++ ys ++ [z]).map V.str) ∧ l ≠ p ∧ xs.length ≤ 1000 ∧ ys.length ≤ 1000 ∧ (∀ y ∈ ys, OkS y) ∧
  ∀ q ys' H' a' b', SameX p H H' → FeedAt H' p a' b' → H q = none → ys'.Perm ys → H' q = some (.lst ((xs ++ ys' ++ [z]).map V.str)) → Q (.ref q) H'
theorem sx_mut {p a : Addr} {H H' : Hp} {o : HO} (s : SameX p H H') (ha : H a = none) : SameX p H (upd H' a o) := fun b u nb e => by
  rw [upd_ne (fun z => by rw [z, ha] at e; cases e)]
  exact s b u nb e
theorem cut_end (xs : List V) (z : V) : cutV (xs ++ [z]) (some (-1)) none = [z] := by
  unfold cutV
  have e : HT.sIx (xs ++ [z]).length 0 (some (-1)) = xs.length := by
    show (if (-1 : Int) < 0 then ((-1 : Int) + ((xs ++ [z]).length : Int)).toNat else min (-1 : Int).toNat (xs ++ [z]).length) = _
    rw [if_pos (by decide), List.length_append, List.length_singleton]
    omega
  rw [e, HT.sIx_none, List.drop_left, List.length_append, List.length_singleton]
  rw [List.take_of_length_le (by simp)]
theorem cut_pre2 (xs ys : List V) : cutV (xs ++ ys) none (some (xs.length : Int)) = xs := by
  unfold cutV
  rw [HT.sIx_none, HT.sIx_nat, List.drop_zero, List.length_append, Nat.min_eq_left (by omega), Nat.sub_zero, List.take_left]
theorem cut_mid2 (xs ys : List V) (z : V) : cutV (xs ++ ys ++ [z]) (some (xs.length : Int)) (some (-1)) = ys := by
  unfold cutV
  have e : HT.sIx (xs ++ ys ++ [z]).length (xs ++ ys ++ [z]).length (some (-1)) = xs.length + ys.length := by
    show (if (-1 : Int) < 0 then ((-1 : Int) + ((xs ++ ys ++ [z]).length : Int)).toNat else min (-1 : Int).toNat (xs ++ ys ++ [z]).length) = _
    rw [if_pos (by decide)]
    simp only [List.length_append, List.length_singleton]
    omega
  rw [e, HT.sIx_nat, Nat.min_eq_left (by simp only [List.length_append]; omega), List.append_assoc, List.drop_left, Nat.add_sub_cancel_left, List.take_left]
theorem erase_map {α β : Type} (f : α → β) : ∀ (l : List α) (i : Nat), (l.map f).eraseIdx i = (l.eraseIdx i).map f
  | [], _ => rfl
  | x :: l, 0 => rfl
  | x :: l, i + 1 => by
    show f x :: (l.map f).eraseIdx i = f x :: (l.eraseIdx i).map f
    rw [erase_map f l i]
theorem shp_strs {l : List Str} (h : ∀ x ∈ l, OkS x) : SeqAt.shaped (.list (l.map PyData.str)) = true := by
  obtain ⟨h1, h2⟩ := shp_list (f := PyData.str) (k := 0) (by decide) (l := l) fun x hx => ⟨h x hx, Nat.le_refl _⟩
  show (PyData.canLayAll0 (l.map PyData.str) && decide (PyData.depthAll (l.map PyData.str) + 1 ≤ 64)) = true
  rw [h1, decide_eq_true (show PyData.depthAll (l.map PyData.str) + 1 ≤ 64 by omega)]
  rfl
end Ly

set_option maxRecDepth 100000
set_option maxHeartbeats 4000000
/-! rows in another order, read; list(text) -/
namespace Ly
open PySem PySem.Spec PyProof.Rows L2
theorem vals_get : ∀ {xs : List V} {us : List Value}, xs.length = us.length → (∀ (i : Nat) (x : V) (u : Value), xs[i]? = some x → us[i]? = some u → RelV x u) → Vals xs us
  | [], [], _, _ => .nil
  | x :: xs, u :: us, hl, h => .cons (h 0 x u rfl rfl) (vals_get (by simpa using hl) fun i x u hx hu => h (i + 1) x u (by rw [List.getElem?_cons_succ]; exact hx) (by rw [List.getElem?_cons_succ]; exact hu))
  | [], _ :: _, hl, _ => by simp at hl
  | _ :: _, [], hl, _ => by simp at hl
/-- list(a text) -/
theorem cr_listStr {X : Cx} (hc : X.calm = true) : CallR X (.type "list") (fun xs H Q => ∃ z : Str, xs = [.str z] ∧ z.length ≤ sizeLine ∧ ∀ p, H p = none → Q (.ref p) (upd H p (.lst (z.cps.toList.map fun c => V.str ⟨#[c]⟩)))) := by
  intro pins s σ H xs us Q I r h
  obtain ⟨z, rfl, hz, q⟩ := h
  obtain ⟨u, rfl, rx⟩ := vals1 r
  obtain ⟨t, rfl⟩ := rx
  refine call_list_str (I.ok.hd hc) z t (fun h' tk acc c' kp e items => ?_) hz
  have hl : (z.cps.toList.map fun c => V.str ⟨#[c]⟩).length = acc.toList.length := by
    rw [List.length_map, Array.length_toList, Array.length_toList, items.1]
  have hv : Vals (z.cps.toList.map fun c => V.str ⟨#[c]⟩) acc.toList := vals_get hl fun i x u hx hu => by
    obtain ⟨c, t', h1, h2⟩ := items.2 i u (by rw [← Array.getElem?_toList]; exact hu)
    rw [List.getElem?_map, Array.getElem?_toList, h1] at hx
    cases hx
    exact ⟨t', h2⟩
  refine ⟨.ref s.heap.objs.size, _, I.laid (t' := tk) kp (Nat.le_refl _) (show ObjOk X.prog X.w _ h' _ (.lst (z.cps.toList.map fun c => V.str ⟨#[c]⟩)) from ⟨?_, acc.toList, c', hv, e⟩), rfl, q _ (I.hok.fresh (Nat.le_refl _))⟩
  rw [List.length_map, Array.length_toList]
  exact hz
/-! ### perms -/
theorem perm_map_inv {α β : Type} {f : α → β} {a b : List β} (h : a.Perm b) : ∀ l : List α, b = l.map f → ∃ l' : List α, l'.Perm l ∧ a = l'.map f := by
  induction h with
  | nil =>
    intro l e
    have : l = [] := List.map_eq_nil_iff.mp e.symm
    exact ⟨[], by rw [this], rfl⟩
  | cons x _ ih =>
    intro l e
    cases l with
    | nil => cases e
    | cons y l =>
      obtain ⟨e1, e2⟩ := List.cons.inj e
      obtain ⟨l', h1, h2⟩ := ih l e2
      exact ⟨y :: l', h1.cons y, by rw [List.map_cons, ← e1, h2]⟩
  | swap x y r =>
    intro l e
    match l, e with
    | [], e => cases e
    | [_], e => cases (List.cons.inj e).2
    | u :: v :: l, e =>
      obtain ⟨e1, e2⟩ := List.cons.inj e
      obtain ⟨e3, e4⟩ := List.cons.inj e2
      exact ⟨v :: u :: l, List.Perm.swap _ _ _, by rw [List.map_cons, List.map_cons, ← e1, ← e3, ← e4]⟩
  | trans _ _ ih1 ih2 =>
    intro l e
    obtain ⟨l1, h1, h2⟩ := ih2 l e
    obtain ⟨l2, h3, h4⟩ := ih1 l1 h2
    exact ⟨l2, h3.trans h1, h4⟩
theorem look_back {ws : List (Prt × Prt)} (nd : (ws.map (·.1)).Nodup) : (ws.map (·.1)).map (fun t => (t, lookW ws t)) = ws := by
  rw [List.map_map]
  have : ∀ x ∈ ws, ((fun t => (t, lookW ws t)) ∘ (·.1)) x = x := fun x hx => by
    have h1 := lookW_mem (ws := ws) (t := x.1) (List.mem_map.mpr ⟨x, hx, rfl⟩)
    exact map_inj_nd nd _ h1 _ hx rfl
  rw [List.map_congr_left this]
  simp
theorem lord_perm {n : Str} {ins outs : List Str} {ps : List Prt} {ws zs : List (Prt × Prt)} (hd : DataOk n ins outs ps ws) (hl : LOrd outs ps ws zs) : zs.Perm ws := by
  obtain ⟨tss, h3, rfl⟩ := hl
  have h3' : Paired (R1 ws) ps tss := h3
  have hp1 := r1_perm h3' hd.p.2.2
  have hkeys : (tss.flatten ++ outerT outs ws).Perm (ws.map (·.1)) := by
    have hn1 : tss.flatten.Nodup := hp1.nodup_iff.mpr (hd.wn.filter _)
    have hon : outs.Nodup := (List.nodup_append.mp hd.io.2.2.2).2.1
    have hn2 : (outerT outs ws).Nodup := (nodup_pairs hon).filter _
    have hm1 : ∀ t, t ∈ tss.flatten ↔ t ∈ ws.map (·.1) ∧ t.1 ∈ ps.map (·.1) := fun t => by
      rw [hp1.mem_iff, List.mem_filter]
      simp
    have hm2 : ∀ t, t ∈ outerT outs ws ↔ t ∈ ws.map (·.1) ∧ t.1 = "" ∧ t.2 ∈ outs := fun t => by
      unfold outerT
      rw [List.mem_filter]
      constructor
      · rintro ⟨h1, h2⟩
        obtain ⟨o, ho, rfl⟩ := List.mem_map.mp h1
        exact ⟨by simpa using h2, rfl, ho⟩
      · rintro ⟨h1, h2, h3⟩
        exact ⟨List.mem_map.mpr ⟨t.2, h3, Prod.ext h2.symm rfl⟩, by simpa using h1⟩
    refine (List.perm_ext_iff_of_nodup ?_ hd.wn).mpr fun t => ?_
    · rw [List.nodup_append]
      refine ⟨hn1, hn2, fun a ha b hb e => ?_⟩
      have h1 := ((hm1 a).mp ha).2
      have h2 := ((hm2 b).mp hb).2.1
      rw [e] at h1
      obtain ⟨q, hq, e2⟩ := List.mem_map.mp h1
      exact nameOk_ne (hd.p.2.1 q hq).1 (e2.trans h2)
    · rw [List.mem_append, hm1, hm2]
      constructor
      · rintro (h | h)
        · exact h.1
        · exact h.1
      · intro h
        obtain ⟨x, hx, rfl⟩ := List.mem_map.mp h
        rcases hd.w1 x hx with h1 | h1
        · exact .inr ⟨h, h1⟩
        · exact .inl ⟨h, h1.1⟩
  have := hkeys.map fun t => (t, lookW ws t)
  rwa [look_back hd.wn] at this
theorem DataOk.perm {n : Str} {ins outs : List Str} {ps : List Prt} {ws ws' : List (Prt × Prt)} (h : DataOk n ins outs ps ws) (hp : ws'.Perm ws) : DataOk n ins outs ps ws' :=
  ⟨h.n, h.io, h.p, (hp.map _).nodup_iff.mpr h.wn, fun x hx => h.w1 x (hp.mem_iff.mp hx), fun x hx => h.w2 x (hp.mem_iff.mp hx)⟩
theorem data_lens {n : Str} {ins outs : List Str} {ps : List Prt} {ws : List (Prt × Prt)} (h : DataOk n ins outs ps ws) : ∀ x ∈ ws, (x.1.1.length ≤ 8 ∧ x.1.2.length ≤ 8) ∧ x.2.1.length ≤ 8 ∧ x.2.2.length ≤ 8 := fun x hx => by
  have hem : (("" : Str)).length = 0 := by decide +kernel
  have part : ∀ a, a ∈ ps.map (·.1) → a.length ≤ 8 := fun a ha => by
    obtain ⟨q, hq, rfl⟩ := List.mem_map.mp ha
    exact (nameOk_len (h.p.2.1 q hq).1).2
  refine ⟨?_, ?_⟩
  · rcases h.w1 x hx with ⟨e1, e2⟩ | ⟨e1, e2⟩
    · rw [e1, hem]
      exact ⟨by omega, (nameOk_len (h.io.1 _ (List.mem_append_right _ e2))).2⟩
    · exact ⟨part _ e1, (nameOk_len e2).2⟩
  · rcases h.w2 x hx with ⟨e1, e2⟩ | ⟨e1, e2⟩
    · rw [e1, hem]
      exact ⟨by omega, (nameOk_len (h.io.1 _ (List.mem_append_left _ e2))).2⟩
    · exact ⟨part _ e1, (nameOk_len e2).2⟩
theorem rows_lens {n : Str} {ins outs : List Str} {ps : List Prt} {ws : List (Prt × Prt)} (h : DataOk n ins outs ps ws) : ∀ z ∈ textRows n ins outs ps ws, z.length ≤ 300 := by
  have la : ∀ x y : Str, (x ++ y : Str).length = x.length + y.length := fun x y => PySem.Str.length_append x y
  have hn8 := (nameOk_len h.n.1).2
  have hin8 : ∀ y ∈ ins, y.length ≤ 8 := fun y hy => (nameOk_len (h.io.1 y (List.mem_append_left _ hy))).2
  have hou8 : ∀ y ∈ outs.map (fun o => (" " : Str) ++ o), y.length ≤ 9 := fun y hy => by
    obtain ⟨x, hx, rfl⟩ := List.mem_map.mp hy
    have := (nameOk_len (h.io.1 x (List.mem_append_right _ hx))).2
    have hsp : ((" " : Str)).length = 1 := by decide +kernel
    rw [la]
    omega
  have hil := h.io.2.1
  have hol := h.io.2.2.1
  have hji := join_len (a := " ") hin8
  have hjo := join_len (a := "") hou8
  rw [List.length_map] at hjo
  have lb : (("block " : Str)).length = 6 ∧ (("(" : Str)).length = 1 ∧ ((";" : Str)).length = 1 ∧ ((")" : Str)).length = 1 ∧ (("" : Str)).length = 0 ∧ ((" " : Str)).length = 1 := by decide +kernel
  have lpt : (("  part " : Str)).length = 7 ∧ ((" = " : Str)).length = 3 ∧ (("  " : Str)).length = 2 ∧ ((" <- " : Str)).length = 4 ∧ (("end" : Str)).length = 3 := by decide +kernel
  rw [lb.2.2.2.2.2] at hji
  rw [lb.2.2.2.2.1] at hjo
  intro z hz
  unfold textRows at hz
  simp only [List.mem_append, List.mem_singleton, List.mem_map] at hz
  rcases hz with ((rfl | ⟨p, hp, rfl⟩) | ⟨x, hx, rfl⟩) | rfl
  · unfold headText
    rw [la, la, la, la, la, la]
    omega
  · have h1 := (nameOk_len (h.p.2.1 p hp).1).2
    have h2 := blockOk_len (h.p.2.1 p hp).2
    unfold partText
    rw [la, la, la]
    omega
  · have hs := data_lens h x hx
    have h1 := portText_len (n := 8) hs.1.1 hs.1.2
    have h2 := portText_len (n := 8) hs.2.1 hs.2.2
    unfold wireText
    rw [la, la, la]
    omega
  · omega
theorem rows_count {n : Str} {ins outs : List Str} {ps : List Prt} {ws : List (Prt × Prt)} : (textRows n ins outs ps ws).length = 2 + ps.length + ws.length := by
  unfold textRows
  simp only [List.length_append, List.length_map, List.length_singleton]
  omega
theorem text_len {n : Str} {ins outs : List Str} {ps : List Prt} {ws : List (Prt × Prt)} (h : DataOk n ins outs ps ws) (hw : ws.length ≤ 300) : (textOfD n ins outs ps ws).length ≤ 100000 := by
  have h1 := join_len (a := "\n") (rows_lens h)
  rw [rows_count] at h1
  have h2 := h.p.1
  have lnl : (("\n" : Str)).length = 1 := by decide +kernel
  rw [lnl] at h1
  unfold textOfD
  omega
theorem text_fits {n : Str} {ins outs : List Str} {ps : List Prt} {ws : List (Prt × Prt)} (h : DataOk n ins outs ps ws) (hw : ws.length ≤ 300) : TextFits (textOfD n ins outs ps ws) := by
  have h2 := h.p.1
  refine ⟨Nat.le_trans (text_len h hw) (by decide), ?_, ?_⟩
  · rw [split_textD h, rows_count]
    omega
  · rw [split_textD h]
    exact fun y hy => Nat.le_trans (rows_lens h y hy) (by decide)
/-! ### equal data -/
theorem eqv_all {α : Type} {f : α → PyData} (h : ∀ x, PyData.eqv (f x) (f x) = true) : ∀ l : List α, PyData.eqvAll (l.map f) (l.map f) = true
  | [] => rfl
  | x :: l => by
    show (PyData.eqv (f x) (f x) && PyData.eqvAll (l.map f) (l.map f)) = true
    rw [h x, eqv_all h l]
    rfl
theorem eqv_pair (p : Prt) : PyData.eqv (dPair p) (dPair p) = true := by
  show ((p.1 == p.1) && ((p.2 == p.2) && true)) = true
  simp
theorem eqv_wire (x : Prt × Prt) : PyData.eqv (dWire x) (dWire x) = true := by
  show (PyData.eqv (dPair x.1) (dPair x.1) && (PyData.eqv (dPair x.2) (dPair x.2) && true)) = true
  rw [eqv_pair, eqv_pair]
  rfl
theorem pe_conK (K : PySem.W.Frag) {X : Cx} {e : Expr} {f : Str} {pos : Pos} {ta : TE} (he : PE X e ta) (hb : attributeBase e f X.env (eval e X.env) = eval e X.env) (hK : X.K = K := by rfl) : PE X (.Attribute e f pos) (tCon K ta f) := hK ▸ pe_con he hb
end Ly

set_option maxRecDepth 100000
set_option maxHeartbeats 4000000
/-! many parts; the law's diagram, read -/
namespace Ly
open PySem PySem.Spec PyProof.Rows L2
def spMany : Sp := fun vs H Q _ => ∃ (p : Addr) (a b : Int), vs = [.ref p] ∧ FeedAt H p a b ∧ ∀ H', SameX p H H' → Q (.bl true) H'
def ltr16 : Str := "abcdefghijklmnop"
def L16 : List Str := ltr16.cps.toList.map fun c => ⟨#[c]⟩
theorem l16_ok : (∀ y ∈ L16, nameOk y = true) ∧ L16.Nodup ∧ L16.length = 16 := by decide +kernel
theorem cut_from {α : Type} (f : α → V) (xs : List α) {a : Nat} (ha : a ≤ xs.length) : cutV (xs.map f) (some (a : Int)) none = (xs.drop a).map f := by
  unfold cutV
  rw [List.length_map, HT.sIx_nat, HT.sIx_none, Nat.min_eq_left ha, ← List.map_drop, List.take_of_length_le (by rw [List.length_map, List.length_drop]; omega)]
theorem at_prev (xs : List Str) {i : Nat} (hi : i < xs.length) : ∃ y, y ∈ xs ∧ atI (xs.map V.str) ((i : Int) - 1) = some (.str y) := by
  cases i with
  | zero =>
    have hn : xs.length - 1 < xs.length := by omega
    refine ⟨xs[xs.length - 1], List.getElem_mem _, ?_⟩
    unfold atI
    rw [show ((0 : Nat) : Int) - 1 = -1 by omega]
    rw [show ixN (xs.map V.str).length (-1) = some (xs.length - 1) by
      unfold ixN
      rw [if_neg (by decide), List.length_map, if_pos (by omega)]
      congr 1
      omega]
    show (xs.map V.str)[xs.length - 1]? = _
    rw [List.getElem?_map, List.getElem?_eq_getElem hn]
    rfl
  | succ j =>
    have hj : j < xs.length := by omega
    refine ⟨xs[j], List.getElem_mem _, ?_⟩
    rw [show ((j + 1 : Nat) : Int) - 1 = ((j : Nat) : Int) by omega]
    exact atI_nat (by rw [List.getElem?_map, List.getElem?_eq_getElem hj]; rfl)
/-- a diagram read from the rows of a drawn one, in another order -/
theorem read_same {n : Str} {ins outs : List Str} {ps : List Prt} {ws zs zs' ws' : List (Prt × Prt)} (hd : DataOk n ins outs ps ws) (hl : LOrd outs ps ws zs) (hp : zs'.Perm zs) (ho : IsOrd outs ps zs' ws') : ws' = zs := ord_same hd (hp.trans (lord_perm hd hl)) ho hl
theorem read_ok {n : Str} {ins outs : List Str} {ps : List Prt} {ws zs zs' : List (Prt × Prt)} (hd : DataOk n ins outs ps ws) (hl : LOrd outs ps ws zs) (hp : zs'.Perm zs) : DataOk n ins outs ps zs' := hd.perm (hp.trans (lord_perm hd hl))
theorem rows_sum {n : Str} {ins outs : List Str} {ps : List Prt} {ws : List (Prt × Prt)} (h : DataOk n ins outs ps ws) (hw : ws.length ≤ 300) : ((textRows n ins outs ps ws).map (·.length)).sum + (textRows n ins outs ps ws).length * (("\n" : Str)).length ≤ 16777216 := by
  have h1 := sum_len (rows_lens h)
  have h2 := h.p.1
  have lnl : (("\n" : Str)).length = 1 := by decide +kernel
  rw [lnl]
  rw [rows_count] at h1 ⊢
  omega
theorem row_okS {n : Str} {ins outs : List Str} {ps : List Prt} {ws : List (Prt × Prt)} (h : DataOk n ins outs ps ws) : ∀ y ∈ ws.map wireText, OkS y := fun y hy => by
  obtain ⟨x, hx, rfl⟩ := List.mem_map.mp hy
  obtain ⟨a1, _, _⟩ := port_signs (h.w1 x hx) (fun y hy => h.io.1 y (List.mem_append_right _ hy)) fun q hq => (h.p.2.1 q hq).1
  obtain ⟨b1, _, _⟩ := port_signs (h.w2 x hx) (fun y hy => h.io.1 y (List.mem_append_left _ hy)) fun q hq => (h.p.2.1 q hq).1
  refine okS_of fun c hc => ?_
  unfold wireText at hc
  simp only [sl_app, List.mem_append, sl_s2, sl_ar] at hc
  rcases hc with ((hc | hc) | hc) | hc
  · simp at hc; omega
  · have := a1 c hc; omega
  · simp at hc; omega
  · have := b1 c hc; omega
theorem data_okS {n : Str} {ins outs : List Str} {ps : List Prt} {ws : List (Prt × Prt)} (h : DataOk n ins outs ps ws) : (∀ x ∈ ws, (OkS x.1.1 ∧ OkS x.1.2) ∧ OkS x.2.1 ∧ OkS x.2.2) ∧ ∀ q ∈ ps, OkS q.1 ∧ OkS q.2 := by
  have part : ∀ a, a ∈ ps.map (·.1) → OkS a := fun a ha => by
    obtain ⟨q, hq, rfl⟩ := List.mem_map.mp ha
    exact okS_name (h.p.2.1 q hq).1
  refine ⟨fun x hx => ⟨?_, ?_⟩, fun q hq => ⟨okS_name (h.p.2.1 q hq).1, okS_blk (blockOk_blk (h.p.2.1 q hq).2)⟩⟩
  · rcases h.w1 x hx with ⟨e1, e2⟩ | ⟨e1, e2⟩
    · rw [e1]
      exact ⟨okS_em, okS_name (h.io.1 _ (List.mem_append_right _ e2))⟩
    · exact ⟨part _ e1, okS_name e2⟩
  · rcases h.w2 x hx with ⟨e1, e2⟩ | ⟨e1, e2⟩
    · rw [e1]
      exact ⟨okS_em, okS_name (h.io.1 _ (List.mem_append_left _ e2))⟩
    · exact ⟨part _ e1, okS_name e2⟩
theorem eqv_wires (zs : List (Prt × Prt)) : PyData.eqv (.tuple (zs.map dWire)) (.tuple (zs.map dWire)) = true := eqv_all eqv_wire zs
theorem eqv_pairs (ps : List Prt) : PyData.eqv (.tuple (ps.map dPair)) (.tuple (ps.map dPair)) = true := eqv_all eqv_pair ps
end Ly

set_option maxRecDepth 100000
set_option maxHeartbeats 4000000
/-! a diagram's data, shown -/
namespace Ly
open PySem PySem.Spec PyProof.Rows L2
@[irreducible] def dDia (n : Str) (ins outs : List Str) (ps : List Prt) (zs : List (Prt × Prt)) : PyData := .tuple [.str n, dTx ins, dTx outs, .tuple (ps.map dPair), .tuple (zs.map dWire)]
theorem rep_okS {n w : Nat} {x : Str} (h : OkS x) (hl : x.length ≤ w) : Rep n w (.str x) := rep_str hl (by
  have h' : x.cps.all (· < 0x110000) = true := h
  rw [← Array.all_toList] at h'
  refine List.all_eq_true.mpr fun c hc => ?_
  have := List.all_eq_true.mp h' c hc
  exact decide_eq_true (Nat.lt_of_lt_of_le (of_decide_eq_true this) (by decide)))
theorem rep_pair {n w : Nat} {p : Prt} (h : OkS p.1 ∧ OkS p.2) (h1 : p.1.length ≤ w) (h2 : p.2.length ≤ w) : Rep (n + 1) (2 * w + 2) (dPair p) :=
  rep_tup (reps_cons (w1 := w) (w2 := w + 1) (rep_okS h.1 h1) (reps_cons (w1 := w) (w2 := 0) (rep_okS h.2 h2) reps_nil (by omega)) (by omega))
theorem rep_names {xs : List Str} (h : ∀ y ∈ xs, nameOk y = true) (hl : xs.length ≤ 100) : Rep 1 1000 (dTx xs) :=
  rep_tup ((reps_all (n := 0) (w := 8) (ds := xs.map .str) fun d hd => by
    obtain ⟨y, hy, rfl⟩ := List.mem_map.mp hd
    exact rep_okS (okS_name (h y hy)) (nameOk_len (h y hy)).2).mono (Nat.le_refl _) (by rw [List.length_map]; omega))
theorem rep_dia {n : Str} {ins outs : List Str} {ps : List Prt} {zs : List (Prt × Prt)} (h : DataOk n ins outs ps zs) (hl : zs.length ≤ 300) : Rep 4 100000 (dDia n ins outs ps zs) := by
  obtain ⟨o1, o2⟩ := data_okS h
  have h1 := rep_names (fun y hy => h.io.1 y (List.mem_append_left _ hy)) (by have := h.io.2.1; omega)
  have h2 := rep_names (fun y hy => h.io.1 y (List.mem_append_right _ hy)) (by have := h.io.2.2.1; omega)
  have h3 : Rep 2 20000 (.tuple (ps.map dPair)) := rep_tup ((reps_all (n := 1) (w := 202) (ds := ps.map dPair) fun d hd => by
    obtain ⟨q, hq, rfl⟩ := List.mem_map.mp hd
    exact rep_pair (n := 0) (w := 100) (o2 q hq) (by have := (nameOk_len (h.p.2.1 q hq).1).2; omega) (blockOk_len (h.p.2.1 q hq).2)).mono (Nat.le_refl _) (by rw [List.length_map]; have := h.p.1; omega))
  have h4 : Rep 3 50000 (.tuple (zs.map dWire)) := rep_tup ((reps_all (n := 2) (w := 40) (ds := zs.map dWire) fun d hd => by
    obtain ⟨x, hx, rfl⟩ := List.mem_map.mp hd
    obtain ⟨a, b⟩ := data_lens h x hx
    exact rep_tup (reps_cons (w1 := 18) (w2 := 19) (rep_pair (n := 0) (w := 8) (o1 x hx).1 a.1 a.2) (reps_cons (w1 := 18) (w2 := 0) (rep_pair (n := 0) (w := 8) (o1 x hx).2 b.1 b.2) reps_nil (by omega)) (by omega))).mono (Nat.le_refl _) (by rw [List.length_map]; omega))
  have hn := (nameOk_len h.n.1).2
  unfold dDia
  exact rep_tup (reps_cons (w1 := 8) (w2 := 99000) (rep_okS (okS_name h.n.1) hn) (reps_cons (w1 := 1000) (w2 := 90000) (h1.mono (by decide) (by decide)) (reps_cons (w1 := 1000) (w2 := 80000) (h2.mono (by decide) (by decide)) (reps_cons (w1 := 20000) (w2 := 55000) (h3.mono (by decide) (by decide)) (reps_cons (w1 := 50000) (w2 := 0) h4 reps_nil (by omega)) (by omega)) (by omega)) (by omega)) (by omega))
theorem dp_dia {K : PySem.W.Frag} {H : Hp} {a i o p w : Addr} {n : Str} {ins outs : List Str} {ps : List Prt} {zs : List (Prt × Prt)} (h : SqT K H a [.str n, .ref i, .ref o, .ref p, .ref w]) (hi : SqT K H i (ins.map V.str)) (ho : SqT K H o (outs.map V.str)) (hp : Dp K H (.ref p) (.tuple (ps.map dPair))) (hw : Dp K H (.ref w) (.tuple (zs.map dWire))) : Dp K H (.ref a) (dDia n ins outs ps zs) := by
  unfold dDia
  exact .tup h (.cons (.str n) (.cons (dp_strs hi) (.cons (dp_strs ho) (.cons hp (.cons hw .nil)))))
theorem fsD_ports {n i o p w t} : (fsD n i o p w t).lookup ("MAX_PORTS" : Str) = none := by kernel_rfl
theorem fsD_mparts {n i o p w t} : (fsD n i o p w t).lookup ("MAX_PARTS" : Str) = none := by kernel_rfl
theorem cut_four {a b c d e : V} : cutV [a, b, c, d, e] none (some 4) = [a, b, c, d] := by kernel_rfl
theorem not_four : ¬ (HT.sIx 5 0 none = 0 ∧ HT.sIx 5 5 (some 4) = 5) := by decide
end Ly

set_option maxRecDepth 100000
set_option maxHeartbeats 4000000
/-! join of a text's signs -/
namespace Ly
open PySem PySem.Spec PyProof.Rows L2
section
variable {X : Cx}
/-- sep.join(a text) -/
theorem mt_joinS (hc : X.calm = true) : MtR X "str.join" (fun x xs H Q => ∃ a y : Str, x = .str a ∧ xs = [.str y] ∧ JoinOk a (PyProof.Rows.signs y) = true ∧ Q (.str (Txt.join a (PyProof.Rows.signs y))) H) := by
  intro pins s σ H x xs v us Q I rx rs h
  obtain ⟨a, y, rfl, rfl, hok, h⟩ := h
  obtain ⟨t, rfl⟩ := rx
  cases rs with
  | cons r1 rs =>
    cases rs
    obtain ⟨u, rfl⟩ := r1
    exact SC.joinStr (I.ok.hd hc) hok fun h' k t' kp => ⟨.str _, H, I.kept kp, ⟨t', rfl⟩, h⟩
theorem pe_joinS {o e : Expr} {to te : TE} {apos pos : Pos} (hc : X.calm = true) (ho : PE X o to) (he : PE X e te) (hs : starEach [e] X.env = [(false, eval e X.env)] := by rfl) (hbase : attributeBase o "join" X.env (eval o X.env) = eval o X.env := by rfl) (hline : (apos.endLine == pos.line) = true := by rfl) :
    PE X (.Call (.Attribute o "join" apos) [e] [] pos) (tM1 (fun x xs H Q => ∃ a y : Str, x = .str a ∧ xs = [.str y] ∧ JoinOk a (PyProof.Rows.signs y) = true ∧ Q (.str (Txt.join a (PyProof.Rows.signs y))) H) to te) :=
  pe_m1 F.slot_str_join F.type_str_join (mt_joinS hc) ho he hs hbase hline
/-- sep.join(a list or tuple), its reading by name -/
def tJoin (K : PySem.W.Frag) (to te : TE) : TE := tM1 (fun x xs H Q => ∃ a p, ∃ ys : List Str, x = .str a ∧ xs = [.ref p] ∧ (SqL K H p (ys.map V.str) ∨ SqT K H p (ys.map V.str)) ∧ (ys.map (·.length)).sum + ys.length * a.length ≤ 16777216 ∧ Q (.str (Txt.join a ys)) H) to te
theorem pe_joinK (K : PySem.W.Frag) {o e : Expr} {to te : TE} {apos pos : Pos} (ho : PE X o to) (he : PE X e te) (hK : X.K = K := by rfl) (hs : starEach [e] X.env = [(false, eval e X.env)] := by rfl) (hbase : attributeBase o "join" X.env (eval o X.env) = eval o X.env := by rfl) (hline : (apos.endLine == pos.line) = true := by rfl) :
    PE X (.Call (.Attribute o "join" apos) [e] [] pos) (tJoin K to te) := hK ▸ pe_join ho he hs hbase hline
end
end Ly

set_option maxRecDepth 100000
set_option maxHeartbeats 4000000
/-! sorted(xs, key=lambda x: ..): the key a whole number, the lambda with one parameter and captured names -/
namespace Ly
open PySem PySem.Spec PyProof.Rows L2 LamX
/-- one parameter, no other name of its own -/
structure LamP (sc scope : Scope) (a : Str) : Prop where
  kind : scope.kind = .function
  co : scope.isCoroutine = false
  gen : scope.isGenerator = false
  own : ∀ y ∈ scope.names, y.2 ≠ .cell ∧ (y.2 = .local → y.1 = a)
  par : scope.names.lookup a = some .local
  free : ∀ y ∈ scope.names, y.2 = .free → sc.names.lookup y.1 = some .cell ∨ sc.names.lookup y.1 = some .free
def lamPB (sc scope : Scope) (a : Str) : Bool :=
  decide (scope.kind = .function) && !scope.isCoroutine && !scope.isGenerator && (scope.names.all fun y => !decide (y.2 = .cell) && (!decide (y.2 = .local) || decide (y.1 = a)) && (!decide (y.2 = .free) || decide (sc.names.lookup y.1 = some .cell) || decide (sc.names.lookup y.1 = some .free))) && decide (scope.names.lookup a = some .local)
theorem lamP_by {sc scope : Scope} {a : Str} (h : lamPB sc scope a = true) : LamP sc scope a := by
  unfold lamPB at h
  simp only [Bool.and_eq_true, Bool.or_eq_true, Bool.not_eq_true', decide_eq_true_eq, decide_eq_false_iff_not, List.all_eq_true] at h
  obtain ⟨⟨⟨⟨h1, h2⟩, h3⟩, h4⟩, h5⟩ := h
  refine ⟨h1, h2, h3, fun y hy => ⟨(h4 y hy).1.1, fun e => ?_⟩, h5, fun y hy e => ?_⟩
  · rcases (h4 y hy).1.2 with z | z
    · exact absurd e z
    · exact z
  · rcases (h4 y hy).2 with (z | z) | z
    · exact absurd e z
    · exact .inl z
    · exact .inr z
theorem LamP.has {X : Cx} {scope : Scope} {a : Str} (L : LamP X.env.scope scope a) (ok : X.Ok) : ∀ y ∈ scope.names, y.2 = .free → ∃ c, X.env.cells.lookup y.1 = some c := fun y hy e => by
  rcases L.free y hy e with k | k
  · exact ok.has _ (.inl k)
  · exact ok.has _ (.inr k)
section
variable {X : Cx} {pins : List (Addr × Obj)} {σ : L2.St} {H : Hp} {s : Shared}
theorem lamp_start {A : Around} {E : XK} {scope : Scope} {f c' : Addr} {h₁ : Heap} {tk : Nat} {a : Str} {i : Nat} {v : V} {u : Value} (I : Inv X pins σ H s) (L : LamP X.env.scope scope a) (hA : A.frames = some X.stack) (hd : A.handled = none) (nd : X.N.Nodup) (hi : X.N[i]? = some a) (r : RelV v u)
    (hns : h₁.Ns s.heap.objs.size fun y => ([(a, u)] : List (Str × Value)).reverse.lookup y) (kp : ∀ b o, s.heap.get? b = some o → h₁.get? b = some o) :
    Inv (lamCx X A X.stack s H E scope f c') [] (σ.set i (some v)) H { s with heap := h₁, toks := tk } := by
  have e0 := I.env0
  have hfree := L.has I.ok
  have cm : ∀ {y c}, (cloFrom X.env.cells scope.names []).lookup y = some c → X.env.cells.lookup y = some c := fun {y c} e => by
    rcases cloFrom_mem (PySem.mem_of_lookup e) with hm | ⟨h1, h2⟩
    · cases hm
    · obtain ⟨c1, hc⟩ := hfree _ h1 rfl
      have hc : X.env.cells.lookup y = some c1 := hc
      have e2 : c = c1 := by
        rw [h2, hc] <;> rfl
      rw [e2]
      exact hc
  have look : ∀ {y}, scope.names.lookup y = some .free → ∃ c, (cloFrom X.env.cells scope.names []).lookup y = some c := fun {y} hl => by
    have hy : (y, NameKind.free) ∈ scope.names := PySem.mem_of_lookup hl
    exact mem_lookup (cloFrom_has (cells := X.env.cells) (acc := []) hy)
  have cellK : ∀ {c : Addr} {v : Option Value}, s.heap.IsCell c v → h₁.IsCell c v := fun {c v} ⟨o, ho, hd⟩ => ⟨_, kp _ _ ho, hd⟩
  have noA : ∀ b : Addr, b ∉ (lamCx X A X.stack s H E scope f c').ex := fun b z => absurd (show b ∈ ([] : List Addr) from z) (by simp)
  refine ⟨⟨e0.mod, L.kind, rfl, rfl, Nat.le_refl _, fun y z c e1 e2 => I.ok.inj y z c (cm e1) (cm e2), fun y hy => ?_, fun y c z _ => ?_, fun _ => hd, Around.frames_deeper hA, .inr ⟨rfl, rfl⟩, fun b z => absurd z (noA b), e0.bs, e0.bsz, fun b _ _ => noA b,
      fun b z => absurd z (noA b), e0.funs, e0.frf⟩,
    rfl, e0.bare, Un.kept kp, ⟨_, hns, fun j y v' e1 e2 e3 => ?_⟩, fun y c e => ?_, e0.hok.fresh (Nat.le_refl _), fun y c e => ?_, fun q hq => absurd (show q ∈ ([] : List (Addr × Obj)) ++ [] from hq) (by simp), e0.hok.kept kp, by rw [List.length_set]; exact I.len⟩
  · have hy : scope.names.lookup y = some .cell ∨ scope.names.lookup y = some .free := hy
    rcases hy with hy | hy
    · exact absurd rfl (L.own _ (PySem.mem_of_lookup hy)).1
    · exact look hy
  · have z : false = true := z
    cases z
  · have e1 : X.N[j]? = some y := e1
    have hiσ : i < σ.length := by rw [I.len]; exact (List.getElem?_eq_some_iff.mp hi).1
    by_cases hj : j = i
    · subst hj
      rw [hi] at e1
      cases e1
      rw [List.getElem?_set_self hiσ] at e2
      cases e2
      exact ⟨u, r, .inl ⟨L.par, by simp⟩⟩
    · rw [List.getElem?_set_ne (Ne.symm hj)] at e2
      have e3 : Vis scope y := e3
      rcases e3 with k | k | k
      · have := (L.own _ (PySem.mem_of_lookup k)).2 rfl
        have : y = a := this
        subst this
        exact absurd (nodup_ix nd e1 hi) hj
      · exact absurd rfl (L.own _ (PySem.mem_of_lookup k)).1
      · obtain ⟨m, hn, hl⟩ := I.loc
        have hvis : Vis X.env.scope y := (L.free _ (PySem.mem_of_lookup k) rfl).elim (fun k => .inr (.inl k)) (fun k => .inr (.inr k))
        obtain ⟨w', r', q⟩ := hl j y v' e1 e2 hvis
        obtain ⟨c2, h2⟩ := look k
        refine ⟨w', r', .inr ⟨.inr k, c2, h2, ?_⟩⟩
        have c1 := cm h2
        rcases q with ⟨k', _⟩ | ⟨_, c3, e', z⟩
        · have k' : X.env.scope.names.lookup y = some .local := k'
          rcases L.free _ (PySem.mem_of_lookup k) rfl with k2 | k2 <;> rw [show X.env.scope.names.lookup y = _ from k2] at k' <;> cases k'
        · rw [c1] at e'
          cases e'
          exact cellK z
  · obtain ⟨w', z⟩ := I.cell y c (cm e)
    exact ⟨w', cellK z⟩
  · exact I.freeC y c (cm e)
/-- f(u): all untracked things stay but the frames -/
theorem lamp_call {A : Around} {scope : Scope} {params : Arguments} {body : Expr} {f c' : Addr} {pm ctv : Value} {a : Str} {i k : Nat} {v : V} {u : Value} {tb : TE} {Q : VK} (I : Inv X pins σ H s) (L : LamP X.env.scope scope a) (hA : A.frames = some X.stack) (hr : Room (k + 1) A) (nd : X.N.Nodup) (hi : X.N[i]? = some a)
    (of1 : s.heap.get? f = some (PySem.W.kla_obj "<lambda>" (X.env.qual ++ "<lambda>") params body scope (cloFrom X.env.cells scope.names []) pm c' ctv)) (hc : H c' = some (CodeO c' (X.env.qual ++ "<lambda>")))
    (hbind : ∀ u : Value, bindArgs (PySem.W.kla_fn "<lambda>" (X.env.qual ++ "<lambda>") params body scope (cloFrom X.env.cells scope.names []) pm (.ref c') ctv) ⟨[u], []⟩ = pure [(a, u)])
    (hbody : ∀ (A : Around) (outer : List Env) (s : Shared) (H : Hp) (E : XK), Room k (A.deeper (lamEnv X scope s.heap.objs.size f c')) → PE (lamCx X A outer s H E scope f c') body tb)
    (r : RelV v u) (ht : tb (σ.set i (some v)) H Q) :
    wpAny (model X.prog X.w) A (call (.ref f) [u]) (fun u' s2 => ∃ v' H', Inv X pins σ H' s2 ∧ RelV v' u' ∧ Q v' H' ∧ ∀ b o, s.heap.get? b = some o → H b = none → b ∉ frs X.stack → s2.heap.get? b = some o) (fun _ _ => False) s := by
  obtain ⟨⟨oc, vs, t, hoc, hdc, hvc⟩, _, _⟩ := I.hok c' _ hc
  have rc : codeAny (model X.prog X.w) A (.call (.ref f) ⟨[u], []⟩) (CR (L2.CX X.prog X.w) X.stack X.prog X.w H s Q (fun _ _ _ => False)) s := by
    refine PySem.W.kla_callFunE hr.depth of1 rfl L.co L.gen rfl ⟨c', oc, vs, t, rfl, hoc, hdc, hvc⟩ ?_
    rw [hbind]
    refine wpAny_pure (wpAny_newFunctionEnv (fun y hy => (L.own y hy).1) (fun y hy => ?_) (fun h₁ hns hsb => ⟨I.nolimit.fresh _ hsb, ?_⟩) L.kind)
    · rw [List.mem_singleton.mp hy]
      exact L.par
    show codeAny _ _ (.expr body (lamEnv X scope s.heap.objs.size f c')) _ _
    have kp : ∀ b o, s.heap.get? b = some o → h₁.get? b = some o := fun b o e => hsb.extBut b o (Nat.ne_of_lt (Heap.lt_size e)) (Heap.get?_push_of_some _ e)
    have J : Inv (lamCx X A X.stack s H (fun _ _ _ => False) scope f c') [] (σ.set i (some v)) H { s with heap := h₁, toks := s.toks + ([(a, u)] : List (Str × Value)).length } :=
      lamp_start I L hA hr.hd nd hi r hns kp
    refine PySem.W.kla_codeExpr (wpAny_mono ((hbody A X.stack s H _ (hr.deeper _)).run [] _ _ H Q J ht) (fun v s' hq => ?_) fun e s' hq => hq)
    obtain ⟨w', H', J', rv, q⟩ := hq
    exact ⟨w', H', J'.os, J'.bare, J'.base, J'.hok, rv, q⟩
  refine wpAny_call (codeAny_mono rc fun r s' hq => ?_)
  cases r with
  | error e =>
    obtain ⟨_, _, _, _, _, _, _, _, _, _, _, _, z⟩ := hq
    exact z.elim
  | ok fl =>
    cases fl with
    | ret u =>
      have hq : CE X.stack X.prog X.w H s Q u s' := hq
      obtain ⟨v0, H0, os, bare, un, hok, r, q⟩ := hq
      have un' := un
      obtain ⟨hh, g, d, t, os'⟩ := s'
      obtain rfl : os' = s.os := os
      exact ⟨v0, H0, I.call (h' := hh) (g' := g) (d' := d) (t' := t) (ch := []) un hok bare (fun b z => absurd z (by simp)), r, q, fun b o e n nf => un'.keep b o e n nf (by simp)⟩
    | next => exact False.elim hq
    | brk => exact False.elim hq
    | cont => exact False.elim hq
end
end Ly

set_option maxRecDepth 100000
set_option maxHeartbeats 4000000
/-! sorted(xs, key=lambda ..), the sort's own loop -/
namespace Ly
open PySem PySem.Spec PyProof.Rows L2 LamX
open PySem.W (EachIs SortsAt dataKind sortVals KeepsBut keyH_end KeyedOut keyedOut_each dataLe dataLe_int AllAlike Sortable copyHeap copyHeap_at copyHeap_old sorted_of_sort)
theorem vals_each : ∀ {xs : List V} {its : List Value}, Vals xs its → EachIs (fun u x => RelV x u) its xs
  | _, _, .nil => .nil
  | _, _, .cons r t => .cons r (vals_each t)
theorem each_vals : ∀ {xs : List V} {its : List Value}, EachIs (fun u x => RelV x u) its xs → Vals xs its
  | _, _, .nil => .nil
  | _, _, .cons r t => .cons r (each_vals t)
def KInt (u : Value) (n : Int) : Prop := ∃ t, u = .int n t
section
variable {X : Cx} {pins : List (Addr × Obj)} {σ : L2.St} {H : Hp} {s : Shared}
theorem keyI_rest {A : Around} {g : Value} {f a kS : Addr} {fo : Obj} {e1 : Nat} {vs : List Value} {xs : List V} {ks : V → Int} {P : PySem.Fin → Shared → Prop} {E : Value → Shared → Prop}
    (hf : s.heap.get? f = some fo) (nf : H f = none ∧ f ∉ frs X.stack) (na : H a = none ∧ a ∉ frs X.stack) (nk : H kS = none ∧ kS ∉ frs X.stack) (fk : FpOk X pins H kS) (hka : kS ≠ a) (hkf : f ≠ kS)
    (I : Inv X pins σ H s) (ok : s.heap.get? kS = some (seqObj "list" #[] 0)) (oa : s.heap.get? a = some (seqObj "list" #[] e1)) (r : Vals xs vs) (hZ : vs.length ≤ sizeLine) (hA : A.units + 4 < cLine)
    (turn : ∀ (x : V) (u : Value) (s' : Shared), x ∈ xs → RelV x u → Inv X pins σ H s' → s'.heap.get? f = some fo →
      wpAny (model X.prog X.w) A (call g [u]) (fun u' s2 => KInt u' (ks x) ∧ Inv X pins σ H s2 ∧ ∀ b o, s'.heap.get? b = some o → H b = none → b ∉ frs X.stack → s2.heap.get? b = some o) (fun _ _ => False) s')
    (h : ∀ (s' : Shared) h' tk c (out : List Value), Inv X pins σ H s' → (∀ b o, b ≠ a → b ≠ kS → s'.heap.get? b = some o → h'.get? b = some o) → (∃ o, s'.heap.get? a = some o) → (∃ o, s'.heap.get? kS = some o) → h'.get? a = some (seqObj "list" out.toArray c) → Vals (xs.mergeSort fun x y => decide (ks x ≤ ks y)) out → P (.done (.ret .none)) { s' with heap := h', toks := tk }) :
    wpAny (model X.prog X.w) A (ksk_rest a g false vs.toArray e1 (.ref kS)) P E s := by
  unfold ksk_rest
  refine wpAny_bind (wpAny_rule ?_)
  first
    | rw [List.forIn_toArray]
    | (rw [← Array.forIn_toList]; simp only [List.toList_toArray])
    | rw [← Array.forIn_toList]
  have hlen := r.length
  refine wpAny_bind (ksk_fold (fun i s' => Inv X pins σ H s' ∧ s'.heap.get? f = some fo ∧ s'.heap.get? a = some (seqObj "list" #[] e1) ∧ ∃ kA e, s'.heap.get? kS = some (seqObj "list" kA e) ∧ EachIs KInt kA.toList ((xs.take i).map ks)) vs 0 s
    ⟨I, hf, oa, #[], 0, ok, by rw [List.take_zero]; exact EachIs.nil⟩ ?step ?done)
  case step =>
    rintro j u s' hx ⟨I', hf', oa', kA, e, ok', hk⟩
    simp only [Nat.zero_add] at hk ⊢
    have hj : j < vs.length := (List.getElem?_eq_some_iff.mp hx).1
    obtain ⟨x, hxj⟩ : ∃ x, xs[j]? = some x := ⟨_, List.getElem?_eq_getElem (by omega)⟩
    obtain ⟨u', hu', rv⟩ := r.get hxj
    rw [hx] at hu'
    cases hu'
    have hz : kA.size ≤ vs.length := by
      have h1 := hk.length
      rw [Array.length_toList, List.length_map, List.length_take] at h1
      omega
    refine wpAny_bind (wpAny_attempt (wpAny_mono (turn x u s' (List.mem_of_getElem? hxj) rv I' hf') (fun v s'' he => ?_) fun _ _ hF => hF.elim))
    obtain ⟨hv, I2, kp⟩ := he
    try dsimp only
    have ok2 := kp _ _ ok' nk.1 nk.2
    have oa2 := kp _ _ oa' na.1 na.2
    have hf2 := kp _ _ hf' nf.1 nf.2
    have s1 := Heap.SameBut.update s''.heap kS (Obj.mapSeq (·.push v))
    obtain ⟨c2, hc2⟩ : ∃ c2, (s''.heap.update kS (Obj.mapSeq (·.push v))).get? kS = some (seqObj "list" (kA.push v) c2) := ⟨_, get?_update_seq ok2 (·.push v)⟩
    refine wpAny_bind (listUpdate_at ok2 rfl ?_ (Nat.le_trans hz hZ) (Nat.le_trans (Nat.le_of_eq (Array.size_push ..)) (Nat.succ_le_succ (Nat.le_trans hz hZ))))
    have I3 := I2.turnedL (t' := s''.toks) (h' := s''.heap.update kS (Obj.mapSeq (·.push v))) (ch := [kS]) (fun b o hb e => (s1.2 b (fun z => hb (by simp [z]))).trans e) fun b hb => by
      rw [List.mem_singleton.mp hb]
      exact fk
    refine wpAny_pure ⟨rfl, I3, (s1.2 _ hkf).trans hf2, (s1.2 a hka.symm).trans oa2, kA.push v, c2, hc2, ?_⟩
    have ek : (xs.take (j + 1)).map ks = (xs.take j).map ks ++ [ks x] := by rw [List.take_add_one, hxj]; simp
    have ea : (kA.push v).toList = kA.toList ++ [v] := by simp
    rw [ea, ek]
    exact PySem.W.each_snoc hv hk
  case done =>
    rintro s' ⟨I', hf', oa', kA, e, ok', hk⟩
    have e3 : xs.take (0 + vs.length) = xs := List.take_of_length_le (by omega)
    rw [e3] at hk
    have hsz : kA.size = vs.length := by
      have h1 := hk.length
      rw [Array.length_toList, List.length_map] at h1
      omega
    have hk2 : EachIs (fun v k => ∃ as, Reads s'.heap v k as) kA.toList (xs.map fun x => PyData.int (ks x)) := by
      have e4 : (xs.map fun x => PyData.int (ks x)) = (xs.map ks).map PyData.int := by rw [List.map_map]; rfl
      rw [e4]
      revert hk
      generalize xs.map ks = ns
      generalize kA.toList = us
      intro hk
      induction hk with
      | nil => exact .nil
      | cons hr _ ih =>
        obtain ⟨t, rfl⟩ := hr
        exact .cons ⟨[], .int _ _⟩ ih
    have hal : AllAlike (xs.map fun x => PyData.int (ks x)) := AllAlike.of (enc := fun x => PyData.int (ks x)) fun _ _ => rfl
    try dsimp only
    refine wpAny_bind (listItems_at ok' rfl ?_)
    have hk1 : (PySem.W.hideAll s'.heap [kS]).get? kS = none := PySem.W.hideAll_none _ (by simp)
    refine keyH_end (κ := dataKind s'.heap (xs.map fun x => PyData.int (ks x))) (h₁ := PySem.W.hideAll s'.heap [kS]) (fun b o _ q => PySem.W.of_hideAll _ q) hk1 ok' oa' hka
      (SortsAt.data hk2 hal (Sortable.others (enc := fun x => PyData.int (ks x)) fun _ => ⟨(fun z => nomatch z), fun _ z => nomatch z⟩) (fun d hd => by
        obtain ⟨x, _, rfl⟩ := List.mem_map.mp hd
        have : (PyData.int (ks x)).depth = 0 := by simp [PyData.depth]
        omega)) hsz hZ fun h' tk c kp hD => ?_
    have ko : KeyedOut false (xs.map fun x => PyData.int (ks x)) vs (sortVals (dataKind s'.heap (xs.map fun x => PyData.int (ks x))) false kA.toList vs) := ⟨s'.heap, kA.toList, hal, rfl, hk2⟩
    have eo := keyedOut_each (fun x => PyData.int (ks x)) ko (vals_each r)
    rw [dataLe_int] at eo
    exact h s' h' tk c _ I' (fun b o hb hk q => kp b o hb (PySem.W.hideAll_get _ q (by simpa using hk))) ⟨_, oa'⟩ ⟨_, ok'⟩ hD (each_vals eo)
end
end Ly

set_option maxRecDepth 100000
set_option maxHeartbeats 4000000
/-! sorted(xs, key=lambda ..), the rule -/
namespace Ly
open PySem PySem.Spec PyProof.Rows L2 LamX
open PySem.W (sortingHeap sortingHeap_old copyHeap copyHeap_at copyHeap_old sorted_of_sort)
/-- the list sorted by ks -/
def byKey (ks : V → Int) (xs : List V) : List V := xs.mergeSort fun x y => decide (ks x ≤ ks y)
def tSortLam (K : PySem.W.Frag) (T : List (Addr × Str)) (i : Nat) (to tb : TE) : TE := fun σ H Q => to σ H fun vl H1 => ∃ (l : Addr) (xs : List V) (ks : V → Int), vl = .ref l ∧ SqL K H1 l xs ∧ Tabs T H1 ∧
  ∀ H2, ExtN H1 H2 → Tabs T H2 → (∀ x ∈ xs, tb (σ.set i (some x)) H2 fun v H3 => v = .int (ks x) ∧ H3 = H2) ∧ ∀ p, H2 p = none → Q (.ref p) (upd H2 p (.lst (byKey ks xs)))
section
variable {X : Cx}
theorem sqL_extN {K : PySem.W.Frag} {H H' : Hp} {l : Addr} {xs : List V} (e : ExtN H H') (h : SqL K H l xs) : SqL K H' l xs := by
  rcases h with (h | ⟨o, h⟩) | h
  · exact .inl (.inl (e _ _ h fun _ z => by cases z))
  · exact .inl (.inr ⟨o, e _ _ h fun _ z => by cases z⟩)
  · exact .inr h
theorem sortLam_run {A : Around} {pins : List (Addr × Obj)} {σ : L2.St} {H : Hp} {s : Shared} {scope : Scope} {params : Arguments} {body : Expr} {f c' l : Addr} {pm ctv : Value} {a : Str} {i k : Nat} {tb : TE} {Q : VK} {xs : List V} {ks : V → Int}
    (I : Inv X pins σ H s) (L : LamP X.env.scope scope a) (hA : A.frames = some X.stack) (hr : Room (k + 2) A) (nd : X.N.Nodup) (hi : X.N[i]? = some a)
    (of1 : s.heap.get? f = some (PySem.W.kla_obj "<lambda>" (X.env.qual ++ "<lambda>") params body scope (cloFrom X.env.cells scope.names []) pm c' ctv)) (nf : H f = none ∧ f ∉ frs X.stack) (hc : H c' = some (CodeO c' (X.env.qual ++ "<lambda>")))
    (hbind : ∀ u : Value, bindArgs (PySem.W.kla_fn "<lambda>" (X.env.qual ++ "<lambda>") params body scope (cloFrom X.env.cells scope.names []) pm (.ref c') ctv) ⟨[u], []⟩ = pure [(a, u)])
    (hbody : ∀ (A : Around) (outer : List Env) (s : Shared) (H : Hp) (E : XK), Room k (A.deeper (lamEnv X scope s.heap.objs.size f c')) → PE (lamCx X A outer s H E scope f c') body tb)
    (hs : SqL X.K H l xs) (ht : ∀ x ∈ xs, tb (σ.set i (some x)) H fun v H3 => v = .int (ks x) ∧ H3 = H) (hq : ∀ p, H p = none → Q (.ref p) (upd H p (.lst (byKey ks xs)))) :
    wpAny (model X.prog X.w) A (call (.builtin "sorted") [.ref l] [(Str.ofString "key", .ref f)]) (EP X pins σ Q) X.xe s := by
  obtain ⟨its, rv, hl, hz⟩ := I.list hs
  have hzi : its.length ≤ sizeLine := by rw [← rv.length]; exact hz
  have nofr : ∀ b, s.heap.objs.size ≤ b → b ∉ frs X.stack := fun b hb z => by
    rcases List.mem_cons.mp (I.stkSub _ z) with e | e
    · have h1 := I.lt
      rw [← e] at h1
      exact Nat.lt_irrefl _ (Nat.lt_of_lt_of_le h1 hb)
    · exact I.nofs hb e
  refine sorted_of_sort hl.isList hzi (ksk_s1 _ _) (fun _ => ksk_l1 _ _) fun E' => ?_
  rw [ksk_t1]
  have ho := copyHeap_at s.heap its
  generalize hcp : copyHeap s.heap its = hC at ho ⊢
  have kC : ∀ b o, s.heap.get? b = some o → hC.get? b = some o := fun b o e => by rw [← hcp]; exact copyHeap_old e
  have hne : ∀ b o, s.heap.get? b = some o → b ≠ s.heap.objs.size + 1 := fun b o e => Nat.ne_of_lt (Nat.lt_succ_of_lt (Heap.lt_size e))
  have hsC : s.heap.objs.size + 1 < hC.objs.size := Heap.lt_size ho
  obtain ⟨e1, ho1⟩ : ∃ e1, (hC.update (s.heap.objs.size + 1) (Obj.mapSeq fun _ => (#[] : Array Value))).get? (s.heap.objs.size + 1) = some (seqObj "list" #[] e1) := ⟨_, get?_update_seq ho fun _ => #[]⟩
  have hkS : ((hC.update (s.heap.objs.size + 1) (Obj.mapSeq fun _ => (#[] : Array Value))).push (seqObj "tuple" its.toArray 0)).objs.size = hC.objs.size + 1 := by rw [size_push', Heap.size_update]
  unfold ksk_tree
  refine wpAny_bind (listItems_at ho rfl ?_)
  refine wpAny_bind (listUpdate_at ho rfl ?_ (by rw [List.size_toArray]; exact hzi) (Nat.zero_le _))
  refine wpAny_bind (seqEpoch_at ho1 rfl ?_)
  refine wpAny_bind (wpAny_newTuple ?_ (by show its.length ≤ _; exact hzi))
  refine wpAny_bind (wpAny_newList ?_ (Nat.zero_le _))
  refine wpAny_holding ?_
  have kp : ∀ b o, s.heap.get? b = some o → (sortingHeap hC (s.heap.objs.size + 1) its).get? b = some o := fun b o e => sortingHeap_old (hne b o e) (kC b o e)
  have I1 : Inv X pins σ H { s with heap := sortingHeap hC (s.heap.objs.size + 1) its } := I.kept (t' := s.toks) kp
  have fA : FpOk X pins H (s.heap.objs.size + 1) := I.fpOk (Nat.le_succ _) (I.hok.fresh (Nat.le_succ _))
  have lek : s.heap.objs.size ≤ ((hC.update (s.heap.objs.size + 1) (Obj.mapSeq fun _ => (#[] : Array Value))).push (seqObj "tuple" its.toArray 0)).objs.size := by
    rw [hkS]
    omega
  have fK : FpOk X pins H ((hC.update (s.heap.objs.size + 1) (Obj.mapSeq fun _ => (#[] : Array Value))).push (seqObj "tuple" its.toArray 0)).objs.size := I.fpOk lek (I.hok.fresh lek)
  have hka : ((hC.update (s.heap.objs.size + 1) (Obj.mapSeq fun _ => (#[] : Array Value))).push (seqObj "tuple" its.toArray 0)).objs.size ≠ s.heap.objs.size + 1 := by
    rw [hkS]
    exact Nat.ne_of_gt (by omega)
  have hkf : f ≠ ((hC.update (s.heap.objs.size + 1) (Obj.mapSeq fun _ => (#[] : Array Value))).push (seqObj "tuple" its.toArray 0)).objs.size := by
    have h1 := Heap.lt_size of1
    rw [hkS]
    exact Nat.ne_of_lt (Nat.lt_of_lt_of_le h1 (by omega))
  have rIn : Room (k + 1) A.in1.in1 := ⟨hr.hd, by have := hr.dp; show A.depth + 3 * (k + 1) + 5 < _; omega, by have := hr.un; show A.units + 1 + 1 + 16 * (k + 1) + 200 < _; omega⟩
  refine keyI_rest (X := X) (pins := pins) (σ := σ) (H := H) (xs := xs) (ks := ks) (s := { s with heap := sortingHeap hC (s.heap.objs.size + 1) its }) (f := f) (kp _ _ of1) nf ⟨fA.1, nofr _ (Nat.le_succ _)⟩ ⟨fK.1, nofr _ lek⟩ fK hka hkf I1
    (Heap.get?_push_size _ rfl) (Heap.get?_push_of_some _ (Heap.get?_push_of_some _ ho1)) rv hzi (by have := hr.un; show A.units + 1 + 1 + 4 < _; omega) (fun x u s' hx ru I' hf' => ?_) fun s' h' tk c out I' kp' ⟨oa, ha⟩ ⟨ok, hk⟩ hD hv => ?_
  · refine wpAny_mono (lamp_call (Q := fun v H3 => v = .int (ks x) ∧ H3 = H) I' L (A := A.in1.in1) hA rIn nd hi hf' hc hbind hbody ru (ht x hx)) (fun u' s2 ⟨v', H', J, rv', ⟨e1, e2⟩, kp2⟩ => ?_) fun _ _ z => z
    subst e1
    rw [e2] at J
    obtain ⟨t, rfl⟩ := rv'
    exact ⟨⟨t, rfl⟩, J, kp2⟩
  · have J := I'.turnedL (t' := tk) (h' := h') (ch := [s.heap.objs.size + 1, ((hC.update (s.heap.objs.size + 1) (Obj.mapSeq fun _ => (#[] : Array Value))).push (seqObj "tuple" its.toArray 0)).objs.size]) (fun b o hb e => kp' b o (fun z => hb (by simp [z])) (fun z => hb (by rw [z]; exact List.mem_cons_of_mem _ List.mem_cons_self)) e) fun b hb => by
      rcases List.mem_cons.mp hb with e | hb
      · rw [e]
        exact fA
      · rw [List.mem_singleton.mp hb]
        exact fK
    have J2 := J.take (t' := tk) (h' := h') (it := s.heap.objs.size + 1) (o := .lst (byKey ks xs)) (fun b o _ e => e) fA ⟨by
      unfold byKey
      rw [List.length_mergeSort]
      exact hz, out, c, hv, hD⟩
    exact ⟨rfl, .ref (s.heap.objs.size + 1), _, J2, rfl, hq _ fA.1⟩
end
end Ly

set_option maxRecDepth 100000
set_option maxHeartbeats 4000000
/-! sorted(xs, key=lambda ..), as an expression -/
namespace Ly
open PySem PySem.Spec PyProof.Rows L2 LamX
section
variable {X : Cx}
theorem pe_sortedLam {T : List (Addr × Str)} {c P : Addr} {k i : Nat} {params : Arguments} {body : Expr} {scope : Scope} {lpos kpos p pos : Pos} {e : Expr} {to tb : TE} {a : Str}
    (TB : TabB X.base X.mg c P) (hcode : X.env.code = .ref c) (hmT : (P, X.env.qual ++ "<lambda>") ∈ T) (hu : ∀ p ∈ T, p.1 = P → p.2 = X.env.qual ++ "<lambda>")
    (hr : Room (k + 2) X.A) (L : LamP X.env.scope scope a) (hdef : defaultsOf params X.env = ([], [])) (nd : X.N.Nodup) (hi : X.N[i]? = some a)
    (hbind : ∀ (q : Str) (cl : List (Str × Addr)) (pm cv ctv u : Value), bindArgs (PySem.W.kla_fn "<lambda>" q params body scope cl pm cv ctv) ⟨[u], []⟩ = pure [(a, u)])
    (hbody : ∀ (A : Around) (outer : List Env) (s : Shared) (H : Hp) (E : XK) (f c' : Addr), Room k (A.deeper (lamEnv X scope s.heap.objs.size f c')) → PE (lamCx X A outer s H E scope f c') body tb)
    (hg : Gl X "sorted") (hm : X.mg "sorted" = none) (ho : PE X e to)
    (he : backTo pos (starEach [e] X.env) = (false, eval e X.env) :: backTo pos (starEach [] X.env) := by rfl) (hpl : (backTo pos (starEach [e] X.env)).any (·.1) = false := by rfl) :
    PE X (.Call (.Name "sorted" p) [e] [⟨some "key", .Lambda params body scope lpos, kpos⟩] pos) (tSortLam X.K T i to tb) := by
  refine ⟨fun pins s σ H Q I h => ?_⟩
  refine wpAny_Call_Name_kw (ld_blt (u := .builtin "sorted") I hg hm (by decide +kernel) ?_ (by decide) (by decide))
  refine PyProof.Rows.callWith_kw (e := e) (rest := []) ?_ he hpl (by rfl) (by rfl)
  rw [he]
  refine Calls.spliced_cons (thn (ho.run pins s σ H _ I h) fun u1 s1 ⟨v1, H1, I1, r1, q1⟩ => Calls.spliced_nil ?_)
  obtain ⟨l, xs, ks, rfl, hs, hT, hq⟩ := q1
  obtain rfl : u1 = Value.ref l := r1
  show wpAny _ _ (evalAll ((do let v ← eval (.Lambda params body scope lpos) X.env; standAt pos; pure v) :: [])) _ _ s1
  refine wpAny_evalAll_cons (wpAny_bind (lam_make2 I1 TB hcode hmT hu hT hdef (L.has I1.ok) fun f c' pm ctv H2 s2 I2 eN T2 of1 nf nfr hco => wpAny_bind (wpAny_standAt (wpAny_pure (wpAny_evalAll_nil ?_)))))
  obtain ⟨q2, q3⟩ := hq H2 eN T2
  exact sortLam_run I2 L I.ok.frames hr nd hi of1 ⟨nf, nfr⟩ hco (hbind _ _ _ _ _) (fun A outer s H E => hbody A outer s H E f c') (sqL_extN eN hs) q2 q3
end
end Ly

set_option maxRecDepth 100000
set_option maxHeartbeats 4000000
/-! the law's entry for a promise that holds where no repr is under way, with one def's table of code objects -/
namespace Ly
open PySem PySem.Spec PyProof.Rows L2 LamX
section
variable {P : Program} {w : World} {K : PySem.W.Frag} {mg mb : Str → Option Value} {k : Nat} {fa a c T : Addr} {fd : FuncData} {x : Str} {sp : Sp} {s : Shared} {vs : List Value} {ns : List Int}
/-- from an abstract heap H that tracks the script at most, locked, and the table at T -/
theorem entryT (KX : K.In s.heap) (hns : s.heap.Ns mainGlobals mg) (hb : s.heap.Ns builtinsNs mb) (hbb : ∀ x : Str, x ≠ "__name__" → mb x = bootBuiltins x) (hlim : s.heap.NoLimit) (hg : s.gens = #[])
    (hT : s.heap.get? T = some { cls := .none, data := .fields #[] }) (nT : K.lookup T = none) (C : PySem.W.CodeHd s.heap c T)
    (hbm : ∃ (bm : Addr) (ob : Obj), mg "__builtins__" = some (.ref bm) ∧ bm ≠ builtinsNs ∧ s.heap.get? bm = some ob ∧ ob.cls = .type "module" ∧ ob.dict = some builtinsNs ∧ ob.data = .plain)
    (ha : s.heap.get? a = some { cls := .type "list", data := .seq vs.toArray }) (hr : Room k callerA)
    (F : ∀ base : Heap, K.In base → base.Ns mainGlobals mg → TabB base mg c T → FnG P w K mg base CX0 k fa fd [x] sp) (hbind : ∀ (s : Shared) (u : Value), BindsTo s fd ⟨[u], []⟩ [(x, u)])
    (H : Hp) (hHT : H T = some (.tbl #[])) (hsp : sp [.ref a] H (fun v _ => v = .bl true) fun _ _ _ => False) (hok : HOk P w H s.heap) (only : ∀ b u, H b = some u → b = T ∨ (b = a ∧ K.lookup a = none ∧ ∃ o xs, u = .frz o (.lst xs))) :
    codeAny (model P w) callerA (.call (.ref fa) ⟨[.ref a], []⟩) (fun r s' => r = .ok (.ret (.bool true)) ∧ OldK s.heap s'.heap ∧ s'.os = s.os ∧ AllBare s'.gens) s := by
  have free : ∀ b, b ≠ T → (b ≠ a ∨ K.lookup a ≠ none) → H b = none := fun b hbT hb => by
    cases q : H b with
    | none => rfl
    | some u =>
      rcases only b u q with e | ⟨e, l, _⟩
      · exact absurd e hbT
      · rcases hb with z | z
        · exact absurd e z
        · exact absurd l z
  -- an object that is neither a list nor an empty table is not tracked
  have other : ∀ {b : Addr} {o : Obj}, s.heap.get? b = some o → b ≠ T → (∀ ws n, o.data ≠ .seq ws n) → H b = none := fun {b o} e h1 h2 => free b h1 (.inl fun z => by
    rw [z, ha] at e
    cases e
    exact h2 _ _ rfl)
  have plain : ∀ {b : Addr} {o : Obj} {es : Array DictEntry} {ep : Nat}, s.heap.get? b = some o → o.data = .dict es ep → H b = none := fun {b o es ep} e d => other e (fun z => by
    rw [z, hT] at e
    cases e
    cases d) (fun ws n z => by
    rw [d] at z
    cases z)
  have nsK : ∀ {b : Addr} {m : Str → Option Value}, s.heap.Ns b m → (hidT s.heap H).Ns b m := fun {b m} ⟨o, es, ep, e, d, r⟩ => ⟨o, es, ep, hidT_get e (plain e d), d, r⟩
  have hKb : K.In (hidT s.heap H) := fun b o e => hidT_get (KX b o e) (by
    have hbT : b ≠ T := fun z => by
      rw [z, nT] at e
      cases e
    by_cases hb : b = a
    · exact free b hbT (.inr (by rw [← hb, e]; simp))
    · exact free b hbT (.inl hb))
  have TB : TabB (hidT s.heap H) mg c T := by
    obtain ⟨o, us, file, tf, flags, tg, inF, text, tt, e1, r1, r2, r3, r4, r5, r6, r7, r8, hne⟩ := C
    refine ⟨⟨o, us, file, tf, flags, tg, inF, text, tt, hidT_get e1 (other e1 hne fun ws n z => ?_), r1, r2, r3, r4, r5, r6, r7, r8, hne⟩, ?_, fun z => ?_⟩
    · rw [r2] at z
      cases z
    · obtain ⟨bm, ob, b1, b2, b3, b4, b5, b6⟩ := hbm
      have nT' : bm ≠ T := fun z => by
        rw [z, hT] at b3
        cases b3
        cases b4
      have nG : bm ≠ mainGlobals := fun z => by
        obtain ⟨o', es, ep, e, d, _⟩ := hns
        rw [z, e] at b3
        cases b3
        rw [d] at b6
        cases b6
      exact ⟨bm, ob, b1, b2, nG, nT', hidT_get b3 (other b3 nT' fun ws n z => by
        rw [b6] at z
        cases z), b4, b5, b6⟩
    · obtain ⟨o', es, ep, e, d, _⟩ := hns
      rw [z, hT] at e
      cases e
      cases d
  obtain ⟨mc, l1, l2⟩ := hlim
  have e0 : Env0 P w K mg (hidT s.heap H) callerA [] s H :=
    ⟨rfl, ⟨hKb, nsK hns, ⟨mb, nsK hb, hbb⟩, ⟨mc, nsK l1, l2⟩⟩, fun b o e => of_hidT e, Nat.le_of_eq (hidT_size _ _), trivial, fun b hb => absurd (show b ∈ ([] : List Addr) from hb) (by simp), hok, .of_eq hg⟩
  refine codeAny_mono ((F _ hKb (nsK hns) TB).run callerA [] s H ⟨[.ref a], []⟩ [.ref a] [.ref a] _ _ rfl hr e0 (hbind s (.ref a)) (.cons rfl .nil) hsp) fun r s' h => ?_
  match r, h with
  | .error e, h => exact h.elim
  | .ok .next, h => exact h.elim
  | .ok .brk, h => exact h.elim
  | .ok .cont, h => exact h.elim
  | .ok (.ret u), ⟨v, H', os, bare, un, hok', rv, q⟩ =>
    have q' : v = .bl true := q
    subst q'
    obtain rfl : u = Value.bool true := rv
    have kept : ∀ b o, b ≠ T → s.heap.get? b = some o → s'.heap.get? b = some o := fun b o nb e => by
      cases q : H b with
      | none => exact un.keep b o e q (fun z => absurd (show b ∈ ([] : List Addr) from z) (by simp)) (by simp)
      | some u =>
        rcases only b u q with z | ⟨_, _, ob, xs, rfl⟩
        · exact absurd z nb
        have h1 := (hok b _ q).1
        have h2 := (hok' b _ (un.frzs b ob _ q)).1
        rw [e] at h1
        cases h1
        exact h2
    obtain ⟨more, hm⟩ := un.tbls T #[] hHT
    have hm' : s'.heap.get? T = some { cls := .none, data := .fields (#[] ++ more) } := hok' T _ hm
    refine ⟨rfl, ⟨fun b o e => ?_, fun b o e => ?_⟩, os, bare⟩
    · by_cases nb : b = T
      · rw [nb] at e ⊢
        rw [hT] at e
        cases e
        exact .inr (.inl ⟨(C.tab hT).isCodeTable, rfl, #[], more, rfl, by rw [hm']⟩)
      · exact .inl (kept b o nb e)
    · by_cases nb : b = T
      · rw [nb]
        exact ⟨_, hm'⟩
      · exact ⟨o, kept b o nb e⟩
theorem lawT (KX : K.In s.heap) (hns : s.heap.Ns mainGlobals mg) (hb : s.heap.Ns builtinsNs mb) (hbb : ∀ x : Str, x ≠ "__name__" → mb x = bootBuiltins x) (hlim : s.heap.NoLimit) (hg : s.gens = #[])
    (hT : s.heap.get? T = some { cls := .none, data := .fields #[] }) (nT : K.lookup T = none) (C : PySem.W.CodeHd s.heap c T)
    (hbm : ∃ (bm : Addr) (ob : Obj), mg "__builtins__" = some (.ref bm) ∧ bm ≠ builtinsNs ∧ s.heap.get? bm = some ob ∧ ob.cls = .type "module" ∧ ob.dict = some builtinsNs ∧ ob.data = .plain)
    (ha : s.heap.get? a = some { cls := .type "list", data := .seq vs.toArray }) (hi : IntsAre vs ns) (hl : ns.length ≤ sizeLine) (hr : Room k callerA)
    (F : ∀ base : Heap, K.In base → base.Ns mainGlobals mg → TabB base mg c T → FnG P w K mg base CX0 k fa fd [x] sp) (hbind : ∀ (s : Shared) (u : Value), BindsTo s fd ⟨[u], []⟩ [(x, u)])
    (hsp : ∀ H : Hp, H T = some (.tbl #[]) → SqL K H a (ns.map V.int) → sp [.ref a] H (fun v _ => v = .bl true) fun _ _ _ => False) :
    codeAny (model P w) callerA (.call (.ref fa) ⟨[.ref a], []⟩) (fun r s' => r = .ok (.ret (.bool true)) ∧ OldK s.heap s'.heap ∧ s'.os = s.os ∧ AllBare s'.gens) s := by
  have rv := vals_ints hi
  have lenV := hi.length
  have naT : a ≠ T := fun z => by
    rw [z, hT] at ha
    cases ha
  have hTok : ∀ H' : Hp, ObjOk P w H' s.heap T (.tbl #[]) := fun _ => hT
  cases hk : K.lookup a with
  | some o =>
    have e := KX a o hk
    rw [ha] at e
    cases e
    have at_ : ∀ {b : Addr} {u : HO}, upd (fun _ => none) T (.tbl #[]) b = some u → b = T ∧ u = .tbl #[] := fun {b u} z => by
      by_cases h : b = T
      · rw [h, upd_same] at z
        exact ⟨h, (Option.some.inj z).symm⟩
      · rw [upd_ne h] at z
        cases z
    refine entryT KX hns hb hbb hlim hg hT nT C hbm ha hr F hbind (upd (fun _ => none) T (.tbl #[])) upd_same (hsp _ upd_same (.inr ⟨_, vs.toArray, _, hk, rfl, rfl, rfl, by rw [List.size_toArray, lenV]; exact hl, by simpa using rv⟩)) (fun b u z => ?_) fun b u z => .inl (at_ z).1
    obtain ⟨rfl, rfl⟩ := at_ z
    exact hTok _
  | none =>
    have at_ : ∀ {b : Addr} {u : HO}, upd (upd (fun _ => none) T (.tbl #[])) a (.frz { cls := .type "list", data := .seq vs.toArray } (.lst (ns.map V.int))) b = some u → (b = T ∧ u = .tbl #[]) ∨ (b = a ∧ u = HO.frz { cls := .type "list", data := .seq vs.toArray } (.lst (ns.map V.int))) := fun {b u} z => by
      by_cases h : b = a
      · rw [h, upd_same] at z
        exact .inr ⟨h, (Option.some.inj z).symm⟩
      · rw [upd_ne h] at z
        by_cases h2 : b = T
        · rw [h2, upd_same] at z
          exact .inl ⟨h2, (Option.some.inj z).symm⟩
        · rw [upd_ne h2] at z
          cases z
    have hHT : upd (upd (fun _ => none) T (.tbl #[])) a (.frz { cls := .type "list", data := .seq vs.toArray } (.lst (ns.map V.int))) T = some (.tbl #[]) := by rw [upd_ne naT.symm, upd_same]
    refine entryT KX hns hb hbb hlim hg hT nT C hbm ha hr F hbind _ hHT (hsp _ hHT (.inl (.inr ⟨_, upd_same⟩))) (fun b u z => ?_) fun b u z => ?_
    · rcases at_ z with ⟨rfl, rfl⟩ | ⟨rfl, rfl⟩
      · exact hTok _
      · exact ⟨ha, by rw [List.length_map]; exact hl, vs, _, rv, ha⟩
    · rcases at_ z with ⟨e, rfl⟩ | ⟨e, rfl⟩
      · exact .inl e
      · exact .inr ⟨e, hk, _, _, rfl⟩
end
/-- what is known at the head's heap of the def of the name nm: its code object's table is empty -/
def TabOf (K : PySem.W.Frag) (mg : Str → Option Value) (nm : Str) (h : Heap) : Prop := ∀ (f c P : Addr) (o : Obj) (fd : FuncData) (e : Value) (dd : Option Addr) (vs : Array Value) (sl : Array (Option Value)), mg nm = some (.ref f) → K.lookup f = some o → o.data = .func fd → fd.code = .ref c → K.lookup c = some ⟨e, dd, .fields vs, sl⟩ → vs[11]? = some (.ref P) →
  h.get? P = some { cls := .none, data := .fields #[] } ∧ PySem.W.CodeHd h c P
theorem walk_ofGT {l : PySem.W.OpenLaw} {n k : Nat} {q : Program} {loose : List Str} {XP : (Str → Option Value) → Heap → Prop} {YP : World → Heap → Prop} {d : DefRec} {K : Params → PySem.W.Frag} {sp : World → Addr → Sp} {x nm : Str}
    (hn : l.most = some n) (hn2 : n ≤ sizeLine) (hdf : d.params.defaults = []) (hr : Room k callerA) (hrec : ((recsOf q).any fun e => e.name == nm) = true) (hY : ∀ (w : World) (h : Heap), YP w h → (K w.params).In h)
    (F : ∀ (w : World) (mg : Str → Option Value) (fa : Addr) (h : Heap), (K w.params).In h → h.Ns mainGlobals mg → mg d.name = some (.ref fa) → TabOf (K w.params) mg nm h →
      ∃ (fd : FuncData) (c T : Addr), h.get? T = some { cls := .none, data := .fields #[] } ∧ (K w.params).lookup T = none ∧ PySem.W.CodeHd h c T ∧ (∀ (s : Shared) (u : Value), BindsTo s fd ⟨[u], []⟩ [(x, u)]) ∧
        ∀ base : Heap, (K w.params).In base → base.Ns mainGlobals mg → TabB base mg c T → FnG l.prog w (K w.params) mg base CX0 k fa fd [x] (sp w T))
    (hsp : ∀ (w : World) (T : Addr) (H : Hp) (a : Addr) (ns : List Int), ns.length ≤ n → H T = some (.tbl #[]) → SqL (K w.params) H a (ns.map V.int) → sp w T [.ref a] H (fun v _ => v = .bl true) fun _ _ _ => False) :
    PySem.W.WalkO q loose XP YP l.row.toRowW d [] (fun f vs => PySem.call f vs) := by
  refine Att.attach_call hn hdf fun w s₀ s₁ mg mb fa o pm cd doc a vs ns G Y ho hd hcd hmg hobj hints hlen hg => ?_
  have KX := hY w _ Y
  have own : TabOf (K w.params) mg nm s₁.heap := fun f c P o1 fd1 e dd vs1 sl k0 k1 k2 k3 k4 k5 => by
    obtain ⟨dL, hm, hn1⟩ := List.any_eq_true.mp hrec
    have hn2 : dL.name = nm := beq_iff_eq.mp hn1
    obtain ⟨a', o', fd', c', P', h1, h2, h3, h4, h5, h6⟩ := G.T.tab dL hm
    rw [hn2, k0] at h1
    cases h1
    rw [KX _ _ k1] at h2
    cases h2
    rw [k2] at h3
    cases h3
    rw [k3] at h4
    cases h4
    have hc := PySem.W.CodeHd.of h5 h6
    obtain ⟨⟨oc, vc, e1, _, e3, e4⟩, hP⟩ := h6
    rw [KX _ _ k4] at e1
    cases e1
    cases e3
    rw [k5] at e4
    cases e4
    exact ⟨hP, hc⟩
  obtain ⟨fd, c, T, hT, nT, C, hb, hF⟩ := F w mg fa _ KX G.T.g hmg own
  exact lawT KX G.T.g G.T.b G.T.builtins G.T.nolimit hg hT nT C G.T.bmain hobj hints (Nat.le_trans hlen hn2) hr hF hb fun H hH hS => hsp w T H a ns hlen hH hS
end Ly

set_option maxRecDepth 100000
set_option maxHeartbeats 4000000
/-! set(..) and sorted(..) of a tuple of texts -/
namespace Ly
open PySem PySem.Spec PyProof.Rows L2
section
variable {P : Program} {w : World} {A : Around} {E : Value → Shared → Prop} {s : Shared}
set_option maxRecDepth 100000 in
set_option maxHeartbeats 3200000 in
theorem call_setT {l : Addr} {items : Array Value} (xs : List Str) {Q : Value → Shared → Prop} (hh : A.handled = none) (hl : IsTup s.heap l items) (hit : StrsAre items.toList xs) (hb : xs.length + 1 < scanBound)
    (h : ∀ (h' : Heap) (tk : Nat), SetS w h' s.heap.objs.size (dedS xs) → (∀ b o, s.heap.get? b = some o → h'.get? b = some o) → Q (.ref s.heap.objs.size) { s with heap := h', toks := tk }) :
    wpAny (model P w) A (call (.type "set") [.ref l]) Q E s := by
  have hisz : items.size = xs.length := by
    rw [← StrsAre.len_eq hit, Array.length_toList]
  obtain ⟨c, tl, hmro⟩ := F.called_set.mro
  have hmade := F.called_set.made
  have hsub := F.called_set.sub
  refine wpAny_call (codeAny_of_tree ?_)
  show wpAny _ _ (callAny (.type "set") _) _ _ _
  refine wpAny_pure ⟨Code.quiet_builtin _ (by decide +kernel), codeAny_builtin F.entry_type_call ?_⟩
  rw [Around.under_plain (weight_type_call_type "set" [.ref l] []) rfl]
  have h1 := F.called_set.notType
  have h2 := F.called_set.canCreate
  have hct := F.typeCall_set_1 (.ref l)
  repeat (any_goals (first | assumption | wp_step))
  refine codeAny_mono (code_set_led1 (.ref l) (E := E) (Q₁ := fun obj s₁ => obj = .ref s.heap.objs.size ∧ s₁ = { s with heap := s.heap.push { cls := .type "set", dict := none, data := .set #[] 0 (.fresh 0 0 (!w.params.followText "set-order")) } }) ⟨rfl, rfl⟩) fun r s₁ hr => ?_
  cases r with
  | error e => exact hr
  | ok fl =>
    cases fl with
    | ret obj =>
      obtain ⟨rfl, rfl⟩ := hr
      have hS : (s.heap.push { cls := .type "set", dict := none, data := .set #[] 0 (.fresh 0 0 (!w.params.followText "set-order")) }).get? s.heap.objs.size = some { cls := .type "set", dict := none, data := .set #[] 0 (.fresh 0 0 (!w.params.followText "set-order")) } := Heap.get?_push_size _ rfl
      have hT : Shared.TypeIs { s with heap := s.heap.push { cls := .type "set", dict := none, data := .set #[] 0 (.fresh 0 0 (!w.params.followText "set-order")) } } (.ref s.heap.objs.size) "set" := ⟨_, hS, rfl⟩
      have hli := F.called_set.init.lookup
      have hbi := F.called_set.init.bind (.ref s.heap.objs.size)
      repeat (any_goals (first | assumption | wp_step))
      refine codeAny_mono (codeAny_call_builtin (R := wants (fun r s₂ => r = .none ∧ ∃ h' tk, s₂ = { s with heap := h', toks := tk } ∧ SetS w h' s.heap.objs.size (dedS xs) ∧
          (∀ b o, s.heap.get? b = some o → h'.get? b = some o)) E) F.called_set.init.plain F.entry_set_init (check_set_init_1 hT ?_)) fun r₂ s₂ hr₂ => ?_
      · obtain ⟨ol, hol, hcl, nl, hdl⟩ := hl
        obtain ⟨ocls, odict, odata, oslots⟩ := ol
        simp only at hcl hdl
        subst hcl; subst hdl
        have hol' : (s.heap.push { cls := .type "set", dict := none, data := .set #[] 0 (.fresh 0 0 (!w.params.followText "set-order")) }).get? l = some { cls := .type "tuple", dict := odict, data := .seq items nl, slots := oslots } := Heap.get?_push_of_some _ hol
        have hsls := F.sub_tuple_set
        have hslf := F.sub_tuple_frozenset
        have hne : (Value.type "tuple" == Value.type "dict") = false := by decide
        have hl1 : IsTup (s.heap.push { cls := .type "set", dict := none, data := .set #[] 0 (.fresh 0 0 (!w.params.followText "set-order")) }) l items := ⟨_, hol', rfl, nl, rfl⟩
        unfold Builtin.«set.__init__» noKeywords Builtin.Frozenset.updateFrom
        generalize hPI : pyIter = PI
        wp_walk
        subst hPI
        refine wpAny_pyIter_tuple hl1 ?_
        refine wpAny_bind (wpAny_runValue ?_)
        have hlS : l < s.heap.objs.size := Heap.lt_size hol
        have hh3 : A.in1.in1.in1.handled = none := by simp [hh]
        have hneI : l ≠ (s.heap.push { cls := .type "set", dict := none, data := .set #[] 0 (.fresh 0 0 (!w.params.followText "set-order")) }).objs.size := by
          rw [Heap.size_push]; exact Nat.ne_of_lt (Nat.lt_succ_of_lt hlS)
        have hSf : s.heap.objs.size ∉ [(s.heap.push { cls := .type "set", dict := none, data := .set #[] 0 (.fresh 0 0 (!w.params.followText "set-order")) }).objs.size, l] := by
          rw [Heap.size_push]; simp only [List.mem_cons, List.mem_singleton, List.not_mem_nil, or_false, not_or]
          exact ⟨Nat.ne_of_lt (Nat.lt_succ_self _), Nat.ne_of_gt hlS⟩
        have hval : ∀ (i : Nat) (v : Value), items[i]? = some v → ∃ k t, xs[i]? = some k ∧ v = .str k t := fun i v hv => by
          have q : items.toList[i]? = some v := by rw [Array.getElem?_toList]; exact hv
          obtain ⟨t, e⟩ := SS.strs_at hit i v q
          have hlt : i < xs.length := by
            rw [← hisz]
            exact (Array.getElem?_eq_some_iff.mp hv).1
          refine ⟨xs[i], t, List.getElem?_eq_getElem hlt, ?_⟩
          rw [e, List.getD_eq_getElem?_getD, List.getElem?_eq_getElem hlt]
          rfl
        refine setS_loop ((Walks.tuple hh3 _ l hneI items).toS) s.heap.objs.size
          hSf xs hisz hb hval (items.size - 0) 0 _ (by omega) (Nat.zero_le _)
          ⟨⟨_, Heap.get?_push_size _ rfl, rfl, rfl⟩, (hl1.push _)⟩ ?hS0 ?hR
        case hS0 =>
          have hget : ((s.heap.push { cls := .type "set", dict := none, data := .set #[] 0 (.fresh 0 0 (!w.params.followText "set-order")) }).push { cls := .type "tuple_iterator", data := .fields #[.ref l, .int 0 0] }).get? s.heap.objs.size
              = some { cls := .type "set", dict := none, data := .set #[] 0 (.fresh 0 0 (!w.params.followText "set-order")) } := Heap.get?_push_of_some _ hS
          exact setS_fresh hget
        case hR =>
          intro s' hm hS'
          obtain ⟨h', g2, d', tk', os'⟩ := s'
          have eg : g2 = s.gens := hm.gens
          have ed : d' = s.drawn := hm.drawn
          have eo : os' = s.os := hm.os
          subst eg; subst ed; subst eo
          show wpAny _ _ _ _ _ _
          refine wpAny_pure ?_
          show wpAny _ _ (ret Value.none) _ _ _
          refine wpAny_pure ⟨rfl, h', tk', rfl, hS', fun b o e => ?_⟩
          have hbl : b < s.heap.objs.size := Heap.lt_size e
          have hb1 : b ≠ s.heap.objs.size := Nat.ne_of_lt hbl
          have hb2 : b ≠ (s.heap.push { cls := .type "set", dict := none, data := .set #[] 0 (.fresh 0 0 (!w.params.followText "set-order")) }).objs.size := by
            rw [Heap.size_push]; exact Nat.ne_of_lt (Nat.lt_succ_of_lt hbl)
          exact hm.heap b o (by simp only [List.mem_cons, List.mem_singleton, List.not_mem_nil, or_false, not_or]; exact ⟨hb1, hb2⟩) (Heap.get?_push_of_some _ (Heap.get?_push_of_some _ e))
      · cases r₂ with
        | error e => exact hr₂
        | ok fl₂ =>
          cases fl₂ with
          | ret r =>
            obtain ⟨rfl, h', tk, rfl, hS', hk'⟩ := hr₂
            repeat (any_goals (first | assumption | wp_step))
            exact h _ _ hS' hk'
          | _ => exact hr₂.elim
    | _ => exact hr.elim
end
section
variable {X : Cx}
/-- set(t), a tuple of texts -/
def rSetT (K : PySem.W.Frag) (w : World) : List V → Hp → VK → Prop := fun vs H Q => ∃ (l : Addr) (xs : List Str), vs = [.ref l] ∧ SqT K H l (xs.map V.str) ∧ xs.length ≤ 2000 ∧ ∀ p, H p = none → Q (.ref p) (upd H p (SetSO w p (dedS xs)))
theorem cr_setT (K : PySem.W.Frag) (w : World) (hc : X.calm = true) (hK : X.K = K := by rfl) (hw : X.w = w := by rfl) : CallR X (.type "set") (rSetT K w) := by
  subst hK
  subst hw
  intro pins s σ H vs us Q I r h
  obtain ⟨l, xs, rfl, hl, hz, q⟩ := h
  rw [Vals.ref1 r]
  obtain ⟨its, rv, pl, _⟩ := I.tuple hl
  refine call_setT xs (I.ok.hd hc) pl (by simpa using strsAre_of rv) (by unfold scanBound; omega) fun h' tk R k => ?_
  exact ⟨.ref s.heap.objs.size, upd H s.heap.objs.size (SetSO X.w s.heap.objs.size (dedS xs)), I.laid (t' := tk) k (Nat.le_refl _) (setSO_new R), rfl, q _ (I.hok.fresh (Nat.le_refl _))⟩
/-- sorted(t), a tuple of texts -/
def rSortedTS (K : PySem.W.Frag) : List V → Hp → VK → Prop := fun vs H Q => ∃ (a : Addr) (xs : List Str), vs = [V.ref a] ∧ SqT K H a (xs.map V.str) ∧ ∀ (ys : List Str) (p : Addr), ys.Perm xs → sortedS ys = true → H p = none → Q (.ref p) (upd H p (.lst (ys.map V.str)))
theorem cr_sortedTS (K : PySem.W.Frag) (hK : X.K = K := by rfl) : CallR X (.builtin "sorted") (rSortedTS K) := by
  subst hK
  intro pins s σ H vs us Q I r h
  obtain ⟨a, xs, rfl, hs, q⟩ := h
  obtain ⟨its, rv, hl, hz⟩ := I.tuple hs
  rw [Vals.ref1 r]
  have hlen0 := rv.length
  have hS := rv.strs
  obtain ⟨o, ho, hc, n, hd⟩ := hl
  refine Calls.call_function_entry kind_sorted plain_sorted entry_sorted (args_sorted1 _) ?_
  unfold Builtin.«sorted»
  refine wpAny_bind (m := checkCount "sorted" 1 1 _) (wpAny_pure ?_)
  refine wpAny_bind (wpAny_collect_seq a (.inr rfl) ho hc hd (fun h' kp => ?_) (by simp only [List.size_toArray]; omega))
  have I' : Inv X pins σ H { s with heap := h' } := I.kept (t' := s.toks) kp
  have hL : its.length ≤ sizeLine := by omega
  show wpAny _ _ _ _ _ { s with heap := h' }
  refine wpAny_bind (wpAny_newList ?_ hL)
  have hoL : (h'.push (seqObj "list" its.toArray 0)).get? h'.objs.size = some (seqObj "list" its.toArray 0) := Heap.get?_push_size _ rfl
  show wpAny _ _ _ _ _ { s with heap := h'.push (seqObj "list" its.toArray 0) }
  refine wpAny_bind (wpAny_holding (wpAny_call_entry slot_list_sort ⟨_, hoL, rfl⟩ entry_list_sort (list_sort_treeKAny strKind_oneLt hoL hS.keysOf (fun v₁ v₂ rest e => keyKind_strs (by rw [← e]; exact hS)) hL fun st' hp hs => ⟨_, rfl, ?_⟩) (args_list_sort _)))
  obtain ⟨ys, h1, h2, h3⟩ := sorted_out_str hS hp hs
  obtain ⟨ep, he'⟩ := PyProof.Rows.sortedHeap_at (vs := its) (out := (arrOf st').map (·.2)) hoL
  have hlen : (ys.map V.str).length ≤ sizeLine := by
    rw [List.length_map, h2.length_eq]
    rw [List.length_map] at hz
    exact hz
  refine wpAny_pure ⟨_, rfl, .ref h'.objs.size, upd H h'.objs.size (.lst (ys.map V.str)), I'.laid (t' := s.toks) (fun b u hb => ?_) (Nat.le_refl _) ⟨hlen, _, ep, vals_of_strs h1, he'⟩, rfl, q ys _ h2 h3 (I'.hok.fresh (Nat.le_refl _))⟩
  have hb' : (h'.push (seqObj "list" its.toArray 0)).get? b = some u := Heap.get?_push_of_some _ hb
  rw [sortedHeap_old (Nat.ne_of_lt (Heap.lt_size hb)) (Heap.lt_size hb')]
  exact hb'
end
end Ly

set_option maxRecDepth 100000
set_option maxHeartbeats 4000000
/-! interfaces: ports, step functions, profiles -/
namespace Ly
open PySem PySem.Spec PyProof.Rows L2 LamX
def PortsOk (xs : List Str) : Prop := (∀ x ∈ xs, nameOk x = true) ∧ xs.Nodup ∧ xs.length ≤ 8
abbrev Fnc := List Str × List Str
def FnV (_K : PySem.W.Frag) (H : Hp) (f : Fnc) (v : V) : Prop := ∃ t a b, v = .ref t ∧ Rd H t (.tup [.ref a, .ref b]) ∧ Rd H a (.tup (f.1.map V.str)) ∧ Rd H b (.tup (f.2.map V.str))
theorem FnV.sq {K : PySem.W.Frag} {H : Hp} {f : Fnc} {v : V} (h : FnV K H f v) : ∃ t a b, v = .ref t ∧ SqT K H t [.ref a, .ref b] ∧ SqT K H a (f.1.map V.str) ∧ SqT K H b (f.2.map V.str) := let ⟨t, a, b, e, h1, h2, h3⟩ := h; ⟨t, a, b, e, .inl h1, .inl h2, .inl h3⟩
theorem pl_getF {K : PySem.W.Frag} {H : Hp} {l : List Fnc} {us : List V} {j : Nat} {z : V} (h : Paired (FnV K H) l us) (e : us[j]? = some z) : ∃ g, l[j]? = some g ∧ ∃ t a b, z = .ref t ∧ SqT K H t [.ref a, .ref b] ∧ SqT K H a (g.1.map V.str) ∧ SqT K H b (g.2.map V.str) := let ⟨g, h1, h2⟩ := pl_get h e; ⟨g, h1, h2.sq⟩
theorem rd_inj {H : Hp} {a : Addr} {xs ys : List V} (h : Rd H a (.tup xs)) (h' : Rd H a (.tup ys)) : xs = ys := by
  rcases h with h | ⟨o, h⟩ <;> rcases h' with h' | ⟨o', h'⟩ <;> rw [h] at h' <;> cases h' <;> rfl
theorem map_str_inj {l m : List Str} (h : l.map V.str = m.map V.str) : l = m := by
  induction l generalizing m with
  | nil => cases m with
    | nil => rfl
    | cons y m => cases h
  | cons x l ih => cases m with
    | nil => cases h
    | cons y m =>
      injection h with h1 h2
      injection h1 with h1
      rw [h1, ih h2]
theorem FnV.inj {K : PySem.W.Frag} {H : Hp} {f g : Fnc} {v : V} (h : FnV K H f v) (h' : FnV K H g v) : f = g := by
  obtain ⟨t, a, b, rfl, h1, h2, h3⟩ := h
  obtain ⟨t', a', b', e, h1', h2', h3'⟩ := h'
  cases e
  have e := rd_inj h1 h1'
  cases e
  exact Prod.ext (map_str_inj (rd_inj h2 h2')) (map_str_inj (rd_inj h3 h3'))
theorem rd_extN {H H' : Hp} {l : Addr} {xs : List V} (e : ExtN H H') (h : Rd H l (.tup xs)) : Rd H' l (.tup xs) := by
  rcases h with h | ⟨o, h⟩
  · exact .inl (e _ _ h fun _ z => by cases z)
  · exact .inr ⟨o, e _ _ h fun _ z => by cases z⟩
/-- a tuple whose object is known, without a dict of its own: its methods can be looked up -/
def KnT (H : Hp) (a : Addr) (xs : List V) : Prop := ∃ ob, H a = some (.frz ob (.tup xs)) ∧ ob.dict = none
theorem KnT.sqt {K : PySem.W.Frag} {H : Hp} {a : Addr} {xs : List V} (h : KnT H a xs) : SqT K H a xs := let ⟨ob, e, _⟩ := h; .inl (.inr ⟨ob, e⟩)
def IfV (K : PySem.W.Frag) (H : Hp) (i o : List Str) (pr : List Fnc) (v : V) : Prop := ∃ t a b c fs, v = .ref t ∧ SqT K H t [.ref a, .ref b, .ref c] ∧ SqT K H a (i.map V.str) ∧ KnT H b (o.map V.str) ∧ SqT K H c fs ∧ Paired (FnV K H) pr fs
theorem sqT_extN {K : PySem.W.Frag} {H H' : Hp} {l : Addr} {xs : List V} (e : ExtN H H') (h : SqT K H l xs) : SqT K H' l xs := by
  rcases h with (h | ⟨o, h⟩) | h
  · exact .inl (.inl (e _ _ h fun _ z => by cases z))
  · exact .inl (.inr ⟨o, e _ _ h fun _ z => by cases z⟩)
  · exact .inr h
theorem extN_of {H H' : Hp} (s : Same H H') : ExtN H H' := fun b o e _ => s b o e
theorem FnV.ext {K : PySem.W.Frag} {H H' : Hp} {f : Fnc} {v : V} (h : FnV K H f v) (e : ExtN H H') : FnV K H' f v := by
  obtain ⟨t, a, b, rfl, h1, h2, h3⟩ := h
  exact ⟨t, a, b, rfl, rd_extN e h1, rd_extN e h2, rd_extN e h3⟩
theorem KnT.ext {H H' : Hp} {a : Addr} {xs : List V} (h : KnT H a xs) (e : ExtN H H') : KnT H' a xs := let ⟨ob, h1, h2⟩ := h; ⟨ob, e _ _ h1 (fun _ z => by cases z), h2⟩
theorem KnT.same {H H' : Hp} {a : Addr} {xs : List V} (h : KnT H a xs) (s : Same H H') : KnT H' a xs := h.ext (extN_of s)
theorem IfV.ext {K : PySem.W.Frag} {H H' : Hp} {i o : List Str} {pr : List Fnc} {v : V} (h : IfV K H i o pr v) (e : ExtN H H') : IfV K H' i o pr v := by
  obtain ⟨t, a, b, c, fs, rfl, h1, h2, h3, h4, h5⟩ := h
  exact ⟨t, a, b, c, fs, rfl, sqT_extN e h1, sqT_extN e h2, h3.ext e, sqT_extN e h4, paired_imp (fun _ _ z => z.ext e) h5⟩
/-- the place of the first output among the outputs -/
def firstAt (o : List Str) (f : Fnc) : Nat := o.idxOf (f.1.headD Str.empty)
structure ProfOk (i o : List Str) (pr : List Fnc) : Prop where
  each : ∀ f ∈ pr, PortsOk f.1 ∧ f.1 ≠ [] ∧ f.1 = o.filter (fun x => decide (x ∈ f.1)) ∧ PortsOk f.2 ∧ f.2 = i.filter fun x => decide (x ∈ f.2)
  all : (pr.flatMap (·.1)).Perm o
  ord : (pr.map (firstAt o)).Pairwise (· ≤ ·)
theorem ty_tup {K : PySem.W.Frag} {H : Hp} {a : Addr} {xs : List V} (h : SqT K H a xs) : TyX K H (.ref a) (.type "tuple") := by
  rcases h with (h | ⟨o, h⟩) | ⟨o, its, n, h, hc, _⟩
  · exact .base (.tup h)
  · exact .fTuple h
  · exact .kTuple h hc
theorem kit_tup {K : PySem.W.Frag} : PySem.W.kitOne K (.type "tuple") (.type "tuple") = some true := kit_ty (by decide +kernel)
def spPorts (K : PySem.W.Frag) : Sp := fun vs H Q _ => ∃ (t : Addr) (xs : List Str), vs = [.ref t] ∧ SqT K H t (xs.map V.str) ∧ PortsOk xs ∧ ∀ H', Same H H' → Q (.bl true) H'
def spPartOf (K : PySem.W.Frag) : Sp := fun vs H Q _ => ∃ (t n : Addr) (xs ns : List Str), vs = [.ref t, .ref n] ∧ SqT K H t (xs.map V.str) ∧ SqT K H n (ns.map V.str) ∧ PortsOk xs ∧ PortsOk ns ∧ xs = ns.filter (fun x => decide (x ∈ xs)) ∧ ∀ H', Same H H' → Q (.bl true) H'
def rTupIdx (K : PySem.W.Frag) : V → List V → Hp → VK → Prop := fun x xs H Q => ∃ p, ∃ ys : List Str, ∃ z j, x = .ref p ∧ xs = [.str z] ∧ SqT K H p (ys.map V.str) ∧ ys[j]? = some z ∧ (∀ m, m < j → ys[m]? ≠ some z) ∧ Q (.int (j : Nat)) H
theorem mt_tup_indexK {X : Cx} (K : PySem.W.Frag) (hK : X.K = K := by rfl) : MtR X "tuple.index" (rTupIdx K) := hK ▸ mt_tup_index
theorem pe_bmK {X : Cx} (K : PySem.W.Frag) {T : String} {name : Str} {id : String} {r : V → List V → Hp → VK → Prop} {o e : Expr} {es : List Expr} {apos cpos : Pos} {to : TE} {t : TA} (pa : PlainAttrs T) (slot : Slot T name id) (hty : typeOf (.builtin id) = pure (.type "method_descriptor")) (hm : MtR X id r) (ho : PE X o to) (ha : PA X (e :: es) t) (hK : X.K = K := by rfl)
    (hbase : attributeBase o name X.env (eval o X.env) = eval o X.env := by rfl)
    (hfew : ((backTo cpos (starEach (e :: es) X.env)).all (fun x => !x.1) && (backToKw cpos (keywordEach [] X.env)).all (fun x => x.1.isSome)
      && decide ((e :: es).length + ([] : List Keyword).length + (if ([] : List Keyword).isEmpty then 0 else 1) < 30)) = true := by rfl)
    (hline : (apos.endLine == cpos.line) = true := by rfl) (hs : starEach (e :: es) X.env = (false, eval e X.env) :: starEach es X.env := by rfl) (hplain : (backTo cpos (starEach es X.env)).any (·.1) = false := by rfl) :
    PE X (.Call (.Attribute o name apos) (e :: es) [] cpos) (tBM K T r to t) := hK ▸ pe_bm pa slot hty hm ho ha hbase hfew hline hs hplain
theorem it_tup {K : PySem.W.Frag} {a : Addr} {xs : List V} {H0 : Hp} {Done : Hp → Prop} {B : V → Hp → (Hp → Prop) → Prop} (Pv : Nat → Hp → Prop) (h0 : Pv 0 H0) (hl : ∀ i H, Pv i H → SqT K H a xs) (hs : ∀ i x H, xs[i]? = some x → Pv i H → B x H (Pv (i + 1))) (hd : ∀ H, Pv xs.length H → Done H) :
    ∃ W : Nat → Nat → Hp → Prop, (∃ m, W 0 m H0) ∧ ∀ i m H, W i m H → ((Itt K a).stop i H ∧ Done H) ∨ ((Itt K a).go i H ∧ ∃ Nx : Hp → Prop, (∀ H', Nx H' → ∃ m', m' < m ∧ W (i + 1) m' H') ∧ ∀ x H', (Itt K a).yld i H x H' → B x H' Nx) := by
  refine ⟨fun i m H => i + m = xs.length ∧ Pv i H, ⟨xs.length, Nat.zero_add _, h0⟩, fun i m H ⟨e, p⟩ => ?_⟩
  have q := hl i H p
  cases m with
  | zero =>
    have e' : i = xs.length := e
    exact .inl ⟨⟨xs, q, Nat.le_of_eq e'.symm⟩, hd H (e' ▸ p)⟩
  | succ m =>
    have hi : i < xs.length := by omega
    refine .inr ⟨⟨xs, xs[i], q, List.getElem?_eq_getElem hi⟩, Pv (i + 1), fun H' p' => ⟨m, Nat.lt_succ_self m, by omega, p'⟩, fun x H' y => ?_⟩
    have y2 := y.2 xs q
    have y1 := y.1
    subst y1
    exact hs i x _ y2 p
theorem it_lst {K : PySem.W.Frag} {a : Addr} {xs : List V} {H0 : Hp} {Done : Hp → Prop} {B : V → Hp → (Hp → Prop) → Prop} (Pv : Nat → Hp → Prop) (h0 : Pv 0 H0) (hl : ∀ i H, Pv i H → SqL K H a xs) (hs : ∀ i x H, xs[i]? = some x → Pv i H → B x H (Pv (i + 1))) (hd : ∀ H, Pv xs.length H → Done H) :
    ∃ W : Nat → Nat → Hp → Prop, (∃ m, W 0 m H0) ∧ ∀ i m H, W i m H → ((Itl K a).stop i H ∧ Done H) ∨ ((Itl K a).go i H ∧ ∃ Nx : Hp → Prop, (∀ H', Nx H' → ∃ m', m' < m ∧ W (i + 1) m' H') ∧ ∀ x H', (Itl K a).yld i H x H' → B x H' Nx) := by
  refine ⟨fun i m H => i + m = xs.length ∧ Pv i H, ⟨xs.length, Nat.zero_add _, h0⟩, fun i m H ⟨e, p⟩ => ?_⟩
  have q := hl i H p
  cases m with
  | zero =>
    have e' : i = xs.length := e
    exact .inl ⟨⟨xs, q, Nat.le_of_eq e'.symm⟩, hd H (e' ▸ p)⟩
  | succ m =>
    have hi : i < xs.length := by omega
    refine .inr ⟨⟨xs, xs[i], q, List.getElem?_eq_getElem hi⟩, Pv (i + 1), fun H' p' => ⟨m, Nat.lt_succ_self m, by omega, p'⟩, fun x H' y => ?_⟩
    have y2 := y.2 xs q
    have y1 := y.1
    subst y1
    exact hs i x _ y2 p
theorem all_rep (n : Nat) : (List.replicate n true).all id = true := by
  rw [List.all_eq_true]
  intro b hb
  rw [List.eq_of_mem_replicate hb]
  rfl
theorem rep_snoc (n : Nat) : (List.replicate (n + 1) true).map V.bl = (List.replicate n true).map V.bl ++ [.bl true] := by
  rw [List.replicate_succ', List.map_append]
  rfl
theorem FnV.same {K : PySem.W.Frag} {H H' : Hp} {f : Fnc} {v : V} (h : FnV K H f v) (s : Same H H') : FnV K H' f v := h.ext (extN_of s)
theorem shp_tx {l : List Str} (h : ∀ x ∈ l, OkS x) : SeqAt.shaped (.tuple (l.map PyData.str)) = true := shp_strs h
theorem prof_len {i o : List Str} {pr : List Fnc} (h : ProfOk i o pr) (ho : PortsOk o) : pr.length ≤ 8 := by
  have key : ∀ l : List Fnc, (∀ f ∈ l, f.1 ≠ []) → l.length ≤ (l.flatMap (·.1)).length := by
    intro l
    induction l with
    | nil => intro _; simp
    | cons f l ih =>
      intro h
      have h1 := ih fun g hg => h g (List.mem_cons_of_mem _ hg)
      have h2 := List.length_pos_iff.mpr (h f List.mem_cons_self)
      rw [List.flatMap_cons, List.length_append, List.length_cons]
      omega
  have h1 := key pr fun f hf => (h.each f hf).2.1
  rw [h.all.length_eq] at h1
  exact Nat.le_trans h1 ho.2.2
theorem rising_pw : ∀ (l : List Str) (p : Str), risingS p l = true → (p :: l).Pairwise fun a b => ¬ b.cps.toList < a.cps.toList
  | [], p, _ => by simp
  | x :: r, p, h => by
    have h : (!PySem.Spec.ltCps x.cps.toList p.cps.toList && risingS x r) = true := h
    rw [Bool.and_eq_true, Bool.not_eq_true', ltCps_eq, decide_eq_false_iff_not] at h
    have ih := rising_pw r x h.2
    refine List.pairwise_cons.mpr ⟨fun y hy => ?_, ih⟩
    rcases List.mem_cons.mp hy with rfl | hy
    · exact h.1
    · have hxy := (List.pairwise_cons.mp ih).1 y hy
      intro hyp
      rcases nl_tri x.cps.toList y.cps.toList with e | e | e
      · exact h.1 (e ▸ hyp)
      · exact h.1 (nl_trans e hyp)
      · exact hxy e
theorem sortedS_pw {l : List Str} (h : sortedS l = true) : l.Pairwise fun a b => ¬ b.cps.toList < a.cps.toList := by
  cases l with
  | nil => exact .nil
  | cons x r => exact rising_pw r x h
theorem sortedS_one {l m : List Str} (hl : sortedS l = true) (hm : sortedS m = true) (hp : l.Perm m) : l = m :=
  List.Perm.eq_of_pairwise (le := fun a b : Str => ¬ b.cps.toList < a.cps.toList) (fun a b _ _ h1 h2 => by
    rcases nl_tri a.cps.toList b.cps.toList with e | e | e
    · exact str_ext e
    · exact absurd e h2
    · exact absurd e h1) (sortedS_pw hl) (sortedS_pw hm) hp
theorem ints_one {l m : List Int} (hl : l.Pairwise (· ≤ ·)) (hm : m.Pairwise (· ≤ ·)) (hp : l.Perm m) : l = m :=
  List.Perm.eq_of_pairwise (le := (· ≤ ·)) (fun a b _ _ h1 h2 => Int.le_antisymm h1 h2) hl hm hp
theorem dps_nums {K : PySem.W.Frag} {H : Hp} : ∀ ns : List Int, DpAll K H (ns.map V.int) (ns.map .int)
  | [] => .nil
  | n :: ns => .cons (.int n) (dps_nums ns)
theorem eqv_strs (xs : List Str) : PyData.eqv (.list (xs.map .str)) (.list (xs.map .str)) = true := eqv_all (f := PyData.str) (fun x => by show (x == x) = true; simp) xs
theorem eqv_nums (xs : List Int) : PyData.eqv (.list (xs.map .int)) (.list (xs.map .int)) = true := eqv_all (f := PyData.int) (fun x => by show (x == x) = true; simp) xs
def tBMT (r : V → List V → Hp → VK → Prop) (to : TE) (t : TA) : TE := fun σ H Q => to σ H fun x H1 => (∃ a xs, x = .ref a ∧ KnT H1 a xs) ∧ t σ H1 fun vs H2 => r x vs H2 Q
theorem pe_bmT {X : Cx} {name : Str} {id : String} {r : V → List V → Hp → VK → Prop} {o e : Expr} {es : List Expr} {apos cpos : Pos} {to : TE} {t : TA} (slot : Slot "tuple" name id) (hty : typeOf (.builtin id) = pure (.type "method_descriptor")) (hm : MtR X id r) (ho : PE X o to) (ha : PA X (e :: es) t)
    (hbase : attributeBase o name X.env (eval o X.env) = eval o X.env := by rfl)
    (hfew : ((backTo cpos (starEach (e :: es) X.env)).all (fun x => !x.1) && (backToKw cpos (keywordEach [] X.env)).all (fun x => x.1.isSome)
      && decide ((e :: es).length + ([] : List Keyword).length + (if ([] : List Keyword).isEmpty then 0 else 1) < 30)) = true := by rfl)
    (hline : (apos.endLine == cpos.line) = true := by rfl) (hs : starEach (e :: es) X.env = (false, eval e X.env) :: starEach es X.env := by rfl) (hplain : (backTo cpos (starEach es X.env)).any (·.1) = false := by rfl) :
    PE X (.Call (.Attribute o name apos) (e :: es) [] cpos) (tBMT r to t) := by
  refine ⟨fun pins s σ H Q I h => ?_⟩
  refine wpAny_Call_method_late hbase hfew hline rfl (thn (ho.run pins s σ H _ I h) fun v s1 ⟨x, H1, I1, r1, ⟨a, xs, ex, ob, hx, hd⟩, q1⟩ => ?_)
  subst ex
  obtain rfl : v = Value.ref a := r1
  obtain ⟨g1, _, its, _, o', ho', hc', _⟩ := I1.hok a _ hx
  rw [g1] at ho'
  cases ho'
  refine ⟨"tuple", id, PySem.F.plainAttrs_tuple, slot, hty, ⟨ob, g1, hc'⟩, fun b eb => by cases eb; exact ⟨ob, g1, hd⟩, ?_⟩
  have hA := ha.run cpos pins s1 σ H1 _ I1 q1
  rw [hs] at hA ⊢
  refine Calls.callWith_builtin (by show (false || (backTo cpos (starEach es X.env)).any (·.1)) = false; rw [hplain] <;> rfl) (Calls.evalArgs_plain ?_)
  exact thn hA fun us s2 ⟨vs, H2, I2, r2, q2⟩ => hm pins s2 σ H2 (.ref a) vs (.ref a) us Q I2 rfl r2 q2
theorem idx_first {o : List Str} {y : Str} : ∀ m, m < o.idxOf y → o[m]? ≠ some y := by
  induction o with
  | nil => intro m hm; simp at hm
  | cons x r ih =>
    intro m hm
    rw [List.idxOf_cons] at hm
    by_cases e : (x == y) = true
    · rw [e] at hm
      simp at hm
    · rw [Bool.not_eq_true] at e
      rw [e] at hm
      cases m with
      | zero =>
        intro z
        rw [List.getElem?_cons_zero] at z
        rw [Option.some.inj z] at e
        simp at e
      | succ m =>
        rw [List.getElem?_cons_succ]
        exact ih m (by simpa using hm)
theorem shp_nums (ns : List Int) : SeqAt.shaped (.list (ns.map PyData.int)) = true := by
  obtain ⟨h1, h2⟩ := shp_list (f := PyData.int) (k := 0) (by decide) (l := ns) fun x _ => ⟨rfl, Nat.le_refl _⟩
  show (PyData.canLayAll0 (ns.map PyData.int) && decide (PyData.depthAll (ns.map PyData.int) + 1 ≤ 64)) = true
  rw [h1, decide_eq_true (show PyData.depthAll (ns.map PyData.int) + 1 ≤ 64 by omega)]
  rfl
theorem catA_to {K : PySem.W.Frag} {H : Hp} {a b : Addr} {xs ys : List V} {Q : VK} (ha : SqT K H a xs) (hb : SqT K H b ys) (hz : xs.length + ys.length ≤ sizeLine) (h : ∀ p H', Same H H' → SqT K H' p (xs ++ ys) → Q (.ref p) H') : rCatA K (.ref a) (.ref b) H Q := by
  refine ⟨a, b, xs, ys, rfl, rfl, ha, hb, hz, fun e => ?_, fun _ e => ?_, fun _ _ p hp => ?_⟩
  · refine h b H (Same.refl H) ?_
    rw [e]
    exact hb
  · refine h a H (Same.refl H) ?_
    rw [e, List.append_nil]
    exact ha
  · exact h p _ (same_new hp) (SqT.of upd_same)
def spProfile (K : PySem.W.Frag) : Sp := fun vs H Q _ => ∃ (t a b : Addr) (fs : List V) (i o : List Str) (pr : List Fnc), vs = [.ref t, .ref a, .ref b] ∧ SqT K H t fs ∧ Paired (FnV K H) pr fs ∧ SqT K H a (i.map V.str) ∧ KnT H b (o.map V.str) ∧ PortsOk i ∧ PortsOk o ∧ ProfOk i o pr ∧ ∀ H', Same H H' → Q (.bl true) H'
def spIsIf (K : PySem.W.Frag) : Sp := fun vs H Q _ => ∃ (v : V) (i o : List Str) (pr : List Fnc), vs = [v] ∧ IfV K H i o pr v ∧ PortsOk i ∧ PortsOk o ∧ (i ++ o).Nodup ∧ ProfOk i o pr ∧ ∀ H', Same H H' → Q (.bl true) H'
end Ly

set_option maxRecDepth 100000
set_option maxHeartbeats 4000000
/-! a tuple whose object is known; a def whose code object's address is told -/
namespace Ly
open PySem PySem.Spec PyProof.Rows L2 LamX
section
variable {X : Cx}
/-- tuple(l), its object told -/
def rTupF (K : PySem.W.Frag) : List V → Hp → VK → Prop := fun vs H Q => ∃ p ys, vs = [.ref p] ∧ SqL K H p ys ∧ ∀ l ob, H l = none → ob.dict = none → Q (.ref l) (upd H l (.frz ob (.tup ys)))
theorem call_tupleF (K : PySem.W.Frag) (hK : X.K = K := by rfl) : CallR X (.type "tuple") (rTupF K) := by
  subst hK
  intro pins s σ H vs us Q I r h
  obtain ⟨p, ys, rfl, hq, q⟩ := h
  obtain ⟨u, rfl, ru⟩ := vals1 r
  obtain rfl : u = Value.ref p := ru
  obtain ⟨its, r', pl, hz⟩ := I.list hq
  have hlen := r'.length
  refine call_tuple_list pl.isList (fun h' kp => ?_) (by simp only [List.size_toArray]; omega)
  have I1 : Inv X pins σ H { s with heap := h' } := I.kept (t' := s.toks) kp
  have I2 : Inv X pins σ (upd H h'.objs.size (.frz { cls := .type "tuple", data := .seq its.toArray } (.tup ys))) { s with heap := h'.push { cls := .type "tuple", data := .seq its.toArray } } :=
    I1.laid (t' := s.toks) (fun b o e => Heap.get?_push_of_some _ e) (Nat.le_refl _) ⟨Heap.get?_push_size _ rfl, hz, its, r', IsTup.new _ _⟩
  exact ⟨.ref h'.objs.size, _, I2, rfl, q _ _ (I1.hok.fresh (Nat.le_refl _)) rfl⟩
end
theorem op_notInDK {X : Cx} (K : PySem.W.Frag) (hu : X.A.units + 65 < cLine) (hK : X.K = K := by rfl) : OpR X (compareOp .NotIn) (rNotInD K) := hK ▸ op_notInD hu
theorem hu65 {A : Around} {k : Nat} (hr : Room k A) : A.units + 65 < cLine := by have := hr.un; omega
abbrev lamQ : Str := "merged.<locals>.<lambda>"
def mBoth (pr : List Fnc) (x y : Str) : List Fnc := pr.filter fun f => decide (x ∈ f.1) || decide (y ∈ f.1)
def mWhole (i o : List Str) (pr : List Fnc) (x y : Str) : Fnc := (o.filter fun z => decide (z ∈ (mBoth pr x y).flatMap (·.1)), i.filter fun z => decide (z ∈ (mBoth pr x y).flatMap (·.2)))
def mAll (i o : List Str) (pr : List Fnc) (x y : Str) : List Fnc := mWhole i o pr x y :: pr.filter fun f => !decide (f ∈ mBoth pr x y)
def mProf (i o : List Str) (pr : List Fnc) (x y : Str) : List Fnc := (mAll i o pr x y).mergeSort fun f g => decide (firstAt o f ≤ firstAt o g)
def spMerged (K : PySem.W.Frag) (T : Addr) : Sp := fun vs H Q _ => ∃ (v : V) (i o : List Str) (pr : List Fnc) (x y : Str), vs = [v, .str x, .str y] ∧ IfV K H i o pr v ∧ PortsOk i ∧ PortsOk o ∧ ProfOk i o pr ∧ x ∈ o ∧ y ∈ o ∧ Tabs [(T, lamQ)] H ∧
  ∀ v' H', ExtN H H' → Tabs [(T, lamQ)] H' → IfV K H' i o (mProf i o pr x y) v' → Q v' H'
theorem flat_len {g : Fnc → List Str} : ∀ l : List Fnc, (∀ f ∈ l, (g f).length ≤ 8) → (l.flatMap g).length ≤ 8 * l.length
  | [], _ => by simp
  | f :: l, h => by
    have h1 := flat_len l fun z hz => h z (List.mem_cons_of_mem _ hz)
    have h2 := h f List.mem_cons_self
    rw [List.flatMap_cons, List.length_append, List.length_cons]
    omega
theorem flat_part {g : Fnc → List Str} {l : List Fnc} (h : ∀ f ∈ l, (g f).length ≤ 8) (hl : l.length ≤ 8) {j m : Nat} {f : Fnc} (hf : l[j]? = some f) : ((l.take j).flatMap g ++ (g f).take m).length ≤ 64 := by
  have hj := (List.getElem?_eq_some_iff.mp hf).1
  have h1 := flat_len (g := g) (l.take j) fun z hz => h z (List.mem_of_mem_take hz)
  have h2 := h f (List.mem_of_getElem? hf)
  have h3 : ((g f).take m).length ≤ (g f).length := by rw [List.length_take]; omega
  rw [List.length_take] at h1
  rw [List.length_append]
  omega
def dFn (f : Fnc) : PyData := .tuple [dTx f.1, dTx f.2]
theorem fnV_dp {K : PySem.W.Frag} {H : Hp} {f : Fnc} {v : V} (h : FnV K H f v) : Dp K H v (dFn f) := by
  obtain ⟨t, a, b, rfl, h1, h2, h3⟩ := h.sq
  exact .tup h1 (.cons (dp_strs h2) (.cons (dp_strs h3) .nil))
theorem dps_fns {K : PySem.W.Frag} {H : Hp} : ∀ {l : List Fnc} {us : List V}, Paired (FnV K H) l us → DpAll K H us (l.map dFn)
  | _, _, .nil => .nil
  | _, _, .cons h t => .cons (fnV_dp h) (dps_fns t)
theorem eqvAll_strs : ∀ l m : List Str, PyData.eqvAll (l.map .str) (m.map .str) = decide (l = m)
  | [], [] => rfl
  | [], _ :: _ => rfl
  | _ :: _, [] => rfl
  | x :: l, y :: m => by
    show ((x == y) && PyData.eqvAll (l.map .str) (m.map .str)) = decide (x :: l = y :: m)
    rw [eqvAll_strs l m]
    by_cases h : x = y
    · rw [h]
      by_cases h2 : l = m
      · rw [h2]; simp
      · rw [decide_eq_false h2, decide_eq_false (fun z => h2 (List.cons.inj z).2)]; simp
    · rw [decide_eq_false (fun z => h (List.cons.inj z).1), beq_eq_false_iff_ne.mpr h]
      rfl
theorem eqv_fn (f g : Fnc) : PyData.eqv (dFn f) (dFn g) = decide (f = g) := by
  show (PyData.eqvAll (f.1.map .str) (g.1.map .str) && (PyData.eqvAll (f.2.map .str) (g.2.map .str) && true)) = decide (f = g)
  rw [eqvAll_strs, eqvAll_strs, Bool.and_true]
  by_cases h1 : f.1 = g.1
  · by_cases h2 : f.2 = g.2
    · rw [decide_eq_true h1, decide_eq_true h2, decide_eq_true (Prod.ext h1 h2)]
      rfl
    · rw [decide_eq_false h2, Bool.and_false, decide_eq_false fun z => h2 (by rw [z])]
  · rw [decide_eq_false h1, Bool.false_and, decide_eq_false fun z => h1 (by rw [z])]
theorem any_fns (f : Fnc) : ∀ l : List Fnc, ((l.map dFn).any fun z => PyData.eqv z (dFn f)) = decide (f ∈ l)
  | [] => rfl
  | g :: l => by
    rw [List.map_cons, List.any_cons, any_fns f l, eqv_fn]
    by_cases h : g = f
    · rw [h]; simp
    · rw [decide_eq_false h, Bool.false_or]
      by_cases h2 : f ∈ l
      · rw [decide_eq_true h2, decide_eq_true (List.mem_cons_of_mem _ h2)]
      · rw [decide_eq_false h2, decide_eq_false fun z => (List.mem_cons.mp z).elim (fun e => h e.symm) h2]
theorem shp_fn {f : Fnc} (h1 : ∀ x ∈ f.1, OkS x) (h2 : ∀ x ∈ f.2, OkS x) : (dFn f).canLay0 = true ∧ (dFn f).depth ≤ 2 := by
  obtain ⟨a1, a2⟩ := shp_list (f := PyData.str) (k := 0) (by decide) (l := f.1) fun x hx => ⟨h1 x hx, Nat.le_refl _⟩
  obtain ⟨b1, b2⟩ := shp_list (f := PyData.str) (k := 0) (by decide) (l := f.2) fun x hx => ⟨h2 x hx, Nat.le_refl _⟩
  refine ⟨?_, ?_⟩
  · show (PyData.canLayAll0 (f.1.map .str) && (PyData.canLayAll0 (f.2.map .str) && true)) = true
    rw [a1, b1]
    rfl
  · have e : (dFn f).depth = max (PyData.depthAll (f.1.map .str) + 1) (PyData.depthAll (f.2.map .str) + 1) + 1 := by
      simp [dFn, dTx, PyData.depth, PyData.depthAll]
    rw [e]
    omega
structure FunC (K : PySem.W.Frag) (x qual : Str) (st : Stmt) (f : Addr) (fd : FuncData) (c : Addr) : Prop where
  ex : ∃ (oc : Value) (od : Option Addr) (kV doc pm : Value) (an : Option Addr) (ct : Value) (osl : Array (Option Value)),
    fd = PySem.W.fnOf x qual (defArgs st) (defBody st) (defScope st) .none kV doc pm an (.ref c) ct ∧ K.lookup f = some ⟨oc, od, .func fd, osl⟩ ∧ PySem.W.codeIn K (.ref c) qual = true
theorem FunC.ok {P : Program} {w : World} {K : PySem.W.Frag} {mg : Str → Option Value} {base : Heap} {x qual : Str} {st : Stmt} {f c : Addr} {fd : FuncData} {N ps : List Str} {k : Nat} {sp : Sp} (F : FunC K x qual st f fd c) (S : FnScope N ps (defScope st)) (len : ∀ vs H Q E, sp vs H Q E → vs.length = ps.length)
    (hbody : ∀ (A : Around) (outer : List Env) (s : Shared) (H : Hp) (vs : List V) (Q : VK) (E : XK), Room k (A.deeper (envOfC qual (defScope st) s.heap.objs.size f (.ref c))) → sp vs H Q E →
      ∃ t, PSs (cxOf CX0 P w K mg base N qual (defScope st) f (.ref c) A outer s H E).nox (defBody st) t ∧ t { nx := fun _ H' => Q .non H', rt := Q } (L2.start N vs) H) : FnOk P w K mg base CX0 (k + 1) f fd ps sp := by
  obtain ⟨oc, od, kV, doc, pm, an, ct, osl, rfl, lk, hcd⟩ := F.ex
  refine fn_of lk hcd S len fun A outer s H vs Q E hr hsp => ?_
  obtain ⟨t, h, q⟩ := hbody A outer s H vs Q E hr hsp
  exact ⟨t, h.nox, q⟩
end Ly

set_option maxRecDepth 100000
set_option maxHeartbeats 4000000
/-! merged interfaces: the plain law -/
namespace Ly
open PySem PySem.Spec PyProof.Rows L2 LamX
section
variable {i o : List Str} {pr : List Fnc}
theorem prof_dis (hpr : ProfOk i o pr) (ho : PortsOk o) : pr.Pairwise fun a b => ∀ x ∈ a.1, ∀ y ∈ b.1, x ≠ y := by
  have h : (pr.flatMap (·.1)).Nodup := hpr.all.symm.nodup ho.2.1
  exact (List.pairwise_flatMap.mp h).2
theorem pw_get {α : Type} {R : α → α → Prop} {l : List α} (h : l.Pairwise R) {a b : α} (ha : a ∈ l) (hb : b ∈ l) : a = b ∨ R a b ∨ R b a := by
  obtain ⟨j, hj, rfl⟩ := List.getElem_of_mem ha
  obtain ⟨k, hk, rfl⟩ := List.getElem_of_mem hb
  rcases Nat.lt_trichotomy j k with e | e | e
  · exact .inr (.inl (List.pairwise_iff_getElem.mp h j k hj hk e))
  · subst e
    exact .inl rfl
  · exact .inr (.inr (List.pairwise_iff_getElem.mp h k j hk hj e))
theorem prof_one (hpr : ProfOk i o pr) (ho : PortsOk o) {f g : Fnc} (hf : f ∈ pr) (hg : g ∈ pr) {x : Str} (hx : x ∈ f.1) (hx' : x ∈ g.1) : f = g := by
  rcases pw_get (prof_dis hpr ho) hf hg with e | e | e
  · exact e
  · exact absurd rfl (e x hx x hx')
  · exact absurd rfl (e x hx' x hx)
theorem prof_has (hpr : ProfOk i o pr) {x : Str} (hx : x ∈ o) : ∃ f ∈ pr, x ∈ f.1 := List.mem_flatMap.mp (hpr.all.mem_iff.mpr hx)
theorem fn_head {f : Fnc} (hne : f.1 ≠ []) (hf : f.1 = o.filter fun x => decide (x ∈ f.1)) : ∃ y r, f.1 = y :: r ∧ y ∈ o ∧ firstAt o f = o.idxOf y := by
  cases e : f.1 with
  | nil => exact absurd e hne
  | cons y r =>
    have h1 : y ∈ f.1 := by rw [e]; exact List.mem_cons_self
    rw [hf] at h1
    exact ⟨y, r, rfl, (List.mem_filter.mp h1).1, by unfold firstAt; rw [e]; rfl⟩
theorem prof_inj (hpr : ProfOk i o pr) (ho : PortsOk o) {f g : Fnc} (hf : f ∈ pr) (hg : g ∈ pr) (e : firstAt o f = firstAt o g) : f = g := by
  obtain ⟨y, r, h1, h2, h3⟩ := fn_head (hpr.each f hf).2.1 (hpr.each f hf).2.2.1
  obtain ⟨z, q, h4, h5, h6⟩ := fn_head (hpr.each g hg).2.1 (hpr.each g hg).2.2.1
  rw [h3, h6] at e
  have ey : o[o.idxOf y]? = some y := by rw [List.getElem?_eq_getElem (List.idxOf_lt_length_iff.mpr h2), List.getElem_idxOf]
  have ez : o[o.idxOf z]? = some z := by rw [List.getElem?_eq_getElem (List.idxOf_lt_length_iff.mpr h5), List.getElem_idxOf]
  rw [e, ez] at ey
  have ezy : z = y := Option.some.inj ey
  exact prof_one hpr ho hf hg (x := y) (by rw [h1]; exact List.mem_cons_self) (by rw [h4, ezy]; exact List.mem_cons_self)
def StrO (o : List Str) (l : List Fnc) : Prop := l.Pairwise fun a b => firstAt o a < firstAt o b
theorem prof_nodup (hpr : ProfOk i o pr) (ho : PortsOk o) : pr.Pairwise (· ≠ ·) :=
  (prof_dis hpr ho).imp_of_mem fun {a b} ha _ h e => by
    cases e1 : a.1 with
    | nil => exact (hpr.each a ha).2.1 e1
    | cons y r =>
      have h1 : y ∈ a.1 := by rw [e1]; exact List.mem_cons_self
      exact h y h1 y (e ▸ h1) rfl
theorem prof_str (hpr : ProfOk i o pr) (ho : PortsOk o) : StrO o pr := by
  have h := List.pairwise_map.mp hpr.ord
  refine (h.and (prof_nodup hpr ho)).imp_of_mem fun {a b} ha hb ⟨h1, h2⟩ => ?_
  rcases Nat.lt_or_eq_of_le h1 with e | e
  · exact e
  · exact absurd (prof_inj hpr ho ha hb e) h2
theorem str_one {l m : List Fnc} (hl : StrO o l) (hm : StrO o m) (hp : l.Perm m) : l = m :=
  List.Perm.eq_of_pairwise (fun a b _ _ h1 h2 => absurd (Nat.lt_trans h1 h2) (Nat.lt_irrefl _)) hl hm hp
theorem sort_le (l : List Fnc) : (l.mergeSort fun f g => decide (firstAt o f ≤ firstAt o g)).Pairwise fun f g => firstAt o f ≤ firstAt o g :=
  (List.pairwise_mergeSort (le := fun f g => decide (firstAt o f ≤ firstAt o g)) (fun a b c h1 h2 => decide_eq_true (Nat.le_trans (of_decide_eq_true h1) (of_decide_eq_true h2))) (fun a b => by
    rcases Nat.le_total (firstAt o a) (firstAt o b) with e | e
    · rw [decide_eq_true e]; rfl
    · rw [decide_eq_true e, Bool.or_true]) l).imp fun h => of_decide_eq_true h
theorem sort_perm (l : List Fnc) : (l.mergeSort fun f g => decide (firstAt o f ≤ firstAt o g)).Perm l := List.mergeSort_perm _ _
theorem sort_str {l : List Fnc} (h : l.Pairwise fun a b => firstAt o a ≠ firstAt o b) : StrO o (l.mergeSort fun f g => decide (firstAt o f ≤ firstAt o g)) :=
  ((sort_le l).and ((sort_perm l).symm.pairwise h fun h => h.symm)).imp fun ⟨h1, h2⟩ => by omega
theorem nodup_perm {l m : List Str} (hl : l.Nodup) (hm : m.Nodup) (h : ∀ x, x ∈ l ↔ x ∈ m) : l.Perm m := by
  rw [List.perm_iff_count]
  intro a
  rw [hl.count, hm.count]
  simp only [h a]
theorem filter_self_mem {f : List Str} {p : Str → Bool} : (o.filter p) = o.filter fun x => decide (x ∈ o.filter p) := by
  refine List.filter_congr fun x hx => ?_
  cases h : p x with
  | true => rw [decide_eq_true (List.mem_filter.mpr ⟨hx, h⟩)]
  | false => rw [decide_eq_false fun z => by rw [(List.mem_filter.mp z).2] at h; cases h]
theorem ports_filter {xs : List Str} (h : PortsOk xs) (p : Str → Bool) : PortsOk (xs.filter p) :=
  ⟨fun x hx => h.1 x (List.mem_filter.mp hx).1, h.2.1.sublist List.filter_sublist, Nat.le_trans (List.length_filter_le _ _) h.2.2⟩
/-- both outputs in one step function: the same profile -/
theorem mBoth_one (hpr : ProfOk i o pr) (ho : PortsOk o) {x y : Str} {f : Fnc} (hf : f ∈ pr) (hx : x ∈ f.1) (hy : y ∈ f.1) {g : Fnc} (hg : g ∈ pr) : (decide (x ∈ g.1) || decide (y ∈ g.1)) = decide (g = f) := by
  by_cases e : g = f
  · rw [e, decide_eq_true hx, decide_eq_true rfl]; rfl
  · rw [decide_eq_false e, decide_eq_false fun h => e (prof_one hpr ho hg hf h hx), decide_eq_false fun h => e (prof_one hpr ho hg hf h hy)]
    rfl
theorem pw_filter_eq {l : List Fnc} (h : l.Pairwise (· ≠ ·)) {f : Fnc} (hf : f ∈ l) : l.filter (fun g => decide (g = f)) = [f] := by
  obtain ⟨A, B, rfl⟩ := List.append_of_mem hf
  have h1 := List.pairwise_append.mp h
  have h2 := List.pairwise_cons.mp h1.2.1
  have eA : A.filter (fun g => decide (g = f)) = [] := List.filter_eq_nil_iff.mpr fun g hg => by
    rw [decide_eq_false (h1.2.2 g hg f List.mem_cons_self)]; simp
  have eB : B.filter (fun g => decide (g = f)) = [] := List.filter_eq_nil_iff.mpr fun g hg => by
    rw [decide_eq_false fun e => h2.1 g hg e.symm]; simp
  rw [List.filter_append, eA, List.filter_cons_of_pos (by simp), eB]
  rfl
theorem mProf_same (hpr : ProfOk i o pr) (ho : PortsOk o) {x y : Str} {f : Fnc} (hf : f ∈ pr) (hx : x ∈ f.1) (hy : y ∈ f.1) : mProf i o pr x y = pr := by
  have hnd := prof_nodup hpr ho
  have eB : mBoth pr x y = [f] := by
    unfold mBoth
    rw [List.filter_congr (q := fun g => decide (g = f)) fun g hg => mBoth_one hpr ho hf hx hy hg]
    exact pw_filter_eq hnd hf
  have eW : mWhole i o pr x y = f := by
    unfold mWhole
    rw [eB]
    simp only [List.flatMap_cons, List.flatMap_nil, List.append_nil]
    exact Prod.ext (hpr.each f hf).2.2.1.symm (hpr.each f hf).2.2.2.2.symm
  have hp : (mAll i o pr x y).Perm pr := by
    unfold mAll
    rw [eW, eB]
    have e1 : (pr.filter fun g => !decide (g ∈ [f])) = pr.filter fun g => !decide (g = f) := List.filter_congr fun g _ => by simp
    rw [e1]
    have h := List.filter_append_perm (fun g => decide (g = f)) pr
    rw [pw_filter_eq hnd hf] at h
    exact h
  have hs := prof_str hpr ho
  have hne : (mAll i o pr x y).Pairwise fun a b => firstAt o a ≠ firstAt o b := hp.symm.pairwise (hs.imp fun h => by omega) fun h => h.symm
  exact str_one (sort_str hne) hs ((sort_perm _).trans hp)
theorem mem_both {x y : Str} {f : Fnc} : f ∈ mBoth pr x y ↔ f ∈ pr ∧ (x ∈ f.1 ∨ y ∈ f.1) := by
  unfold mBoth
  rw [List.mem_filter, Bool.or_eq_true, decide_eq_true_eq, decide_eq_true_eq]
theorem mem_whole {x y z : Str} : z ∈ (mWhole i o pr x y).1 ↔ z ∈ o ∧ ∃ f ∈ pr, (x ∈ f.1 ∨ y ∈ f.1) ∧ z ∈ f.1 := by
  unfold mWhole
  rw [List.mem_filter, decide_eq_true_eq, List.mem_flatMap]
  refine and_congr_right fun _ => ?_
  constructor
  · rintro ⟨f, hf, hz⟩
    obtain ⟨h1, h2⟩ := mem_both.mp hf
    exact ⟨f, h1, h2, hz⟩
  · rintro ⟨f, h1, h2, hz⟩
    exact ⟨f, mem_both.mpr ⟨h1, h2⟩, hz⟩
theorem prof_sub (hpr : ProfOk i o pr) {f : Fnc} (hf : f ∈ pr) {z : Str} (hz : z ∈ f.1) : z ∈ o := by
  rw [(hpr.each f hf).2.2.1] at hz
  exact (List.mem_filter.mp hz).1
theorem whole_x (hpr : ProfOk i o pr) {x y : Str} (hx : x ∈ o) : x ∈ (mWhole i o pr x y).1 := by
  obtain ⟨f, hf, h⟩ := prof_has hpr hx
  exact mem_whole.mpr ⟨hx, f, hf, .inl h, h⟩
theorem whole_y (hpr : ProfOk i o pr) {x y : Str} (hy : y ∈ o) : y ∈ (mWhole i o pr x y).1 := by
  obtain ⟨f, hf, h⟩ := prof_has hpr hy
  exact mem_whole.mpr ⟨hy, f, hf, .inr h, h⟩
def FnOk' (i o : List Str) (f : Fnc) : Prop := PortsOk f.1 ∧ f.1 ≠ [] ∧ f.1 = o.filter (fun x => decide (x ∈ f.1)) ∧ PortsOk f.2 ∧ f.2 = i.filter fun x => decide (x ∈ f.2)
theorem whole_ok (hpr : ProfOk i o pr) (hi : PortsOk i) (ho : PortsOk o) {x y : Str} (hx : x ∈ o) : FnOk' i o (mWhole i o pr x y) := by
  refine ⟨ports_filter ho _, fun e => ?_, filter_self_mem (f := []), ports_filter hi _, filter_self_mem (f := [])⟩
  have := whole_x (y := y) hpr hx
  rw [e] at this
  cases this
theorem all_ok (hpr : ProfOk i o pr) (hi : PortsOk i) (ho : PortsOk o) {x y : Str} (hx : x ∈ o) : ∀ f ∈ mAll i o pr x y, FnOk' i o f := by
  intro f hf
  rcases List.mem_cons.mp hf with rfl | hf
  · exact whole_ok hpr hi ho hx
  · exact hpr.each f (List.mem_filter.mp hf).1
theorem rest_eq {x y : Str} : (pr.filter fun f => !decide (f ∈ mBoth pr x y)) = pr.filter fun f => !(decide (x ∈ f.1) || decide (y ∈ f.1)) := by
  refine List.filter_congr fun f hf => ?_
  congr 1
  by_cases h : x ∈ f.1 ∨ y ∈ f.1
  · rw [decide_eq_true (mem_both.mpr ⟨hf, h⟩)]
    rcases h with h | h
    · rw [decide_eq_true h]; rfl
    · rw [decide_eq_true h, Bool.or_true]
  · rw [decide_eq_false fun z => h (mem_both.mp z).2, decide_eq_false fun z => h (.inl z), decide_eq_false fun z => h (.inr z)]
    rfl
theorem all_perm (hpr : ProfOk i o pr) (ho : PortsOk o) {x y : Str} : ((mAll i o pr x y).flatMap (·.1)).Perm o := by
  have h1 := (List.filter_append_perm (fun f : Fnc => decide (x ∈ f.1) || decide (y ∈ f.1)) pr).flatMap_right (·.1)
  rw [List.flatMap_append] at h1
  have hnd : (pr.flatMap (·.1)).Nodup := hpr.all.symm.nodup ho.2.1
  have hb : ((mBoth pr x y).flatMap (·.1)).Nodup := by
    have h2 := h1.symm.nodup hnd
    exact (List.nodup_append.mp h2).1
  have hw : (mWhole i o pr x y).1.Perm ((mBoth pr x y).flatMap (·.1)) := by
    refine nodup_perm (ho.2.1.sublist List.filter_sublist) hb fun z => ?_
    show z ∈ o.filter _ ↔ _
    rw [List.mem_filter, decide_eq_true_eq]
    refine ⟨fun h => h.2, fun h => ⟨?_, h⟩⟩
    obtain ⟨f, hf, hz⟩ := List.mem_flatMap.mp h
    exact prof_sub hpr (mem_both.mp hf).1 hz
  unfold mAll
  rw [List.flatMap_cons, rest_eq]
  exact ((hw.append_right _).trans h1).trans hpr.all
theorem mProf_ok (hpr : ProfOk i o pr) (hi : PortsOk i) (ho : PortsOk o) {x y : Str} (hx : x ∈ o) : ProfOk i o (mProf i o pr x y) :=
  ⟨fun f hf => all_ok hpr hi ho hx f ((sort_perm _).mem_iff.mp hf), ((sort_perm _).flatMap_right (·.1)).trans (all_perm hpr ho), List.pairwise_map.mpr (sort_le _)⟩
theorem mProf_again (hpr : ProfOk i o pr) (hi : PortsOk i) (ho : PortsOk o) {x y : Str} (hx : x ∈ o) (hy : y ∈ o) : mProf i o (mProf i o pr x y) x y = mProf i o pr x y :=
  mProf_same (mProf_ok hpr hi ho hx) ho (f := mWhole i o pr x y) ((sort_perm _).mem_iff.mpr List.mem_cons_self) (whole_x hpr hx) (whole_y hpr hy)
theorem mBoth_comm {x y : Str} : mBoth pr y x = mBoth pr x y := List.filter_congr fun f _ => Bool.or_comm _ _
theorem mProf_comm {x y : Str} : mProf i o pr y x = mProf i o pr x y := by
  unfold mProf mAll mWhole
  rw [mBoth_comm]
/-- what the law's own def finds where the two step functions differ -/
def dueL (pr : List Fnc) (one two whole : Fnc) : List Fnc := pr.filterMap fun f => if whole.1.headD Str.empty ∈ f.1 then some whole else if f ≠ one ∧ f ≠ two then some f else none
theorem due_same (hpr : ProfOk i o pr) (hi : PortsOk i) (ho : PortsOk o) {x y : Str} {one two : Fnc} (h1 : one ∈ pr) (hx : x ∈ one.1) (h2 : two ∈ pr) (hy : y ∈ two.1) (hn : one ≠ two) : dueL pr one two (mWhole i o pr x y) = mProf i o pr x y := by
  have hxo := prof_sub hpr h1 hx
  have wok := whole_ok (y := y) hpr hi ho hxo
  obtain ⟨b, r, eb, hbo, hfb⟩ := fn_head wok.2.1 wok.2.2.1
  have hd : (mWhole i o pr x y).1.headD Str.empty = b := by rw [eb]; rfl
  have hbw : b ∈ (mWhole i o pr x y).1 := by rw [eb]; exact List.mem_cons_self
  obtain ⟨_, h, hh, hxy, hbh⟩ := mem_whole.mp hbw
  have hxy' : h = one ∨ h = two := by
    rcases hxy with e | e
    · exact .inl (prof_one hpr ho hh h1 e hx)
    · exact .inr (prof_one hpr ho hh h2 e hy)
  have iff2 : ∀ f ∈ pr, (f ∈ mBoth pr x y ↔ f = one ∨ f = two) := fun f hf => by
    rw [mem_both]
    constructor
    · rintro ⟨_, e | e⟩
      · exact .inl (prof_one hpr ho hf h1 e hx)
      · exact .inr (prof_one hpr ho hf h2 e hy)
    · rintro (rfl | rfl)
      · exact ⟨hf, .inl hx⟩
      · exact ⟨hf, .inr hy⟩
  -- the first outputs of the merged function and of the one that has it
  have hfh : firstAt o h = firstAt o (mWhole i o pr x y) := by
    obtain ⟨c, q, ec, hco, hfc⟩ := fn_head (hpr.each h hh).2.1 (hpr.each h hh).2.2.1
    have hch : c ∈ h.1 := by rw [ec]; exact List.mem_cons_self
    have hcw : c ∈ (mWhole i o pr x y).1 := mem_whole.mpr ⟨hco, h, hh, hxy, hch⟩
    rw [hfc, hfb]
    -- the head of a filtered list comes first
    have key : ∀ (l : List Str) (p : Str → Bool) (u : Str) (us : List Str), l.filter p = u :: us → ∀ v ∈ l.filter p, l.idxOf u ≤ l.idxOf v := by
      intro l p
      induction l with
      | nil => intro u us e; cases e
      | cons a l ih =>
        intro u us e v hv
        by_cases ha : p a = true
        · rw [List.filter_cons_of_pos ha] at e
          have ea : a = u := (List.cons.inj e).1
          rw [ea, List.idxOf_cons_self]
          exact Nat.zero_le _
        · rw [List.filter_cons_of_neg ha] at e hv
          have hu : u ∈ l.filter p := by rw [e]; exact List.mem_cons_self
          have nu : ¬ a = u := fun z => ha (z ▸ (List.mem_filter.mp hu).2)
          have nv : ¬ a = v := fun z => ha (z ▸ (List.mem_filter.mp hv).2)
          rw [List.idxOf_cons, List.idxOf_cons, beq_eq_false_iff_ne.mpr nu, beq_eq_false_iff_ne.mpr nv]
          have := ih u us e v hv
          simpa using this
    have k1 := key o _ c q ((hpr.each h hh).2.2.1.symm.trans ec) b (by rw [← (hpr.each h hh).2.2.1]; exact hbh)
    have k2 := key o _ b r (wok.2.2.1.symm.trans eb) c (by rw [← wok.2.2.1]; exact hcw)
    omega
  have hnd := prof_nodup hpr ho
  have hs := prof_str hpr ho
  have hfm : ∀ f ∈ pr, ∀ g, (if (mWhole i o pr x y).1.headD Str.empty ∈ f.1 then some (mWhole i o pr x y) else if f ≠ one ∧ f ≠ two then some f else none) = some g → firstAt o g = firstAt o f := fun f hf g e => by
    rw [hd] at e
    by_cases hb : b ∈ f.1
    · rw [if_pos hb] at e
      rw [← Option.some.inj e, ← hfh, prof_one hpr ho hf hh hb hbh]
    · rw [if_neg hb] at e
      by_cases hc : f ≠ one ∧ f ≠ two
      · rw [if_pos hc] at e
        rw [← Option.some.inj e]
      · rw [if_neg hc] at e
        cases e
  have hds : StrO o (dueL pr one two (mWhole i o pr x y)) := by
    unfold dueL StrO
    rw [List.pairwise_filterMap]
    refine hs.imp_of_mem fun {f g} hf hg hlt f' ef g' eg => ?_
    rw [hfm f hf f' ef, hfm g hg g' eg]
    exact hlt
  have hdp : (dueL pr one two (mWhole i o pr x y)).Perm (mAll i o pr x y) := by
    obtain ⟨A, B, hAB⟩ := List.append_of_mem hh
    have hmA : ∀ f ∈ A, f ∈ pr ∧ f ≠ h := fun f hf => by
      refine ⟨by rw [hAB]; exact List.mem_append_left _ hf, ?_⟩
      rw [hAB] at hnd
      exact (List.pairwise_append.mp hnd).2.2 f hf h List.mem_cons_self
    have hmB : ∀ f ∈ B, f ∈ pr ∧ f ≠ h := fun f hf => by
      refine ⟨by rw [hAB]; exact List.mem_append_right _ (List.mem_cons_of_mem _ hf), ?_⟩
      rw [hAB] at hnd
      exact fun e => (List.pairwise_cons.mp (List.pairwise_append.mp hnd).2.1).1 f hf e.symm
    have part : ∀ C : List Fnc, (∀ f ∈ C, f ∈ pr ∧ f ≠ h) → (C.filterMap fun f => if (mWhole i o pr x y).1.headD Str.empty ∈ f.1 then some (mWhole i o pr x y) else if f ≠ one ∧ f ≠ two then some f else none) = C.filter fun f => !decide (f ∈ mBoth pr x y) := by
      intro C hC
      rw [hd]
      induction C with
      | nil => rfl
      | cons f C ih =>
        have ih' := ih fun g hg => hC g (List.mem_cons_of_mem _ hg)
        obtain ⟨hf, hfn⟩ := hC f List.mem_cons_self
        have nb : ¬ b ∈ f.1 := fun z => hfn (prof_one hpr ho hf hh z hbh)
        by_cases hc : f ≠ one ∧ f ≠ two
        · have nm : ¬ f ∈ mBoth pr x y := fun z => ((iff2 f hf).mp z).elim hc.1 hc.2
          rw [List.filterMap_cons_some (b := f) (by rw [if_neg nb, if_pos hc]), ih', List.filter_cons_of_pos (by rw [decide_eq_false nm]; rfl)]
        · have hm : f ∈ mBoth pr x y := (iff2 f hf).mpr (by
            by_cases e1 : f = one
            · exact .inl e1
            · by_cases e2 : f = two
              · exact .inr e2
              · exact absurd ⟨e1, e2⟩ hc)
          rw [List.filterMap_cons_none (by rw [if_neg nb, if_neg hc]), ih', List.filter_cons_of_neg (by rw [decide_eq_true hm]; simp)]
    have hmh : h ∈ mBoth pr x y := (iff2 h hh).mpr hxy'
    have e1 : dueL pr one two (mWhole i o pr x y) = (A.filter fun f => !decide (f ∈ mBoth pr x y)) ++ mWhole i o pr x y :: B.filter fun f => !decide (f ∈ mBoth pr x y) := by
      have hp2 : dueL pr one two (mWhole i o pr x y) = dueL (A ++ h :: B) one two (mWhole i o pr x y) := by rw [← hAB]
      rw [hp2]
      unfold dueL
      rw [List.filterMap_append, part A hmA, List.filterMap_cons_some (b := mWhole i o pr x y) (by rw [hd, if_pos hbh]), part B hmB]
    have e2 : (pr.filter fun f => !decide (f ∈ mBoth pr x y)) = (A.filter fun f => !decide (f ∈ mBoth pr x y)) ++ B.filter fun f => !decide (f ∈ mBoth pr x y) := by
      have : ∀ (q : Fnc → Bool), q h = false → pr.filter q = A.filter q ++ B.filter q := fun q hq => by
        rw [hAB, List.filter_append, List.filter_cons_of_neg (by rw [hq]; simp)]
      exact this _ (by rw [decide_eq_true hmh]; rfl)
    rw [e1]
    unfold mAll
    rw [e2]
    exact List.perm_middle
  have hne : (mAll i o pr x y).Pairwise fun a b => firstAt o a ≠ firstAt o b := hdp.pairwise (hds.imp fun h => by omega) fun h => h.symm
  exact (str_one (sort_str hne) hds ((sort_perm _).trans hdp.symm)).symm
end
/-! the sort's key -/
open Classical in
noncomputable def fnKey (K : PySem.W.Frag) (H : Hp) (o : List Str) (v : V) : Int := if h : ∃ f, FnV K H f v then ((firstAt o h.choose : Nat) : Int) else 0
theorem fnKey_eq {K : PySem.W.Frag} {H : Hp} {o : List Str} {v : V} {f : Fnc} (h : FnV K H f v) : fnKey K H o v = ((firstAt o f : Nat) : Int) := by
  have hx : ∃ f, FnV K H f v := ⟨f, h⟩
  unfold fnKey
  rw [dif_pos hx, hx.choose_spec.inj h]
theorem paired_list {α β : Type} {R : α → β → Prop} : ∀ {l : List α} {m : List β}, Paired R l m → ∃ z : List (α × β), z.map (·.1) = l ∧ z.map (·.2) = m ∧ ∀ p ∈ z, R p.1 p.2
  | _, _, .nil => ⟨[], rfl, rfl, fun p hp => by cases hp⟩
  | _, _, .cons (a := x) (b := y) h t => by
    obtain ⟨z, h1, h2, h3⟩ := paired_list t
    refine ⟨(x, y) :: z, by rw [List.map_cons, h1], by rw [List.map_cons, h2], fun p hp => ?_⟩
    rcases List.mem_cons.mp hp with rfl | hp
    · exact h
    · exact h3 p hp
theorem paired_of {α β : Type} {R : α → β → Prop} : ∀ {z : List (α × β)}, (∀ p ∈ z, R p.1 p.2) → Paired R (z.map (·.1)) (z.map (·.2))
  | [], _ => .nil
  | p :: z, h => .cons (h p List.mem_cons_self) (paired_of fun q hq => h q (List.mem_cons_of_mem _ hq))
theorem paired_sort {K : PySem.W.Frag} {H : Hp} {o : List Str} {l : List Fnc} {ws : List V} (h : Paired (FnV K H) l ws) : Paired (FnV K H) (l.mergeSort fun f g => decide (firstAt o f ≤ firstAt o g)) (byKey (fnKey K H o) ws) := by
  obtain ⟨z, rfl, rfl, hz⟩ := paired_list h
  unfold byKey
  have e1 : (z.map (·.1)).mergeSort (fun f g => decide (firstAt o f ≤ firstAt o g)) = (z.mergeSort fun p q => decide (firstAt o p.1 ≤ firstAt o q.1)).map (·.1) := (List.map_mergeSort (f := fun p : Fnc × V => p.1) fun _ _ _ _ => rfl).symm
  have e2 : (z.map (·.2)).mergeSort (fun x y => decide (fnKey K H o x ≤ fnKey K H o y)) = (z.mergeSort fun p q => decide (firstAt o p.1 ≤ firstAt o q.1)).map (·.2) := (List.map_mergeSort (f := fun p : Fnc × V => p.2) fun p hp q hq => by
    rw [fnKey_eq (hz p hp), fnKey_eq (hz q hq)]
    congr 1
    exact propext (by omega)).symm
  rw [e1, e2]
  exact paired_of fun p hp => hz p ((List.mergeSort_perm _ _).mem_iff.mp hp)
theorem tabs_upd {T : List (Addr × Str)} {H : Hp} {p : Addr} {o : HO} (h : Tabs T H) (hp : H p = none) : Tabs T (upd H p o) := fun q hq => (h q hq).ext (same_new hp)
theorem tabs_same {T : List (Addr × Str)} {H H' : Hp} (h : Tabs T H) (s : Same H H') : Tabs T H' := fun q hq => (h q hq).ext s
end Ly

set_option maxRecDepth 100000
set_option maxHeartbeats 4000000
/-! made-up interfaces: groups of outputs, the law's promises -/
namespace Ly
open PySem PySem.Spec PyProof.Rows L2 LamX
theorem sub_filter {l m : List Str} (h : l.Sublist m) : m.Nodup → l = m.filter fun x => decide (x ∈ l) := by
  induction h with
  | slnil => intro _; rfl
  | @cons l m a h ih =>
    intro hn
    obtain ⟨h1, h2⟩ := List.nodup_cons.mp hn
    rw [List.filter_cons_of_neg (by rw [decide_eq_false fun z => h1 (h.subset z)]; simp)]
    exact ih h2
  | @cons_cons l m a h ih =>
    intro hn
    obtain ⟨h1, h2⟩ := List.nodup_cons.mp hn
    rw [List.filter_cons_of_pos (by rw [decide_eq_true List.mem_cons_self])]
    congr 1
    rw [List.filter_congr (q := fun x => decide (x ∈ l)) fun x hx => ?_]
    · exact ih h2
    · have : x ≠ a := fun e => h1 (e ▸ hx)
      by_cases hl : x ∈ l
      · rw [decide_eq_true hl, decide_eq_true (List.mem_cons_of_mem _ hl)]
      · rw [decide_eq_false hl, decide_eq_false fun z => (List.mem_cons.mp z).elim this hl]
theorem idx_rise {o : List Str} (h : o.Nodup) : o.Pairwise fun a b => o.idxOf a < o.idxOf b := by
  induction o with
  | nil => exact .nil
  | cons x o ih =>
    obtain ⟨h1, h2⟩ := List.nodup_cons.mp h
    have e : ∀ y ∈ o, (x :: o).idxOf y = o.idxOf y + 1 := fun y hy => by
      rw [List.idxOf_cons, beq_eq_false_iff_ne.mpr fun z : x = y => h1 (by rw [z]; exact hy)]
      rfl
    refine List.pairwise_cons.mpr ⟨fun y hy => ?_, (ih h2).imp_of_mem fun {a b} ha hb hlt => ?_⟩
    · rw [e y hy, List.idxOf_cons_self]
      exact Nat.succ_pos _
    · rw [e a ha, e b hb]
      exact Nat.succ_lt_succ hlt
theorem ports_sub {l m : List Str} (h : l.Sublist m) (k : PortsOk m) : PortsOk l := ⟨fun x hx => k.1 x (h.subset hx), k.2.1.sublist h, Nat.le_trans h.length_le k.2.2⟩
structure GInv (seen : List Str) (gs : List (List Str)) : Prop where
  perm : gs.flatten.Perm seen
  sub : ∀ g ∈ gs, g ≠ [] ∧ g.Sublist seen
  heads : (gs.map (·.headD Str.empty)).Sublist seen
theorem ginv_nil : GInv [] [] := ⟨.nil, fun g hg => (by cases hg), List.Sublist.slnil⟩
theorem GInv.new {seen : List Str} {gs : List (List Str)} (h : GInv seen gs) (x : Str) : GInv (seen ++ [x]) (gs ++ [[x]]) := by
  refine ⟨?_, fun g hg => ?_, ?_⟩
  · rw [List.flatten_append]
    exact h.perm.append_right _
  · rcases List.mem_append.mp hg with hg | hg
    · exact ⟨(h.sub g hg).1, (h.sub g hg).2.trans (List.sublist_append_left _ _)⟩
    · rw [List.mem_singleton.mp hg]
      exact ⟨by simp, List.sublist_append_right _ _⟩
  · rw [List.map_append]
    exact h.heads.append (List.Sublist.refl _)
theorem GInv.add {seen : List Str} {gs : List (List Str)} (h : GInv seen gs) (x : Str) {j : Nat} {g : List Str} (hg : gs[j]? = some g) : GInv (seen ++ [x]) (gs.set j (g ++ [x])) := by
  obtain ⟨hj, e⟩ := List.getElem?_eq_some_iff.mp hg
  have e1 : gs = gs.take j ++ g :: gs.drop (j + 1) := by rw [← e, List.getElem_cons_drop, List.take_append_drop]
  have e2 : gs.set j (g ++ [x]) = gs.take j ++ (g ++ [x]) :: gs.drop (j + 1) := List.set_eq_take_append_cons_drop.trans (if_pos hj)
  have hgm := List.mem_of_getElem? hg
  refine ⟨?_, fun k hk => ?_, ?_⟩
  · have hp := h.perm
    rw [e1] at hp
    rw [e2]
    simp only [List.flatten_append, List.flatten_cons, List.append_assoc] at hp ⊢
    refine List.Perm.trans ?_ (hp.append_right [x])
    simp only [List.append_assoc]
    exact (List.Perm.refl _).append ((List.Perm.refl _).append List.perm_append_comm)
  · rcases List.mem_or_eq_of_mem_set hk with hk | hk
    · exact ⟨(h.sub k hk).1, (h.sub k hk).2.trans (List.sublist_append_left _ _)⟩
    · rw [hk]
      exact ⟨by simp, (h.sub g hgm).2.append (List.Sublist.refl _)⟩
  · have e3 : (gs.set j (g ++ [x])).map (·.headD Str.empty) = gs.map (·.headD Str.empty) := by
      rw [e2]
      conv => rhs; rw [e1]
      rw [List.map_append, List.map_append, List.map_cons, List.map_cons]
      congr 2
      cases e4 : g with
      | nil => exact absurd e4 (h.sub g hgm).1
      | cons a r => rfl
    rw [e3]
    exact h.heads.trans (List.sublist_append_left _ _)
structure IfOk (i o : List Str) (pr : List Fnc) : Prop where
  hi : PortsOk i
  ho : PortsOk o
  io : (i ++ o).Nodup
  ne : o ≠ []
  pr : ProfOk i o pr
theorem prof_of {i o : List Str} {gs : List (List Str)} {pr : List Fnc} (ho : PortsOk o) (hi : PortsOk i) (h : GInv o gs) (hp : pr.map (·.1) = gs) (hn : ∀ f ∈ pr, f.2.Sublist i) : ProfOk i o pr := by
  refine ⟨fun f hf => ?_, ?_, ?_⟩
  · have hg : f.1 ∈ gs := by rw [← hp]; exact List.mem_map_of_mem hf
    obtain ⟨h1, h2⟩ := h.sub _ hg
    exact ⟨ports_sub h2 ho, h1, sub_filter h2 ho.2.1, ports_sub (hn f hf) hi, sub_filter (hn f hf) hi.2.1⟩
  · have e : pr.flatMap (·.1) = gs.flatten := by rw [← hp]; rfl
    rw [e]
    exact h.perm
  · have e : pr.map (firstAt o) = (gs.map (·.headD Str.empty)).map o.idxOf := by
      rw [← hp, List.map_map, List.map_map]
      rfl
    rw [e]
    refine List.pairwise_map.mpr (((idx_rise ho.2.1).sublist h.heads).imp fun h => Nat.le_of_lt h)
/-! ### the groups as objects -/
def GrpAt (H0 H : Hp) (p gl : Addr) (gs : List (List Str)) : Prop := ∃ ls : List Addr, H gl = some (.lst (ls.map V.ref)) ∧ ls.length = gs.length ∧ (∀ (j : Nat) (l : Addr) (g : List Str), ls[j]? = some l → gs[j]? = some g → H l = some (.lst (g.map V.str))) ∧ ls.Nodup ∧ gl ∉ ls ∧ (∀ l ∈ ls, H0 l = none) ∧ p ∉ ls ∧ p ≠ gl
theorem GrpAt.sx {H0 H H' : Hp} {p gl : Addr} {gs : List (List Str)} (h : GrpAt H0 H p gl gs) (s : SameX p H H') : GrpAt H0 H' p gl gs := by
  obtain ⟨ls, h1, h2, h3, h4, h5, h6, h7, h8⟩ := h
  exact ⟨ls, s _ _ h8.symm h1, h2, fun j l g hl hg => s _ _ (fun e => h7 (e ▸ List.mem_of_getElem? hl)) (h3 j l g hl hg), h4, h5, h6, h7, h8⟩
theorem GrpAt.len {H0 H : Hp} {p gl : Addr} {gs : List (List Str)} (h : GrpAt H0 H p gl gs) : ∃ xs, H gl = some (.lst xs) ∧ xs.length = gs.length := let ⟨ls, h1, h2, _⟩ := h; ⟨_, h1, by rw [List.length_map]; exact h2⟩
theorem GrpAt.at {H0 H : Hp} {p gl : Addr} {gs : List (List Str)} (h : GrpAt H0 H p gl gs) {j : Nat} {g : List Str} (hg : gs[j]? = some g) : ∃ xs l, H gl = some (.lst xs) ∧ xs[j]? = some (V.ref l) ∧ H l = some (.lst (g.map V.str)) ∧ l ≠ p ∧ H0 l = none ∧ ∀ z : Str, GrpAt H0 (upd H l (.lst (g.map V.str ++ [.str z]))) p gl (gs.set j (g ++ [z])) := by
  obtain ⟨ls, h1, h2, h3, h4, h5, h6, h7, h8⟩ := h
  have hj := (List.getElem?_eq_some_iff.mp hg).1
  have hl : ls[j]? = some ls[j] := List.getElem?_eq_getElem (by omega)
  have hm := List.mem_of_getElem? hl
  refine ⟨_, ls[j], h1, by rw [List.getElem?_map, hl]; rfl, h3 j _ g hl hg, fun e => h7 (e ▸ hm), h6 _ hm, fun z => ⟨ls, ?_, by rw [List.length_set]; exact h2, fun k l g' hk hg' => ?_, h4, h5, h6, h7, h8⟩⟩
  · rw [upd_ne (fun e : gl = ls[j] => h5 (by rw [e]; exact hm))]
    exact h1
  · by_cases e : k = j
    · subst e
      rw [hl] at hk
      cases hk
      rw [List.getElem?_set_self (by omega)] at hg'
      cases hg'
      rw [upd_same, List.map_append]
      rfl
    · rw [List.getElem?_set_ne (Ne.symm e)] at hg'
      rw [upd_ne fun z => e ?_]
      · exact h3 k l g' hk hg'
      · obtain ⟨h10, e10⟩ := List.getElem?_eq_some_iff.mp hk
        exact (List.getElem_inj (h₀ := h10) (h₁ := by omega) h4).mp (e10.trans z)
theorem GrpAt.new {H0 H : Hp} {p gl l : Addr} {gs : List (List Str)} {xs : List V} (h : GrpAt H0 H p gl gs) (hx : H gl = some (.lst xs)) (hl : H l = none) (hl0 : H0 l = none) (np : l ≠ p) : GrpAt H0 (upd (upd H l (.lst [])) gl (.lst (xs ++ [.ref l]))) p gl (gs ++ [[]]) := by
  obtain ⟨ls, h1, h2, h3, h4, h5, h6, h7, h8⟩ := h
  rw [h1] at hx
  cases hx
  have ngl : gl ≠ l := ne_of_none h1 hl
  have hin : ∀ l' ∈ ls, l' ≠ l := fun l' hm e => by
    obtain ⟨j, hj⟩ := List.getElem?_of_mem hm
    have hj2 := (List.getElem?_eq_some_iff.mp hj).1
    have := h3 j l' gs[j] hj (List.getElem?_eq_getElem (by omega))
    rw [e, hl] at this
    cases this
  refine ⟨ls ++ [l], by rw [upd_same, List.map_append]; rfl, by simp only [List.length_append, List.length_singleton]; omega, fun j l' g hj hg => ?_, ?_, ?_, ?_, ?_, h8⟩
  · by_cases hlt : j < ls.length
    · rw [List.getElem?_append_left hlt] at hj
      rw [List.getElem?_append_left (by omega)] at hg
      have hm := List.mem_of_getElem? hj
      rw [upd_ne (fun e : l' = gl => h5 (by rw [← e]; exact hm)), upd_ne (hin _ hm)]
      exact h3 j l' g hj hg
    · rw [List.getElem?_append_right (by omega)] at hj hg
      have e0 : j - ls.length = 0 := by
        have := (List.getElem?_eq_some_iff.mp hj).1
        simp only [List.length_singleton] at this
        omega
      rw [e0] at hj
      rw [← h2, e0] at hg
      cases hj
      cases hg
      rw [upd_ne ngl.symm, upd_same]
      rfl
  · refine List.nodup_append.mpr ⟨h4, by simp, fun a ha b hb => ?_⟩
    rw [List.mem_singleton.mp hb]
    exact hin a ha
  · intro hm
    rcases List.mem_append.mp hm with hm | hm
    · exact h5 hm
    · exact ngl (List.mem_singleton.mp hm)
  · intro l' hm
    rcases List.mem_append.mp hm with hm | hm
    · exact h6 l' hm
    · rw [List.mem_singleton.mp hm]
      exact hl0
  · intro hm
    rcases List.mem_append.mp hm with hm | hm
    · exact h7 hm
    · exact np (List.mem_singleton.mp hm).symm
theorem grp_nil {H0 H : Hp} {p gl : Addr} (hn : p ≠ gl) (hg : H gl = some (.lst [])) : GrpAt H0 H p gl [] := ⟨[], hg, rfl, fun j l g hl => (by simp at hl), .nil, by simp, fun l hl => (by cases hl), by simp, hn⟩
theorem rd_sx {H H' : Hp} {p a : Addr} {xs ys : List V} (s : SameX p H H') (hp : H p = some (.lst ys)) (h : Rd H a (.tup xs)) : Rd H' a (.tup xs) := by
  have np : a ≠ p := fun e => by
    rcases h with h | ⟨o, h⟩ <;> rw [e, hp] at h <;> cases h
  rcases h with h | ⟨o, h⟩
  · exact .inl (s _ _ np h)
  · exact .inr ⟨o, s _ _ np h⟩
theorem FnV.sx {K : PySem.W.Frag} {H H' : Hp} {p : Addr} {f : Fnc} {v : V} {ys : List V} (h : FnV K H f v) (s : SameX p H H') (hp : H p = some (.lst ys)) : FnV K H' f v := by
  obtain ⟨t, a, b, rfl, h1, h2, h3⟩ := h
  exact ⟨t, a, b, rfl, rd_sx s hp h1, rd_sx s hp h2, rd_sx s hp h3⟩
theorem sqt_sx {K : PySem.W.Frag} {H H' : Hp} {p a : Addr} {xs ys : List V} (s : SameX p H H') (hp : H p = some (.lst ys)) (h : SqT K H a xs) : SqT K H' a xs := by
  rcases h with h | h
  · exact .inl (rd_sx s hp h)
  · exact .inr h
theorem KnT.sx {H H' : Hp} {p a : Addr} {xs ys : List V} (s : SameX p H H') (hp : H p = some (.lst ys)) (h : KnT H a xs) : KnT H' a xs := by
  obtain ⟨ob, h1, h2⟩ := h
  exact ⟨ob, s _ _ (fun e => by rw [e, hp] at h1; cases h1) h1, h2⟩
theorem IfV.sx {K : PySem.W.Frag} {H H' : Hp} {p : Addr} {ys : List V} {i o : List Str} {pr : List Fnc} {v : V} (h : IfV K H i o pr v) (s : SameX p H H') (hp : H p = some (.lst ys)) : IfV K H' i o pr v := by
  obtain ⟨t, a, b, c, fs, rfl, h1, h2, h3, h4, h5⟩ := h
  exact ⟨t, a, b, c, fs, rfl, sqt_sx s hp h1, sqt_sx s hp h2, h3.sx s hp, sqt_sx s hp h4, paired_imp (fun _ _ z => z.sx s hp) h5⟩
/-! ### the promises -/
def spPickA (K : PySem.W.Frag) : Sp := fun vs H Q _ => (∃ (p q : Addr) (xs : List V) (a b : Int), vs = [.ref p, .ref q] ∧ FeedAt H p a b ∧ SqL K H q xs ∧ q ≠ p ∧ 0 < xs.length ∧ xs.length ≤ 1000 ∧
  ∀ (v : V) (a' b' : Int), v ∈ xs → FeedAt (upd H p (.lst [.int a', .int b'])) p a' b' → Q v (upd H p (.lst [.int a', .int b']))) ∨
  (∃ (p q : Addr) (xs : List V) (a b : Int), vs = [.ref p, .ref q] ∧ FeedAt H p a b ∧ SqT K H q xs ∧ 0 < xs.length ∧ xs.length ≤ 1000 ∧
  ∀ (v : V) (a' b' : Int), v ∈ xs → FeedAt (upd H p (.lst [.int a', .int b'])) p a' b' → Q v (upd H p (.lst [.int a', .int b'])))
def spMadeUp (K : PySem.W.Frag) : Sp := fun vs H Q _ => ∃ (p : Addr) (a b : Int), vs = [.ref p] ∧ FeedAt H p a b ∧
  ∀ (v : V) (H' : Hp) (i o : List Str) (pr : List Fnc) (a' b' : Int), SameX p H H' → FeedAt H' p a' b' → IfV K H' i o pr v → IfOk i o pr → Q v H'
def spDueM (K : PySem.W.Frag) : Sp := fun vs H Q _ => ∃ (v : V) (i o : List Str) (pr : List Fnc) (x y : Str), vs = [v, .str x, .str y] ∧ IfV K H i o pr v ∧ IfOk i o pr ∧ x ∈ o ∧ y ∈ o ∧
  ∀ v' H', Same H H' → IfV K H' i o (mProf i o pr x y) v' → Q v' H'
theorem ifOk_merged {i o : List Str} {pr : List Fnc} (h : IfOk i o pr) {x y : Str} (hx : x ∈ o) : IfOk i o (mProf i o pr x y) := ⟨h.hi, h.ho, h.io, h.ne, mProf_ok h.pr h.hi h.ho hx⟩
/-! ### repr and != of interfaces -/
def dIf (i o : List Str) (pr : List Fnc) : PyData := .tuple [dTx i, dTx o, .tuple (pr.map dFn)]
theorem ifV_dp {K : PySem.W.Frag} {H : Hp} {i o : List Str} {pr : List Fnc} {v : V} (h : IfV K H i o pr v) : ∃ t, v = .ref t ∧ Dp K H v (dIf i o pr) := by
  obtain ⟨t, a, b, c, fs, rfl, h1, h2, h3, h4, h5⟩ := h
  exact ⟨t, rfl, .tup h1 (.cons (dp_strs h2) (.cons (dp_strs h3.sqt) (.cons (.tup h4 (dps_fns h5)) .nil)))⟩
theorem rep_if {i o : List Str} {pr : List Fnc} (h : IfOk i o pr) : Rep 5 100000 (dIf i o pr) := by
  have h1 := rep_names h.hi.1 (by have := h.hi.2.2; omega)
  have h2 := rep_names h.ho.1 (by have := h.ho.2.2; omega)
  have h3 : Rep 3 20000 (.tuple (pr.map dFn)) := rep_tup ((reps_all (n := 2) (w := 2002) (ds := pr.map dFn) fun d hd => by
    obtain ⟨f, hf, rfl⟩ := List.mem_map.mp hd
    obtain ⟨k1, _, _, k2, _⟩ := h.pr.each f hf
    exact rep_tup (reps_cons (w1 := 1000) (w2 := 1001) (rep_names k1.1 (by have := k1.2.2; omega)) (reps_cons (w1 := 1000) (w2 := 0) (rep_names k2.1 (by have := k2.2.2; omega)) reps_nil (by decide)) (by decide))).mono (Nat.le_refl _) (by have := prof_len h.pr h.ho; rw [List.length_map]; omega))
  exact (rep_tup (reps_cons (w1 := 1000) (w2 := 30000) (h1.mono (by decide) (by decide)) (reps_cons (w1 := 1000) (w2 := 20001) (h2.mono (by decide) (by decide)) (reps_cons (w1 := 20000) (w2 := 0) (h3.mono (by decide) (by decide)) reps_nil (by decide)) (by decide)) (by decide) : Reps 4 100000 _)).mono (by decide) (Nat.le_refl _)
theorem if_read {K : PySem.W.Frag} {H : Hp} {Q : VK} {i o : List Str} {pr : List Fnc} {v : V} (h : IfV K H i o pr v) (k : IfOk i o pr) (q : Q (.str (dIf i o pr).shown) H) : rReprV K [v] H Q := by
  obtain ⟨t, rfl, hd⟩ := ifV_dp h
  exact ⟨_, _, rfl, hd, (rep_if k).sh, (rep_if k).nd, Nat.le_trans (rep_if k).dp (by decide), (rep_if k).short (by decide), q⟩
theorem shp_if {i o : List Str} {pr : List Fnc} (h : IfOk i o pr) : SeqAt.shaped (dIf i o pr) = true := by
  obtain ⟨a1, a2⟩ := shp_list (f := PyData.str) (k := 0) (by decide) (l := i) fun x hx => ⟨okS_name (h.hi.1 x hx), Nat.le_refl _⟩
  obtain ⟨b1, b2⟩ := shp_list (f := PyData.str) (k := 0) (by decide) (l := o) fun x hx => ⟨okS_name (h.ho.1 x hx), Nat.le_refl _⟩
  obtain ⟨c1, c2⟩ := shp_list (f := dFn) (k := 2) (by decide) (l := pr) fun f hf => shp_fn (fun x hx => okS_name ((h.pr.each f hf).1.1 x hx)) (fun x hx => okS_name ((h.pr.each f hf).2.2.2.1.1 x hx))
  have e1 : (dIf i o pr).canLay0 = true := by
    show (PyData.canLayAll0 (i.map .str) && (PyData.canLayAll0 (o.map .str) && (PyData.canLayAll0 (pr.map dFn) && true))) = true
    rw [a1, b1, c1]
    rfl
  have e2 : (dIf i o pr).depth ≤ 64 := by
    have e : (dIf i o pr).depth = max (PyData.depthAll (i.map .str) + 1) (max (PyData.depthAll (o.map .str) + 1) (PyData.depthAll (pr.map dFn) + 1)) + 1 := by
      simp [dIf, dTx, PyData.depth, PyData.depthAll]
    rw [e]
    omega
  show ((dIf i o pr).canLay0 && decide ((dIf i o pr).depth ≤ 64)) = true
  rw [e1, decide_eq_true e2]
  rfl
theorem eqvAll_fns : ∀ l : List Fnc, PyData.eqvAll (l.map dFn) (l.map dFn) = true
  | [] => rfl
  | f :: l => by
    show (PyData.eqv (dFn f) (dFn f) && PyData.eqvAll (l.map dFn) (l.map dFn)) = true
    rw [eqvAll_fns l, eqv_fn, decide_eq_true rfl]
    rfl
theorem eqv_if {i o : List Str} {pr : List Fnc} : PyData.eqv (dIf i o pr) (dIf i o pr) = true := by
  show (PyData.eqvAll (i.map .str) (i.map .str) && (PyData.eqvAll (o.map .str) (o.map .str) && (PyData.eqvAll (pr.map dFn) (pr.map dFn) && true))) = true
  rw [eqvAll_strs, eqvAll_strs, eqvAll_fns, decide_eq_true rfl, decide_eq_true rfl]
  rfl
theorem op_catAK {X : Cx} (K : PySem.W.Frag) (hK : X.K = K := by rfl) : OpR X (binaryOp .Add) (rCatA K) := hK ▸ op_catA
def L6i : List Str := ["i", "j", "k", "l", "m", "n"]
def L6o : List Str := ["p", "q", "r", "s", "t", "u"]
theorem l6_ok : PortsOk L6i ∧ PortsOk L6o ∧ (L6i ++ L6o).Nodup := by
  have h : ((L6i.all nameOk = true ∧ L6i.Nodup ∧ L6i.length ≤ 8) ∧ (L6o.all nameOk = true ∧ L6o.Nodup ∧ L6o.length ≤ 8)) ∧ (L6i ++ L6o).Nodup := by decide +kernel
  obtain ⟨⟨⟨a1, a2, a3⟩, b1, b2, b3⟩, c⟩ := h
  exact ⟨⟨fun x hx => List.all_eq_true.mp a1 x hx, a2, a3⟩, ⟨fun x hx => List.all_eq_true.mp b1 x hx, b2, b3⟩, c⟩
theorem extN_sx {H H1 H2 : Hp} {p : Addr} (e : ExtN H H1) (s : SameX p H1 H2) (hp : ∀ o, H p = some o → (∀ ps, o ≠ .tbl ps) → False) : ExtN H H2 := fun b o hb hn => s b o (fun z => hp o (z ▸ hb) hn) (e b o hb hn)
theorem extN_free {H H1 : Hp} {p : Addr} (e : ExtN H H1) (hp : H1 p = none) : ∀ o, H p = some o → (∀ ps, o ≠ .tbl ps) → False := fun o h n => by
  rw [e p o h n] at hp
  cases hp
theorem tabs_sx {T : List (Addr × Str)} {H H' : Hp} {p : Addr} {ys : List V} (h : Tabs T H) (s : SameX p H H') (hp : H p = some (.lst ys)) : Tabs T H' := fun q hq => by
  obtain ⟨ps, h1, h2, h3⟩ := h q hq
  have ne : ∀ {b : Addr} {o : HO}, H b = some o → (∀ zs, o ≠ .lst zs) → H' b = some o := fun {b o} hb hn => s _ _ (fun z => by
    rw [z, hp] at hb
    exact hn ys (Option.some.inj hb).symm) hb
  exact ⟨ps, ne h1 (fun zs z => by cases z), h2, fun pos cv hc => let ⟨c, e1, e2⟩ := h3 pos cv hc; ⟨c, e1, ne e2 (fun zs z => by cases z)⟩⟩
end Ly

set_option maxRecDepth 100000
set_option maxHeartbeats 4000000
/-! tuples whose objects are told: displays, sums, slices, tuple(..) -/
namespace Od
open PySem PySem.Spec PyProof.Rows L2 Ly
section
variable {X : Cx}
/-- a new tuple, told -/
def NewT (H : Hp) (xs : List V) (Q : VK) : Prop := ∀ c H', Same H H' → KnT H' c xs → Q (.ref c) H'
theorem newT_at {pins : List (Addr × Obj)} {σ : L2.St} {H : Hp} {s : Shared} {xs : List V} {its : List Value} {Q : VK} (I : Inv X pins σ H s) (r : Vals xs its) (hz : xs.length ≤ sizeLine) (q : NewT H xs Q) :
    EP X pins σ Q (.ref s.heap.objs.size) { s with heap := s.heap.push { cls := .type "tuple", data := .seq its.toArray } } := by
  have hf : H s.heap.objs.size = none := I.hok.fresh (Nat.le_refl _)
  have I2 : Inv X pins σ (upd H s.heap.objs.size (.frz { cls := .type "tuple", data := .seq its.toArray } (.tup xs))) { s with heap := s.heap.push { cls := .type "tuple", data := .seq its.toArray } } :=
    I.laid (t' := s.toks) (fun b o e => Heap.get?_push_of_some _ e) (Nat.le_refl _) ⟨Heap.get?_push_size _ rfl, hz, its, r, IsTup.new _ _⟩
  exact ⟨.ref s.heap.objs.size, _, I2, rfl, q _ _ (same_new hf) ⟨{ cls := .type "tuple", data := .seq its.toArray }, upd_same, rfl⟩⟩
def tTupF (t : TA) : TE := fun σ H Q => t σ H fun xs H1 => xs.length ≤ sizeLine ∧ NewT H1 xs Q
theorem pe_tupF {es : List Expr} {x1 : Nat} {pos : Pos} {t : TA} (h : PA X es t) : PE X (.Tuple es x1 pos) (tTupF t) := by
  refine ⟨fun pins s σ H Q I hq => ?_⟩
  refine wpAny_Tuple_spliced (thn (h.run pos pins s σ H _ I hq) fun us s1 ⟨xs, H1, I1, r, z, q⟩ => ⟨by rw [← r.length]; exact z, ?_⟩)
  exact newT_at I1 r z q
/-- t + u -/
def rCatF : R2 := fun x y H Q => ∃ a b xs ys, x = .ref a ∧ y = .ref b ∧ KnT H a xs ∧ KnT H b ys ∧ xs.length + ys.length ≤ sizeLine ∧ NewT H (xs ++ ys) Q
theorem op_catF : OpR X (binaryOp .Add) rCatF := by
  intro pins s σ H x y v u Q I rx ry h
  obtain ⟨a, b, xs, ys, rfl, rfl, ha, hb, hz, q⟩ := h
  cases rx
  cases ry
  obtain ⟨its, r1, p1, _⟩ := I.tuple ha.sqt
  obtain ⟨its2, r2, p2, _⟩ := I.tuple hb.sqt
  by_cases hx : xs = []
  · subst hx
    cases r1
    exact cat_tup0 p1 p2 ⟨.ref b, H, I, rfl, q b H (Same.refl H) hb⟩
  refine HT.cat_tup p1 p2 (fun z => hx (r1.nil_iff.mp z)) (fun z => ?_) (fun z => ?_) (by rw [← r1.length, ← r2.length]; exact hz)
  · have := r2.nil_iff.mp z
    subst this
    exact ⟨.ref a, H, I, rfl, q a H (Same.refl H) (by rw [List.append_nil]; exact ha)⟩
  · exact newT_at I (r1.append r2) (by rw [List.length_append]; exact hz) q
/-- t[lo:hi] -/
def rSlF : V → Option Int → Option Int → Hp → VK → Prop := fun x lo hi H Q => ∃ a xs, x = .ref a ∧ KnT H a xs ∧ NewT H (cutV xs lo hi) Q
theorem sl_tupF : SlR X rSlF := by
  intro pins s σ H x v vl vu lo hi sl Q I rx hs pl pu h
  obtain ⟨a, xs, rfl, hx, q⟩ := h
  cases rx
  obtain ⟨its, r, ht, hz⟩ := I.tuple hx.sqt
  have hlen : its.toArray.size = xs.length := by rw [List.size_toArray]; exact r.length.symm
  refine ⟨"tuple", _, PyProof.Rows.slot_tuple_getitem.lookup, ht.typeIs, ?_⟩
  by_cases hw : HT.sIx xs.length 0 lo = 0 ∧ HT.sIx xs.length xs.length hi = xs.length
  · refine getItem_tuple_whole ht hs pl pu (by rw [hlen]; exact hw) ⟨.ref a, H, I, rfl, q a H (Same.refl H) ?_⟩
    have e : cutV xs lo hi = xs := by
      unfold cutV
      rw [hw.1, hw.2, List.drop_zero, Nat.sub_zero, List.take_length]
    rw [e]
    exact hx
  · refine HT.getItem_tuple_cut ht hs pl pu (by rw [hlen]; exact hw) ?_ (by rw [hlen]; exact hz)
    rw [hlen]
    exact newT_at I ((r.drop (HT.sIx xs.length 0 lo)).take (HT.sIx xs.length xs.length hi - HT.sIx xs.length 0 lo)) (Nat.le_trans (cutV_length xs lo hi) hz) q
/-- tuple(l) -/
def rTupG (K : PySem.W.Frag) : List V → Hp → VK → Prop := fun vs H Q => (∃ p ys, vs = [.ref p] ∧ SqL K H p ys ∧ NewT H ys Q) ∨ ∃ z : Str, vs = [.str z] ∧ z.length ≤ sizeLine ∧ NewT H (z.cps.toList.map fun c => V.str ⟨#[c]⟩) Q
theorem vals_ix : ∀ (xs : List V) (us : List Value), xs.length = us.length → (∀ (i : Nat) x u, xs[i]? = some x → us[i]? = some u → RelV x u) → Vals xs us
  | [], [], _, _ => .nil
  | x :: xs, u :: us, hl, h => .cons (h 0 x u rfl rfl) (vals_ix xs us (by simpa using hl) fun i y v h1 h2 => h (i + 1) y v h1 h2)
theorem sign_vals {z : Str} {acc : Array Value} (h : ItemsOf (SignAt z) acc z.cps.size) : Vals (z.cps.toList.map fun c => V.str ⟨#[c]⟩) acc.toList := by
  refine vals_ix _ _ (by rw [List.length_map, Array.length_toList, Array.length_toList, h.1]) fun i x u h1 h2 => ?_
  obtain ⟨c, t, h3, rfl⟩ := h.2 i u (by simpa using h2)
  rw [List.getElem?_map] at h1
  have h4 : z.cps.toList[i]? = some c := by simpa using h3
  rw [h4] at h1
  cases h1
  exact ⟨t, rfl⟩
theorem call_tupleG (K : PySem.W.Frag) (hc : X.calm = true) (hK : X.K = K := by rfl) : CallR X (.type "tuple") (rTupG K) := by
  subst hK
  intro pins s σ H vs us Q I r h
  rcases h with ⟨p, ys, rfl, hq, q⟩ | ⟨z, rfl, hz, q⟩
  · exact call_tupleF X.K rfl pins s σ H _ us Q I r ⟨p, ys, rfl, hq, fun l ob hl ho => q l _ (same_new hl) ⟨ob, upd_same, ho⟩⟩
  · obtain ⟨u, rfl, ru⟩ := vals1 r
    obtain ⟨t, rfl⟩ := ru
    refine call_tuple_str (I.ok.hd hc) z t (fun h' tk acc kp hacc => ?_) hz
    have I1 : Inv X pins σ H { s with heap := h', toks := tk } := I.kept (t' := tk) kp
    exact newT_at I1 (sign_vals hacc) (by rw [List.length_map]; exact hz) q
/-- t[::-1] -/
theorem fm_all {α β : Type} (f : α → Option β) : ∀ (l : List α) (m : List β), l.map f = m.map some → l.filterMap f = m
  | [], [], _ => rfl
  | a :: l, b :: m, h => by
    injection h with h1 h2
    rw [List.filterMap_cons, h1]
    show b :: _ = _
    rw [fm_all f l m h2]
theorem pick_rev (xs : Array Value) : ((List.range xs.size).filterMap fun (m : Nat) => xs[(((xs.size : Nat) : Int) - 1 + (m : Int) * (-1)).toNat]?).toArray = xs.toList.reverse.toArray := by
  refine congrArg _ (fm_all _ _ _ (List.ext_getElem? fun i => ?_))
  rw [List.getElem?_map, List.getElem?_map]
  by_cases hi : i < xs.size
  · rw [List.getElem?_range hi, List.getElem?_reverse (by simpa using hi)]
    have e : (((xs.size : Nat) : Int) - 1 + (i : Int) * (-1)).toNat = xs.size - 1 - i := by omega
    show some (xs[(((xs.size : Nat) : Int) - 1 + (i : Int) * (-1)).toNat]?) = _
    rw [e, Array.length_toList, Array.getElem?_toList, Array.getElem?_eq_getElem (by omega)]
    rfl
  · rw [List.getElem?_eq_none (by simpa using hi), List.getElem?_eq_none (by simpa using hi)]
    rfl
theorem getItem_tuple_rev {prog : Program} {w : World} {A : Around} {E : Value → Shared → Prop} {s : Shared} {t sl : Addr} {items : Array Value} {vl vu vs : Value} {Q : Value → Shared → Prop} (ht : IsTup s.heap t items) (hs : s.heap.IsSliceOf sl vl vu vs) (pl : IsPart vl none) (pu : IsPart vu none) (ps : IsPart vs (some (-1)))
    (h : Q (.ref s.heap.objs.size) { s with heap := s.heap.push { cls := .type "tuple", data := .seq items.toList.reverse.toArray } })
    (hsz : items.size ≤ sizeLine) : wpAny (model prog w) A (getItem (.ref t) (.ref sl)) Q E s := by
  have htake : sizeOk (.seq items.toList.reverse.toArray) := by
    show items.toList.reverse.toArray.size ≤ sizeLine
    rw [List.size_toArray, List.length_reverse, Array.length_toList]
    exact hsz
  obtain ⟨os, hos, hcs, hds⟩ := id hs
  have hTs : s.TypeIs (.ref sl) "slice" := ⟨os, hos, hcs⟩
  unfold getItem
  try with_reducible refine wpAny_holding ?_
  first | refine wpAny_bind (wpAny_pure ?_) | skip
  refine wpAny_bind (wpAny_sequenceKey ht.typeIs (by decide) ?_)
  refine wpAny_bind (wpAny_callSpecial?_slot (name := Str.ofString "__getitem__") ht.typeIs PyProof.Rows.slot_tuple_getitem
    (wpAny_call_entry PyProof.Rows.slot_tuple_getitem ht.typeIs entry_tuple_getitem ?_ (args_tuple_getitem _ _)))
  show wpAny _ _ (Builtin.Tuple.tupleItemsOf (.ref t) >>= _) _ _ s
  refine wpAny_bind (tupleItemsOf_ ht ?_)
  refine wpAny_bind (wpAny_typeOf hTs ?_)
  rw [if_pos (by decide)]
  have hsa : ∀ {R : Int × Int × Nat → Shared → Prop}, R (((items.size : Nat) : Int) - 1, -1, items.size) s → wpAny (model prog w) A.in1 (Builtin.Slice.sliceApplied (.ref sl) (pure (items.size : Int))) R E s := by
    intro R hR
    unfold Builtin.Slice.sliceApplied Builtin.Slice.sliceFields
    refine wpAny_bind (wpAny_bind (wpAny_field hos hds (x := vl) rfl (wpAny_bind (wpAny_field hos hds (x := vu) rfl (wpAny_bind (wpAny_field hos hds (x := vs) rfl (wpAny_pure ?_)))))))
    refine wpAny_bind (HT.slicePart_ ps ?_)
    show wpAny _ _ (if ((-1 : Int) == 0) = true then _ else _) _ _ s
    rw [if_neg (by decide)]
    refine wpAny_bind (HT.slicePart_ pl (wpAny_bind (HT.slicePart_ pu (wpAny_bind (wpAny_pure ?_)))))
    show wpAny _ _ (match Builtin.Slice.sliceAdjust none none (-1) (items.size : Int) with | (lo, hi) => pure (lo, (-1 : Int), Builtin.Slice.slicePlaces lo hi (-1))) _ _ s
    have e1 : Builtin.Slice.sliceAdjust none none (-1) (items.size : Int) = (((items.size : Nat) : Int) - 1, -1) := by
      unfold Builtin.Slice.sliceAdjust
      simp only [show ((-1 : Int) < 0) from by decide, if_true]
    have e2 : Builtin.Slice.slicePlaces (((items.size : Nat) : Int) - 1) (-1) (-1) = items.size := by
      unfold Builtin.Slice.slicePlaces
      rw [if_neg (by decide)]
      by_cases hz : items.size = 0
      · rw [hz, if_neg (by decide)]
        rfl
      · rw [if_pos (by omega)]
        have : ((((items.size : Nat) : Int) - 1 - (-1) - 1) / (- (-1 : Int)) + 1) = items.size := by
          rw [show (- (-1 : Int)) = 1 from rfl, Int.ediv_one]
          omega
        rw [this]
        rfl
    rw [e1]
    show wpAny _ _ (pure (((items.size : Nat) : Int) - 1, (-1 : Int), Builtin.Slice.slicePlaces (((items.size : Nat) : Int) - 1) (-1) (-1))) _ _ s
    rw [e2]
    exact wpAny_pure hR
  refine wpAny_bind (hsa ?_)
  have hno : ¬ (((((items.size : Nat) : Int) - 1) == 0 && (-1 : Int) == 1 && items.size == items.size) = true) := by
    intro q
    rw [Bool.and_eq_true, Bool.and_eq_true] at q
    exact absurd q.1.2 (by decide)
  show wpAny _ _ (if ((((items.size : Nat) : Int) - 1) == 0 && (-1 : Int) == 1 && items.size == items.size) = true then _ else _) _ _ s
  rw [if_neg hno, pick_rev]
  first
    | exact wpAny_bind (m := Builtin.Tuple.tupleExact _) (wpAny_newObj_type (wpAny_pure ⟨_, rfl, wpAny_pure h⟩) htake)
    | exact wpAny_bind (m := Builtin.Tuple.tupleExact _) (wpAny_newObj_type (wpAny_bind (wpAny_pure (wpAny_pure ⟨_, rfl, wpAny_pure h⟩))) htake)
    | exact wpAny_bind (wpAny_bind (m := Builtin.Tuple.tupleExact _) (wpAny_newObj_type (wpAny_pure (wpAny_pure ⟨_, rfl, wpAny_pure h⟩)) htake))
    | exact wpAny_bind (wpAny_bind (m := Builtin.Tuple.tupleExact _) (wpAny_newObj_type (wpAny_pure ⟨_, rfl, wpAny_pure h⟩) htake))
def tRevT (te : TE) : TE := fun σ H Q => te σ H fun x H1 => ∃ a xs, x = .ref a ∧ KnT H1 a xs ∧ NewT H1 xs.reverse Q
theorem pe_revT {e : Expr} {te : TE} {k : Nat} {p1 p2 p3 pos : Pos} (he : PE X e te) : PE X (.Subscript e (.Slice none none (some (.UnaryOp .USub (.Constant (.int 1) k p1) p2)) p3) pos) (tRevT te) := by
  refine ⟨fun pins s σ H Q I h => ?_⟩
  refine Subscript_ (thn (he.run pins s σ H _ I h) fun v s1 ⟨x, H1, I1, r1, q1⟩ => ?_)
  obtain ⟨a, xs, ex, hx, q⟩ := q1
  subst ex
  cases r1
  have hst : PO X (some (.UnaryOp .USub (.Constant (.int 1) k p1) p2)) (tPart (tUn (rU fun i => .int (-i)) (tC (.int 1)))) := po_some (pe_un un_neg pe_int)
  refine wpAny_Slice (thn (po_none.run pins s1 σ H1 (fun o H2 => o = none ∧ H2 = H1) I1 ⟨rfl, rfl⟩) fun vl s2 ⟨l, H2, I2, pl, el, e2⟩ => ?_)
  subst el e2
  refine thn (po_none.run pins s2 σ H2 (fun o H3 => o = none ∧ H3 = H2) I2 ⟨rfl, rfl⟩) fun vu s3 ⟨u, H3, I3, pu, eu, e3⟩ => ?_
  subst eu e3
  refine thn (hst.run pins s3 σ H3 (fun o H4 => o = some (-1) ∧ H4 = H3) I3 ⟨1, rfl, -1, rfl, rfl, rfl⟩) fun vs s4 ⟨o, H4, I4, ps, eo, e4⟩ => ?_
  subst eo e4
  have I5 : Inv X pins σ H4 { s4 with heap := s4.heap.push { cls := .type "slice", data := .fields #[vl, vu, vs] } } := I4.kept (t' := s4.toks) fun b ob q => Heap.get?_push_of_some _ q
  obtain ⟨its, r, ht, hz⟩ := I5.tuple hx.sqt
  show wpAny (model X.prog X.w) X.A (subscriptTail e (.Slice none none (some (.UnaryOp .USub (.Constant (.int 1) k p1) p2)) p3) (.ref a) (.ref s4.heap.objs.size)) (EP X pins σ Q) X.xe { s4 with heap := s4.heap.push { cls := .type "slice", data := .fields #[vl, vu, vs] } }
  refine tail_any (ops := [.ref a, .ref s4.heap.objs.size]) ht.typeIs (PyProof.Rows.slot_tuple_getitem.lookup) ?_ (by with_unfolding_all rfl)
  refine getItem_tuple_rev ht (Heap.IsSliceOf.new _ vl vu vs) pl pu ps ?_ (by rw [List.size_toArray, ← r.length]; exact hz)
  exact newT_at I5 (by simpa using r.reverse) (by rw [List.length_reverse]; exact hz) q
end
end Od

set_option maxRecDepth 100000
set_option maxHeartbeats 4000000
/-! odd data: texts, numbers, None, bools, told tuples; lists, or small dicts (never both) -/
namespace Od
open PySem PySem.Spec PyProof.Rows L2 Ly
abbrev SgOk (x : Str) : Prop := x.cps.toList.all (fun c => decide (c < 1114112)) = true
def kvI : List (Key × V) := [(.inr "i", .int 1)]
mutual
inductive Dq (p : Addr → Prop) (H : Hp) : Bool → V → PyData → Prop
  | non (b : Bool) : Dq p H b .non .none
  | bl (b c : Bool) : Dq p H b (.bl c) (.bool c)
  | int (b : Bool) (i : Int) : Dq p H b (.int i) (.int i)
  | str (b : Bool) (x : Str) : SgOk x → Dq p H b (.str x) (.str x)
  | lst {a : Addr} {xs : List V} {ds : List PyData} : H a = some (.lst xs) → ¬ p a → DqAll p H true xs ds → Dq p H true (.ref a) (.list ds)
  | tup {b : Bool} {a : Addr} {xs : List V} {ds : List PyData} : KnT H a xs → DqAll p H b xs ds → Dq p H b (.ref a) (.tuple ds)
  | d0 {a : Addr} : H a = some (.dK []) → Dq p H false (.ref a) (.dict [])
  | d1 {a : Addr} : H a = some (.dK kvI) → Dq p H false (.ref a) (.dict [(.str "i", .int 1)])
inductive DqAll (p : Addr → Prop) (H : Hp) : Bool → List V → List PyData → Prop
  | nil (b : Bool) : DqAll p H b [] []
  | cons {b : Bool} {v : V} {vs : List V} {d : PyData} {ds : List PyData} : Dq p H b v d → DqAll p H b vs ds → DqAll p H b (v :: vs) (d :: ds)
end
theorem knt_sx {p : Addr} {H H' : Hp} {a : Addr} {xs : List V} {bs : List V} (h : KnT H a xs) (s : SameX p H H') (hp : H p = some (.lst bs)) : KnT H' a xs := by
  obtain ⟨ob, h1, h2⟩ := h
  refine ⟨ob, s _ _ (fun e => ?_) h1, h2⟩
  rw [e, hp] at h1
  cases h1
mutual
theorem Dq.sx {S : Addr → Prop} {p : Addr} {H H' : Hp} {bs : List V} (s : SameX p H H') (hp : H p = some (.lst bs)) (hS : S p) : ∀ {b : Bool} {d : PyData} {v : V}, Dq S H b v d → Dq S H' b v d
  | _, _, _, .non b => .non b
  | _, _, _, .bl b c => .bl b c
  | _, _, _, .int b i => .int b i
  | _, _, _, .str b x h => .str b x h
  | _, _, _, .lst h1 n h2 => .lst (s _ _ (fun e => n (by rw [e]; exact hS)) h1) n (DqAll.sx s hp hS h2)
  | _, _, _, .tup h1 h2 => .tup (knt_sx h1 s hp) (DqAll.sx s hp hS h2)
  | _, _, _, .d0 h => .d0 (s _ _ (fun e => by rw [e, hp] at h; cases h) h)
  | _, _, _, .d1 h => .d1 (s _ _ (fun e => by rw [e, hp] at h; cases h) h)
theorem DqAll.sx {S : Addr → Prop} {p : Addr} {H H' : Hp} {bs : List V} (s : SameX p H H') (hp : H p = some (.lst bs)) (hS : S p) : ∀ {b : Bool} {ds : List PyData} {vs : List V}, DqAll S H b vs ds → DqAll S H' b vs ds
  | _, _, _, .nil b => .nil b
  | _, _, _, .cons h1 h2 => .cons (Dq.sx s hp hS h1) (DqAll.sx s hp hS h2)
end
mutual
theorem Dq.weak {S S' : Addr → Prop} {H : Hp} (f : ∀ q, S' q → S q) : ∀ {b : Bool} {d : PyData} {v : V}, Dq S H b v d → Dq S' H b v d
  | _, _, _, .non b => .non b
  | _, _, _, .bl b c => .bl b c
  | _, _, _, .int b i => .int b i
  | _, _, _, .str b x h => .str b x h
  | _, _, _, .lst h1 n h2 => .lst h1 (fun z => n (f _ z)) (DqAll.weak f h2)
  | _, _, _, .tup h1 h2 => .tup h1 (DqAll.weak f h2)
  | _, _, _, .d0 h => .d0 h
  | _, _, _, .d1 h => .d1 h
theorem DqAll.weak {S S' : Addr → Prop} {H : Hp} (f : ∀ q, S' q → S q) : ∀ {b : Bool} {ds : List PyData} {vs : List V}, DqAll S H b vs ds → DqAll S' H b vs ds
  | _, _, _, .nil b => .nil b
  | _, _, _, .cons h1 h2 => .cons (Dq.weak f h1) (DqAll.weak f h2)
end
mutual
theorem Dq.same {p : Addr → Prop} {H H' : Hp} (s : Same H H') : ∀ {b : Bool} {d : PyData} {v : V}, Dq p H b v d → Dq p H' b v d
  | _, _, _, .non b => .non b
  | _, _, _, .bl b c => .bl b c
  | _, _, _, .int b i => .int b i
  | _, _, _, .str b x h => .str b x h
  | _, _, _, .lst h1 n h2 => .lst (s _ _ h1) n (DqAll.same s h2)
  | _, _, _, .tup h1 h2 => .tup (h1.same s) (DqAll.same s h2)
  | _, _, _, .d0 h => .d0 (s _ _ h)
  | _, _, _, .d1 h => .d1 (s _ _ h)
theorem DqAll.same {p : Addr → Prop} {H H' : Hp} (s : Same H H') : ∀ {b : Bool} {ds : List PyData} {vs : List V}, DqAll p H b vs ds → DqAll p H' b vs ds
  | _, _, _, .nil b => .nil b
  | _, _, _, .cons h1 h2 => .cons (Dq.same s h1) (DqAll.same s h2)
end
theorem DqAll.len {p : Addr → Prop} {H : Hp} : ∀ {b : Bool} {vs : List V} {ds : List PyData}, DqAll p H b vs ds → vs.length = ds.length
  | _, _, _, .nil _ => rfl
  | _, _, _, .cons _ h => by rw [List.length_cons, List.length_cons, DqAll.len h]
theorem DqAll.get {p : Addr → Prop} {H : Hp} : ∀ {b : Bool} {vs : List V} {ds : List PyData}, DqAll p H b vs ds → ∀ {i : Nat} {v : V}, vs[i]? = some v → ∃ d, ds[i]? = some d ∧ Dq p H b v d
  | _, _, _, .cons h1 h2, 0, v, e => ⟨_, rfl, by cases e; exact h1⟩
  | _, _, _, .cons h1 h2, i + 1, v, e => DqAll.get h2 e
theorem DqAll.mem {p : Addr → Prop} {H : Hp} {b : Bool} {vs : List V} {ds : List PyData} (h : DqAll p H b vs ds) {v : V} (hv : v ∈ vs) : ∃ d, d ∈ ds ∧ Dq p H b v d := by
  obtain ⟨i, e⟩ := List.mem_iff_getElem?.mp hv
  obtain ⟨d, h1, h2⟩ := h.get e
  exact ⟨d, List.mem_of_getElem? h1, h2⟩
theorem DqAll.app {p : Addr → Prop} {H : Hp} : ∀ {b : Bool} {vs ws : List V} {ds es : List PyData}, DqAll p H b vs ds → DqAll p H b ws es → DqAll p H b (vs ++ ws) (ds ++ es)
  | _, _, _, _, _, .nil _, h => h
  | _, _, _, _, _, .cons h1 h2, h => .cons h1 (DqAll.app h2 h)
theorem DqAll.take {p : Addr → Prop} {H : Hp} : ∀ (n : Nat) {b : Bool} {vs : List V} {ds : List PyData}, DqAll p H b vs ds → DqAll p H b (vs.take n) (ds.take n)
  | 0, _, _, _, _ => .nil _
  | _ + 1, _, _, _, .nil _ => .nil _
  | n + 1, _, _, _, .cons h1 h2 => .cons h1 (DqAll.take n h2)
theorem DqAll.drop {p : Addr → Prop} {H : Hp} : ∀ (n : Nat) {b : Bool} {vs : List V} {ds : List PyData}, DqAll p H b vs ds → DqAll p H b (vs.drop n) (ds.drop n)
  | 0, _, _, _, h => h
  | _ + 1, _, _, _, .nil _ => .nil _
  | n + 1, _, _, _, .cons _ h2 => DqAll.drop n h2
theorem DqAll.rev {p : Addr → Prop} {H : Hp} : ∀ {b : Bool} {vs : List V} {ds : List PyData}, DqAll p H b vs ds → DqAll p H b vs.reverse ds.reverse
  | _, _, _, .nil _ => .nil _
  | _, _, _, .cons h1 h2 => by
    rw [List.reverse_cons, List.reverse_cons]
    exact (DqAll.rev h2).app (.cons h1 (.nil _))
theorem DqAll.set {p : Addr → Prop} {H : Hp} : ∀ (i : Nat) {b : Bool} {vs : List V} {ds : List PyData} {v : V} {d : PyData}, DqAll p H b vs ds → Dq p H b v d → DqAll p H b (vs.set i v) (ds.set i d)
  | _, _, _, _, _, _, .nil _, _ => .nil _
  | 0, _, _, _, _, _, .cons _ h2, h => .cons h h2
  | i + 1, _, _, _, _, _, .cons h1 h2, h => .cons h1 (DqAll.set i h2 h)
theorem DqAll.strs {p : Addr → Prop} {H : Hp} (b : Bool) : ∀ xs : List Str, (∀ x ∈ xs, SgOk x) → DqAll p H b (xs.map V.str) (xs.map .str)
  | [], _ => .nil b
  | x :: xs, h => .cons (.str b x (h x List.mem_cons_self)) (DqAll.strs b xs fun y hy => h y (List.mem_cons_of_mem _ hy))
theorem DqAll.names {p : Addr → Prop} {H : Hp} : ∀ {b : Bool} {vs : List V} {ns : List Str}, DqAll p H b vs (ns.map .str) → vs = ns.map V.str
  | _, [], [], _ => rfl
  | _, v :: vs, n :: ns, .cons h1 h2 => by
    cases h1
    rw [DqAll.names h2]
    rfl
/-! ### types -/
def tyD : PyData → Value
  | .none => .type "NoneType"
  | .bool _ => .type "bool"
  | .int _ => .type "int"
  | .str _ => .type "str"
  | .list _ => .type "list"
  | .tuple _ => .type "tuple"
  | .dict _ => .type "dict"
theorem _root_.Ly.KnT.ty {K : PySem.W.Frag} {H : Hp} {a : Addr} {xs : List V} (h : KnT H a xs) : TyX K H (.ref a) (.type "tuple") := let ⟨_, h1, _⟩ := h; .fTuple h1
theorem Dq.ty {K : PySem.W.Frag} {p : Addr → Prop} {H : Hp} {b : Bool} {v : V} {d : PyData} (h : Dq p H b v d) : TyX K H v (tyD d) := by
  cases h with
  | non => exact .base .non
  | bl _ c => exact .base (.bl c)
  | int _ i => exact .base (.int i)
  | str _ x _ => exact .base (.str x)
  | lst h1 _ _ => exact .base (.lst h1)
  | tup h1 _ => exact h1.ty
  | d0 h => exact .base (.dK h)
  | d1 h => exact .base (.dK h)
def isT : PyData → Bool
  | .tuple _ => true
  | _ => false
def isS : PyData → Bool
  | .str _ => true
  | _ => false
theorem kit_isT {K : PySem.W.Frag} (d : PyData) : PySem.W.kitOne K (tyD d) (.type "tuple") = some (isT d) := by
  cases d <;> first | exact kit_ty (r := false) (by decide +kernel) | exact kit_ty (r := true) (by decide +kernel)
theorem kit_isS {K : PySem.W.Frag} (d : PyData) : PySem.W.kitOne K (tyD d) (.type "str") = some (isS d) := by
  cases d <;> first | exact kit_ty (r := false) (by decide +kernel) | exact kit_ty (r := true) (by decide +kernel)
/-! ### repr -/
section
variable {X : Cx} {pins : List (Addr × Obj)} {σ : L2.St} {H : Hp} {s : Shared} {p : Addr → Prop}
theorem dk_reads {a : Addr} {kvs : List (Key × V)} (I : Inv X pins σ H s) (h : H a = some (.dK kvs)) : (a == sysModules) = false ∧ ∃ (vs : List (Key × Value)) (o : Obj) (es : Array DictEntry) (ep : Nat), KV kvs vs ∧ s.heap.get? a = some o ∧ o.cls = .type "dict" ∧ o.data = .dict es ep ∧ Pairs (mixKind X.prog X.w) es.toList vs := by
  obtain ⟨_, hm, vs, r, o, es, ep, h1, h2, h3, _, h5, _⟩ := dk_of I.hok h
  exact ⟨hm, vs, o, es, ep, r, h1, h2.1, h3, h5⟩
mutual
theorem Dq.reads (I : Inv X pins σ H s) : ∀ (b : Bool) (d : PyData) (v : V) (u : Value), Dq p H b v d → RelV v u → ∃ as, Reads s.heap u d as ∧ (b = false → sysModules ∉ as) ∧ (b = true → d.hasDict = false)
  | _, .none, _, _, h, r => by
    cases h
    cases r
    exact ⟨_, Reads.none, fun _ h => (by cases h), fun _ => rfl⟩
  | _, .bool c, _, _, h, r => by
    cases h
    cases r
    exact ⟨_, Reads.bool c, fun _ h => (by cases h), fun _ => rfl⟩
  | _, .int i, _, _, h, r => by
    cases h
    obtain ⟨t, rfl⟩ := r
    exact ⟨_, Reads.int i t, fun _ h => (by cases h), fun _ => rfl⟩
  | _, .str x, _, _, h, r => by
    cases h
    obtain ⟨t, rfl⟩ := r
    exact ⟨_, Reads.str x t, fun _ h => (by cases h), fun _ => rfl⟩
  | _, .list ds, _, _, h, r => by
    cases h with
    | lst hs hn ha =>
      cases r
      obtain ⟨its, rv, ⟨o, n, ho, hc, _, hd⟩, _⟩ := I.list (SqL.of hs)
      obtain ⟨as, hr, h1, h2⟩ := Dq.readsAll I _ ds _ its ha rv
      exact ⟨_, Reads.list ho hc hd hr, fun z => (by cases z), fun _ => h2 rfl⟩
  | b, .tuple ds, _, _, h, r => by
    cases h with
    | tup hs ha =>
      cases r
      obtain ⟨its, rv, ⟨o, ho, hc, n, hd⟩, _⟩ := I.tuple hs.sqt
      obtain ⟨as, hr, h1, h2⟩ := Dq.readsAll I b ds _ its ha rv
      exact ⟨_, Reads.tuple ho hc hd hr, h1, h2⟩
  | _, .dict kvs, _, _, h, r => by
    cases h with
    | d0 h =>
      cases r
      obtain ⟨hm, vs, o, es, ep, rk, h1, h2, h3, h4⟩ := dk_reads I h
      cases rk
      have e : es.toList = [] := by
        generalize es.toList = l at h4
        cases h4
        rfl
      refine ⟨_, Reads.dict (kvs := []) (as := []) (bs := []) h1 h2 h3 (by rw [e]; exact .nil) (by rw [e]; exact .nil), fun _ hz => ?_, fun z => (by cases z)⟩
      simp at hz
      rw [hz] at hm
      exact absurd hm (by simp)
    | d1 h =>
      cases r
      obtain ⟨hm, vs, o, es, ep, rk, h1, h2, h3, h4⟩ := dk_reads I h
      cases rk with
      | @cons q1 q2 _ _ rq rt =>
      cases rt
      obtain ⟨rq1, rq2⟩ := rq
      obtain ⟨k, e1, e2, e3⟩ : ∃ k : DictEntry, es.toList = [k] ∧ keyIs q2.1 k.key = true ∧ k.val = q2.2 := by
        generalize es.toList = l at h4
        cases h4 with
        | cons z1 z2 z3 =>
          cases z3
          exact ⟨_, rfl, z1, z2⟩
      rw [← rq1] at e2
      rcases keyIs_shape e2 with ⟨i, t, z, _⟩ | ⟨x, t, z, hk⟩
      · cases z
      cases z
      obtain ⟨u, hu⟩ := rq2
      rw [hu] at e3
      refine ⟨_, Reads.dict (kvs := [(.str "i", .int 1)]) (as := []) (bs := []) h1 h2 h3 (by rw [e1]; show ReadsAll _ [k.key] _ _; rw [hk]; exact .cons (as := []) (bs := []) (.str _ _) .nil) (by rw [e1]; show ReadsAll _ [k.val] _ _; rw [e3]; exact .cons (as := []) (bs := []) (.int _ _) .nil), fun _ hz => ?_, fun z => (by cases z)⟩
      simp at hz
      rw [hz] at hm
      exact absurd hm (by simp)
theorem Dq.readsAll (I : Inv X pins σ H s) : ∀ (b : Bool) (ds : List PyData) (vs : List V) (us : List Value), DqAll p H b vs ds → Vals vs us → ∃ as, ReadsAll s.heap us ds as ∧ (b = false → sysModules ∉ as) ∧ (b = true → PyData.hasDictAll ds = false)
  | _, [], _, _, h, r => by
    cases h
    cases r
    exact ⟨_, ReadsAll.nil, fun _ h => (by cases h), fun _ => rfl⟩
  | b, d :: ds, _, _, h, r => by
    cases h with
    | cons h1 h2 =>
      cases r with
      | cons r1 r2 =>
        obtain ⟨as, q1, n1, k1⟩ := Dq.reads I b d _ _ h1 r1
        obtain ⟨bs, q2, n2, k2⟩ := Dq.readsAll I b ds _ _ h2 r2
        refine ⟨_, ReadsAll.cons q1 q2, fun z hm => (List.mem_append.mp hm).elim (n1 z) (n2 z), fun z => ?_⟩
        simp only [PyData.hasDictAll, k1 z, k2 z, Bool.or_self]
end
end
/-- showable, of depth n and weight w at most -/
structure Rq (n w : Nat) (d : PyData) : Prop where
  sh : d.showable = true
  dp : d.depth ≤ n
  lv : d.leavesShort 13 = true
  wt : d.weight ≤ w
def rReprQ : List V → Hp → VK → Prop := fun xs H Q => ∃ p b v d, xs = [v] ∧ Dq p H b v d ∧ Rq 60 (2 ^ 20) d ∧ Q (.str d.shown) H
theorem call_reprQ {X : Cx} (hg : Idle X.A) (hu : X.A.units + 64 < cLine) : CallR X (.builtin "repr") rReprQ := by
  intro pins s σ H xs us Q I r h
  obtain ⟨p, b, v, d, rfl, hd, ⟨hs, hdp, hl, hw⟩, q⟩ := h
  have hz : d.shown.length ≤ sizeLine := PyData.shown_fits (B := 13) (by decide) (by decide) hl hw
  obtain ⟨u, rfl, ru⟩ := vals1 r
  obtain ⟨as, rd, h1, h2⟩ := Dq.reads I b d v u hd ru
  have hsm : d.hasDict = true → sysModules ∉ as := fun e => by
    cases b with
    | false => exact h1 rfl
    | true => rw [h2 rfl] at e; cases e
  have fin : ∀ a, u = .ref a → wpAny (model X.prog X.w) X.A (call (.builtin "repr") [u]) (EP X pins σ Q) X.xe s := by
    rintro a rfl
    refine PySem.repr_of_reads' rd hs hsm hg (by omega) (fun _ _ e => e) (fun h' u tk hk => ?_) hz
    exact ⟨.str d.shown, H, I.kept (t' := tk) hk, ⟨_, rfl⟩, q⟩
  cases hd with
  | non =>
    cases ru
    exact PySem.P.repr_of_none ⟨.str "None", H, I.tok _, ⟨_, rfl⟩, q⟩
  | bl _ b =>
    cases ru
    exact PySem.P.repr_of_bool ⟨.str (if b then "True" else "False"), H, I.tok _, ⟨_, rfl⟩, q⟩
  | int _ i =>
    obtain ⟨t, rfl⟩ := ru
    exact PySem.P.repr_of_int (of_decide_eq_true hs) ⟨.str (toString i), H, I.tok _, ⟨_, rfl⟩, q⟩
  | str _ x _ =>
    obtain ⟨t, rfl⟩ := ru
    exact PySem.P.repr_of_str ⟨.str (reprText x), H, I.tok _, ⟨_, rfl⟩, q⟩ hz
  | lst hq _ ha => exact fin _ ru
  | tup hq ha => exact fin _ ru
  | d0 _ => exact fin _ ru
  | d1 _ => exact fin _ ru
end Od

set_option maxRecDepth 100000
set_option maxHeartbeats 4000000
/-! interfaces judged: what the checks answer for any data -/
namespace Od
open PySem PySem.Spec PyProof.Rows L2 Ly
def nameB : PyData → Bool
  | .str z => nameOk z
  | _ => false
def strOf : PyData → Str
  | .str z => z
  | _ => Str.empty
def txts (ds : List PyData) : List Str := ds.map strOf
def portsB : PyData → Bool
  | .tuple ds => decide (ds.length ≤ 8) && ds.all nameB && decide (txts ds).Nodup
  | _ => false
def portN : PyData → List Str
  | .tuple ds => txts ds
  | _ => []
def partB (d : PyData) (ns : List Str) : Bool := portsB d && decide (portN d = ns.filter fun x => decide (x ∈ portN d))
def fnB (i o : List Str) : PyData → Bool
  | .tuple [a, b] => partB a o && decide (portN a ≠ []) && partB b i
  | _ => false
def fnOuts : PyData → List Str
  | .tuple (a :: _) => portN a
  | _ => []
def firstOf (o : List Str) (d : PyData) : Nat := o.idxOf ((fnOuts d).headD Str.empty)
def profB (i o : List Str) : PyData → Bool
  | .tuple fs => fs.all (fnB i o) && (fs.flatMap fnOuts).isPerm o && decide ((fs.map fun f => ((firstOf o f : Nat) : Int)).Pairwise (· ≤ ·))
  | _ => false
def ifcB : PyData → Bool
  | .tuple [a, b, c] => portsB a && portsB b && decide (portN a ++ portN b).Nodup && profB (portN a) (portN b) c
  | _ => false
theorem names_txt : ∀ {ds : List PyData}, ds.all nameB = true → ds = (txts ds).map .str ∧ ∀ x ∈ txts ds, nameOk x = true
  | [], _ => ⟨rfl, fun x hx => (by cases hx)⟩
  | d :: ds, h => by
    rw [List.all_cons, Bool.and_eq_true] at h
    obtain ⟨h1, h2⟩ := names_txt h.2
    cases d with
    | str z =>
      refine ⟨?_, fun x hx => ?_⟩
      · show _ = PyData.str z :: (txts ds).map .str
        rw [← h1]
      · rcases List.mem_cons.mp hx with rfl | hx
        · exact h.1
        · exact h2 x hx
    | _ => cases h.1
theorem portsB_tup {d : PyData} (h : portsB d = true) : d = .tuple ((portN d).map .str) ∧ PortsOk (portN d) := by
  cases d with
  | tuple ds =>
    have h : (decide (ds.length ≤ 8) && ds.all nameB && decide (txts ds).Nodup) = true := h
    rw [Bool.and_eq_true, Bool.and_eq_true] at h
    obtain ⟨⟨h1, h2⟩, h3⟩ := h
    obtain ⟨e1, e2⟩ := names_txt h2
    refine ⟨by show PyData.tuple ds = .tuple ((txts ds).map .str); rw [← e1], e2, of_decide_eq_true h3, ?_⟩
    show (ds.map strOf).length ≤ 8
    rw [List.length_map]
    exact of_decide_eq_true h1
  | _ => cases h
theorem portsB_of {ns : List Str} (h : PortsOk ns) : portsB (.tuple (ns.map .str)) = true := by
  have e : txts (ns.map .str) = ns := by
    unfold txts
    rw [List.map_map]
    exact List.map_id _
  show (decide ((ns.map PyData.str).length ≤ 8) && (ns.map PyData.str).all nameB && decide (txts (ns.map .str)).Nodup) = true
  rw [e, List.length_map, decide_eq_true h.2.2, decide_eq_true h.2.1]
  have : (ns.map PyData.str).all nameB = true := by
    rw [List.all_map, List.all_eq_true]
    exact fun x hx => h.1 x hx
  rw [this]
  rfl
theorem portN_of (ns : List Str) : portN (.tuple (ns.map .str)) = ns := by
  show (ns.map PyData.str).map strOf = ns
  rw [List.map_map]
  exact List.map_id _
theorem Dq.ports {p : Addr → Prop} {H : Hp} {b : Bool} {v : V} {d : PyData} (h : Dq p H b v d) (hp : portsB d = true) : ∃ a, v = .ref a ∧ KnT H a ((portN d).map V.str) ∧ PortsOk (portN d) := by
  obtain ⟨e, ok⟩ := portsB_tup hp
  rw [e] at h
  cases h with
  | tup h1 h2 =>
    have := h2.names
    subst this
    exact ⟨_, rfl, h1, ok⟩
theorem Dq.isT {p : Addr → Prop} {H : Hp} {b : Bool} {v : V} {d : PyData} (h : Dq p H b v d) (hp : isT d = true) : ∃ a xs ds, v = .ref a ∧ d = .tuple ds ∧ KnT H a xs ∧ DqAll p H b xs ds := by
  cases h with
  | tup h1 h2 => exact ⟨_, _, _, rfl, rfl, h1, h2⟩
  | _ => cases hp
theorem Dq.isS {p : Addr → Prop} {H : Hp} {b : Bool} {v : V} {d : PyData} (h : Dq p H b v d) (hp : isS d = true) : ∃ z, v = .str z ∧ d = .str z ∧ SgOk z := by
  cases h with
  | str _ z hz => exact ⟨z, rfl, rfl, hz⟩
  | _ => cases hp
theorem portsB_not {d : PyData} (h : isT d = false) : portsB d = false := by
  cases d <;> first | rfl | cases h
theorem nameB_not {d : PyData} (h : isS d = false) : nameB d = false := by
  cases d <;> first | rfl | cases h
theorem profB_not {i o : List Str} {d : PyData} (h : isT d = false) : profB i o d = false := by
  cases d <;> first | rfl | cases h
theorem ifcB_not {d : PyData} (h : isT d = false) : ifcB d = false := by
  cases d <;> first | rfl | cases h
/-! ### sizes -/
theorem rq_all {n w : Nat} : ∀ {ds : List PyData}, PyData.showableAll ds = true → PyData.depthAll ds ≤ n → PyData.leavesShortAll 13 ds = true → PyData.weightAll ds ≤ w → ds.length ≤ w ∧ ∀ d ∈ ds, Rq n w d
  | [], _, _, _, _ => ⟨Nat.zero_le _, fun d hd => (by cases hd)⟩
  | d :: ds, h1, h2, h3, h4 => by
    simp only [PyData.showableAll, Bool.and_eq_true] at h1
    simp only [PyData.depthAll] at h2
    simp only [PyData.leavesShortAll, Bool.and_eq_true] at h3
    simp only [PyData.weightAll] at h4
    obtain ⟨k1, k2⟩ := rq_all (n := n) (w := PyData.weightAll ds) h1.2 (by omega) h3.2 (Nat.le_refl _)
    refine ⟨by rw [List.length_cons]; omega, fun e he => ?_⟩
    rcases List.mem_cons.mp he with rfl | he
    · exact ⟨h1.1, by omega, h3.1, by omega⟩
    · obtain ⟨z1, z2, z3, z4⟩ := k2 e he
      exact ⟨z1, z2, z3, by omega⟩
theorem Rq.tup {n w : Nat} {ds : List PyData} (h : Rq n w (.tuple ds)) : ds.length ≤ w ∧ ∀ d ∈ ds, Rq n w d := by
  obtain ⟨h1, h2, h3, h4⟩ := h
  simp only [PyData.depth] at h2
  exact rq_all (n := n) h1 (by omega) h3 h4
theorem Rq.str {n w : Nat} {z : Str} (h : Rq n w (.str z)) : z.length ≤ w := h.wt
theorem rq_of {n w : Nat} {d : PyData} (h : Rep n w d) : Rq n w d := ⟨h.sh, h.dp, h.lv, h.wt⟩
theorem Rq.mono {n w n' w' : Nat} {d : PyData} (h : Rq n w d) (h1 : n ≤ n') (h2 : w ≤ w') : Rq n' w' d := ⟨h.sh, Nat.le_trans h.dp h1, h.lv, Nat.le_trans h.wt h2⟩
/-- small data in a row -/
structure Rqs (n w : Nat) (ds : List PyData) : Prop where
  sh : PyData.showableAll ds = true
  dp : PyData.depthAll ds ≤ n
  lv : PyData.leavesShortAll 13 ds = true
  wt : PyData.weightAll ds ≤ w
theorem rqs_nil {n w : Nat} : Rqs n w [] := ⟨rfl, Nat.zero_le _, rfl, Nat.zero_le _⟩
theorem rqs_cons {n w w1 w2 : Nat} {d : PyData} {ds : List PyData} (h : Rq n w1 d) (hs : Rqs n w2 ds) (hw : w1 + 1 + w2 ≤ w) : Rqs n w (d :: ds) := by
  refine ⟨?_, ?_, ?_, ?_⟩
  · simp only [PyData.showableAll, h.sh, hs.sh, Bool.and_self]
  · simp only [PyData.depthAll]; exact Nat.max_le.mpr ⟨h.dp, hs.dp⟩
  · simp only [PyData.leavesShortAll, h.lv, hs.lv, Bool.and_self]
  · simp only [PyData.weightAll]; have := h.wt; have := hs.wt; omega
theorem rqs_all {n w : Nat} : ∀ {ds : List PyData}, (∀ d ∈ ds, Rq n w d) → Rqs n ((w + 1) * ds.length) ds
  | [], _ => rqs_nil
  | d :: r, h => rqs_cons (h d List.mem_cons_self) (rqs_all fun x hx => h x (List.mem_cons_of_mem _ hx)) (by rw [List.length_cons, Nat.mul_add]; omega)
theorem rq_tup {n w : Nat} {ds : List PyData} (h : Rqs n w ds) : Rq (n + 1) w (.tuple ds) := ⟨h.sh, Nat.succ_le_succ h.dp, h.lv, h.wt⟩
theorem rq_lst {n w : Nat} {ds : List PyData} (h : Rqs n w ds) : Rq (n + 1) w (.list ds) := ⟨h.sh, Nat.succ_le_succ h.dp, h.lv, h.wt⟩
/-- a row of n data of width m, depth k, weight w -/
theorem rq_row {k w m : Nat} {ds : List PyData} (h : ∀ d ∈ ds, Rq k w d) (hm : ds.length ≤ m) : Rq (k + 1) ((w + 1) * m) (.tuple ds) :=
  (rq_tup (rqs_all h)).mono (Nat.le_refl _) (Nat.mul_le_mul_left _ hm)
theorem rq_rowL {k w m : Nat} {ds : List PyData} (h : ∀ d ∈ ds, Rq k w d) (hm : ds.length ≤ m) : Rq (k + 1) ((w + 1) * m) (.list ds) :=
  (rq_lst (rqs_all h)).mono (Nat.le_refl _) (Nat.mul_le_mul_left _ hm)
/-! ### promises -/
abbrev RQ (d : PyData) : Prop := Rq 10 12000 d
theorem RQ.big {d : PyData} (h : RQ d) : Rq 60 (2 ^ 20) d := h.mono (by decide) (by decide)
def spNameQ : Sp := fun vs H Q _ => ∃ (p : Addr → Prop) (b : Bool) (v : V) (d : PyData), vs = [v] ∧ Dq p H b v d ∧ RQ d ∧ ∀ H', Same H H' → Q (.bl (nameB d)) H'
def spPortsQ : Sp := fun vs H Q _ => ∃ (p : Addr → Prop) (b : Bool) (v : V) (d : PyData), vs = [v] ∧ Dq p H b v d ∧ RQ d ∧ ∀ H', Same H H' → Q (.bl (portsB d)) H'
def spPartQ : Sp := fun vs H Q _ => ∃ (p : Addr → Prop) (b : Bool) (v : V) (d : PyData) (n : Addr) (ns : List Str), vs = [v, .ref n] ∧ Dq p H b v d ∧ RQ d ∧ KnT H n (ns.map V.str) ∧ PortsOk ns ∧ ∀ H', Same H H' → Q (.bl (partB d ns)) H'
def spProfQ : Sp := fun vs H Q _ => ∃ (p : Addr → Prop) (b : Bool) (v : V) (d : PyData) (i o : Addr) (is os : List Str), vs = [v, .ref i, .ref o] ∧ Dq p H b v d ∧ RQ d ∧ KnT H i (is.map V.str) ∧ PortsOk is ∧ KnT H o (os.map V.str) ∧ PortsOk os ∧ ∀ H', Same H H' → Q (.bl (profB is os d)) H'
def spIfQ : Sp := fun vs H Q _ => ∃ (p : Addr → Prop) (b : Bool) (v : V) (d : PyData), vs = [v] ∧ Dq p H b v d ∧ RQ d ∧ ∀ H', Same H H' → Q (.bl (ifcB d)) H'
theorem ded_eq (xs : List Str) : ((dedS xs).length = xs.length) ↔ xs.Nodup := by
  have h1 := ded_lt xs
  have h2 := ded_len xs
  constructor
  · intro h
    by_cases hn : xs.Nodup
    · exact hn
    · exact absurd (h1.mpr hn) (by omega)
  · intro h
    by_cases e : (dedS xs).length = xs.length
    · exact e
    · exact absurd h (h1.mp (by omega))
theorem eqv_str2 : ∀ (xs ys : List Str), PyData.eqvAll (xs.map .str) (ys.map .str) = decide (xs = ys)
  | [], [] => by rw [decide_eq_true rfl]; rfl
  | [], _ :: _ => by rw [decide_eq_false (fun e => by cases e)]; rfl
  | _ :: _, [] => by rw [decide_eq_false (fun e => by cases e)]; rfl
  | x :: xs, y :: ys => by
    show (PyData.eqv (.str x) (.str y) && PyData.eqvAll (xs.map .str) (ys.map .str)) = _
    rw [eqv_str2 xs ys]
    have : PyData.eqv (.str x) (.str y) = decide (x = y) := by
      show (x == y) = _
      by_cases e : x = y
      · rw [e, decide_eq_true rfl]; simp
      · rw [decide_eq_false e]; simpa using e
    rw [this]
    by_cases e1 : x = y <;> by_cases e2 : xs = ys <;> simp [e1, e2]
theorem eqv_int2 : ∀ (xs ys : List Int), PyData.eqvAll (xs.map .int) (ys.map .int) = decide (xs = ys)
  | [], [] => by rw [decide_eq_true rfl]; rfl
  | [], _ :: _ => by rw [decide_eq_false (fun e => by cases e)]; rfl
  | _ :: _, [] => by rw [decide_eq_false (fun e => by cases e)]; rfl
  | x :: xs, y :: ys => by
    show (PyData.eqv (.int x) (.int y) && PyData.eqvAll (xs.map .int) (ys.map .int)) = _
    rw [eqv_int2 xs ys]
    have : PyData.eqv (.int x) (.int y) = decide (x = y) := by
      show (x == y) = _
      by_cases e : x = y
      · rw [e, decide_eq_true rfl]; simp
      · rw [decide_eq_false e]; simpa using e
    rw [this]
    by_cases e1 : x = y <;> by_cases e2 : xs = ys <;> simp [e1, e2]
/-- sorted lists are equal exactly if they have the same items -/
theorem sort_perm {xs ys us vs : List Str} (h1 : ys.Perm xs) (h2 : sortedS ys = true) (k1 : vs.Perm us) (k2 : sortedS vs = true) : decide (ys = vs) = xs.isPerm us := by
  rw [Bool.eq_iff_iff, decide_eq_true_iff, List.isPerm_iff]
  exact ⟨fun e => h1.symm.trans (e ▸ k1), fun e => sortedS_one h2 k2 ((h1.trans e).trans k1.symm)⟩
theorem sort_self {ns ms : List Int} (h1 : ms.Perm ns) (h2 : ms.Pairwise (· ≤ ·)) : decide (ns = ms) = decide (ns.Pairwise (· ≤ ·)) := by
  rw [Bool.eq_iff_iff, decide_eq_true_iff, decide_eq_true_iff]
  exact ⟨fun e => e ▸ h2, fun e => ints_one e h2 h1.symm⟩
end Od

set_option maxRecDepth 100000
set_option maxHeartbeats 4000000
/-! sorted(l), any number of texts -/
namespace Od
open PySem PySem.Spec PyProof.Rows L2 Ly
section
variable {X : Cx}
def rSortedLS (K : PySem.W.Frag) : List V → Hp → VK → Prop := fun vs H Q => ∃ (a : Addr) (xs : List Str), vs = [V.ref a] ∧ SqL K H a (xs.map V.str) ∧ ∀ (ys : List Str) (p : Addr), ys.Perm xs → sortedS ys = true → H p = none → Q (.ref p) (upd H p (.lst (ys.map V.str)))
theorem cr_sortedLS (K : PySem.W.Frag) (hK : X.K = K := by rfl) : CallR X (.builtin "sorted") (rSortedLS K) := by
  subst hK
  intro pins s σ H vs us Q I r h
  obtain ⟨a, xs, rfl, hs, q⟩ := h
  obtain ⟨its, rv, hl, hz⟩ := I.list hs
  rw [Vals.ref1 r]
  have hlen0 := rv.length
  have hS := rv.strs
  obtain ⟨o, n, ho, hc, _, hd⟩ := hl
  refine Calls.call_function_entry kind_sorted plain_sorted entry_sorted (args_sorted1 _) ?_
  unfold Builtin.«sorted»
  refine wpAny_bind (m := checkCount "sorted" 1 1 _) (wpAny_pure ?_)
  refine wpAny_bind (wpAny_collect_seq a (.inl rfl) ho hc hd (fun h' kp => ?_) (by simp only [List.size_toArray]; omega))
  have I' : Inv X pins σ H { s with heap := h' } := I.kept (t' := s.toks) kp
  have hL : its.length ≤ sizeLine := by omega
  show wpAny _ _ _ _ _ { s with heap := h' }
  refine wpAny_bind (wpAny_newList ?_ hL)
  have hoL : (h'.push (seqObj "list" its.toArray 0)).get? h'.objs.size = some (seqObj "list" its.toArray 0) := Heap.get?_push_size _ rfl
  show wpAny _ _ _ _ _ { s with heap := h'.push (seqObj "list" its.toArray 0) }
  refine wpAny_bind (wpAny_holding (wpAny_call_entry slot_list_sort ⟨_, hoL, rfl⟩ entry_list_sort (list_sort_treeKAny strKind_oneLt hoL hS.keysOf (fun v₁ v₂ rest e => keyKind_strs (by rw [← e]; exact hS)) hL fun st' hp hs => ⟨_, rfl, ?_⟩) (args_list_sort _)))
  obtain ⟨ys, h1, h2, h3⟩ := sorted_out_str hS hp hs
  obtain ⟨ep, he'⟩ := PyProof.Rows.sortedHeap_at (vs := its) (out := (arrOf st').map (·.2)) hoL
  have hlen : (ys.map V.str).length ≤ sizeLine := by
    rw [List.length_map, h2.length_eq]
    rw [List.length_map] at hz
    exact hz
  refine wpAny_pure ⟨_, rfl, .ref h'.objs.size, upd H h'.objs.size (.lst (ys.map V.str)), I'.laid (t' := s.toks) (fun b u hb => ?_) (Nat.le_refl _) ⟨hlen, _, ep, vals_of_strs h1, he'⟩, rfl, q ys _ h2 h3 (I'.hok.fresh (Nat.le_refl _))⟩
  have hb' : (h'.push (seqObj "list" its.toArray 0)).get? b = some u := Heap.get?_push_of_some _ hb
  rw [sortedHeap_old (Nat.ne_of_lt (Heap.lt_size hb)) (Heap.lt_size hb')]
  exact hb'
theorem cr_sortedIK (K : PySem.W.Frag) (hK : X.K = K := by rfl) : CallR X (.builtin "sorted") (rSortedI K) := hK ▸ cr_sortedI
end
end Od

set_option maxRecDepth 100000
set_option maxHeartbeats 4000000
/-! drawn interfaces, bent ones: sizes and promises -/
namespace Od
open PySem PySem.Spec PyProof.Rows L2 Ly
structure IfSm (i o : List Str) (fs : List Fnc) : Prop where
  i8 : i.length ≤ 8
  o8 : o.length ≤ 8
  f8 : fs.length ≤ 8
  fl : ∀ f ∈ fs, f.1.length ≤ 8 ∧ f.2.length ≤ 8
  ni : ∀ x ∈ i, OkT 9 x
  no : ∀ x ∈ o, OkT 9 x
  nf : ∀ f ∈ fs, (∀ x ∈ f.1, OkT 9 x) ∧ ∀ x ∈ f.2, OkT 9 x
theorem rq_s {m : Nat} {z : Str} (h : OkT 9 z) : Rq m 9 (.str z) := rq_of (rep_okT h (Nat.le_refl _))
theorem rq_tx {xs : List Str} (hl : xs.length ≤ 8) (h : ∀ x ∈ xs, OkT 9 x) : Rq 1 80 (dTx xs) :=
  (rq_row (k := 0) (w := 9) (m := 8) (ds := xs.map .str) (fun d hd => by
    obtain ⟨x, hx, rfl⟩ := List.mem_map.mp hd
    exact rq_s (h x hx)) (by rw [List.length_map]; exact hl)).mono (Nat.le_refl _) (by decide)
theorem rq_fn {f : Fnc} (h1 : f.1.length ≤ 8) (h2 : f.2.length ≤ 8) (k1 : ∀ x ∈ f.1, OkT 9 x) (k2 : ∀ x ∈ f.2, OkT 9 x) : Rq 2 162 (dFn f) :=
  rq_tup (rqs_cons (w2 := 81) (rq_tx h1 k1) (rqs_cons (w2 := 0) (rq_tx h2 k2) rqs_nil (by decide)) (by decide))
theorem IfSm.fn {i o : List Str} {fs : List Fnc} (h : IfSm i o fs) : ∀ d ∈ fs.map dFn, Rq 2 162 d := fun d hd => by
  obtain ⟨f, hf, rfl⟩ := List.mem_map.mp hd
  exact rq_fn (h.fl f hf).1 (h.fl f hf).2 (h.nf f hf).1 (h.nf f hf).2
theorem IfSm.pf {i o : List Str} {fs : List Fnc} (h : IfSm i o fs) : Rq 3 1304 (.tuple (fs.map dFn)) :=
  (rq_row (m := 8) h.fn (by rw [List.length_map]; exact h.f8)).mono (Nat.le_refl _) (by decide)
theorem rq3 {n w1 w2 w3 : Nat} {a b c : PyData} (ha : Rq n w1 a) (hb : Rq n w2 b) (hc : Rq n w3 c) : Rq (n + 1) (w1 + w2 + w3 + 3) (.tuple [a, b, c]) :=
  rq_tup (rqs_cons (w2 := w2 + w3 + 2) ha (rqs_cons (w2 := w3 + 1) hb (rqs_cons (w2 := 0) hc rqs_nil (by omega)) (by omega)) (by omega))
theorem IfSm.rq {i o : List Str} {fs : List Fnc} (h : IfSm i o fs) : Rq 4 1500 (dIf i o fs) :=
  (rq3 ((rq_tx h.i8 h.ni).mono (by decide) (Nat.le_refl _)) ((rq_tx h.o8 h.no).mono (by decide) (Nat.le_refl _)) h.pf).mono (Nat.le_refl _) (by decide)
theorem okS_T {n : Nat} {z : Str} (h : OkT n z) : OkS z := okS_of fun c hc => by
  have := List.all_eq_true.mp h.sg c hc
  simpa using this
theorem IfSm.shp {i o : List Str} {fs : List Fnc} (h : IfSm i o fs) : SeqAt.shaped (.tuple (fs.map dFn)) = true := by
  obtain ⟨c1, c2⟩ := shp_list (f := dFn) (k := 2) (by decide) (l := fs) fun f hf => shp_fn (fun x hx => okS_T ((h.nf f hf).1 x hx)) (fun x hx => okS_T ((h.nf f hf).2 x hx))
  show (PyData.canLayAll0 (fs.map dFn) && decide (PyData.depthAll (fs.map dFn) + 1 ≤ 64)) = true
  rw [c1, decide_eq_true (by omega)]
  rfl
theorem eqv_nilT {ds : List PyData} : PyData.eqv (.tuple ds) (.tuple []) = decide (ds = []) := by
  cases ds with
  | nil => rfl
  | cons d ds => rw [decide_eq_false (by simp)]; rfl
mutual
theorem Dq.dp {K : PySem.W.Frag} {p : Addr → Prop} {H : Hp} : ∀ {d : PyData} {v : V}, Dq p H true v d → Dp K H v d
  | _, _, .non _ => .non
  | _, _, .bl _ c => .bl c
  | _, _, .int _ i => .int i
  | _, _, .str _ x _ => .str x
  | _, _, .lst h1 _ h2 => .lst (SqL.of h1) (DqAll.dp h2)
  | _, _, .tup h1 h2 => .tup h1.sqt (DqAll.dp h2)
theorem DqAll.dp {K : PySem.W.Frag} {p : Addr → Prop} {H : Hp} : ∀ {ds : List PyData} {vs : List V}, DqAll p H true vs ds → DpAll K H vs ds
  | _, _, .nil _ => .nil
  | _, _, .cons h1 h2 => .cons (Dq.dp h1) (DqAll.dp h2)
end
/-- data that is neither list nor dict, at any depth: fits both kinds -/
def Both (H : Hp) (v : V) (d : PyData) : Prop := ∀ S b, Dq S H b v d
def BothAll (H : Hp) (vs : List V) (ds : List PyData) : Prop := ∀ S b, DqAll S H b vs ds
theorem both_tup {H : Hp} {a : Addr} {xs : List V} {ds : List PyData} (h : KnT H a xs) (k : BothAll H xs ds) : Both H (.ref a) (.tuple ds) := fun S b => .tup h (k S b)
theorem both_nil {H : Hp} : BothAll H [] [] := fun S b => .nil b
theorem both_cons {H : Hp} {v : V} {vs : List V} {d : PyData} {ds : List PyData} (h : Both H v d) (k : BothAll H vs ds) : BothAll H (v :: vs) (d :: ds) := fun S b => .cons (h S b) (k S b)
theorem both_strs {H : Hp} {xs : List Str} (h : ∀ x ∈ xs, OkT 9 x) : BothAll H (xs.map V.str) (xs.map .str) := fun S b => DqAll.strs b xs fun x hx => (h x hx).sg
theorem both_tx {H : Hp} {a : Addr} {xs : List Str} (h : KnT H a (xs.map V.str)) (k : ∀ x ∈ xs, OkT 9 x) : Both H (.ref a) (dTx xs) := both_tup h (both_strs k)
theorem both_int {H : Hp} (i : Int) : Both H (.int i) (.int i) := fun S b => .int b i
theorem knt_inj {H : Hp} {a : Addr} {xs ys : List V} (k1 : KnT H a xs) (l1 : KnT H a ys) : xs = ys := by
  obtain ⟨o1, g1, _⟩ := k1
  obtain ⟨o2, g2, _⟩ := l1
  rw [g1] at g2
  cases g2
  rfl
theorem Both.tup_inv {H : Hp} {v : V} {ds : List PyData} (h : Both H v (.tuple ds)) : ∃ a xs, v = .ref a ∧ KnT H a xs ∧ BothAll H xs ds := by
  have h1 := h (fun _ => True) true
  cases h1 with
  | @tup _ a xs _ k1 k2 =>
    refine ⟨a, xs, rfl, k1, fun S b => ?_⟩
    have h2 := h S b
    cases h2 with
    | @tup _ _ ys _ l1 l2 =>
      rw [knt_inj k1 l1]
      exact l2
theorem BothAll.get {H : Hp} {vs : List V} {ds : List PyData} (h : BothAll H vs ds) {i : Nat} {v : V} (e : vs[i]? = some v) : ∃ d, ds[i]? = some d ∧ Both H v d := by
  obtain ⟨d, h1, _⟩ := (h (fun _ => True) true).get e
  refine ⟨d, h1, fun S b => ?_⟩
  obtain ⟨d', h2, h3⟩ := (h S b).get e
  rw [h1] at h2
  cases h2
  exact h3
theorem Both.sx {p : Addr} {H H' : Hp} {v : V} {d : PyData} {bs : List V} (h : Both H v d) (s : SameX p H H') (hp : H p = some (.lst bs)) : Both H' v d := fun S b => (Dq.sx s hp (S := fun q => S q ∨ q = p) (.inr rfl) (h _ b)).weak fun q z => .inl z
theorem BothAll.sx {p : Addr} {H H' : Hp} {v : List V} {d : List PyData} {bs : List V} (h : BothAll H v d) (s : SameX p H H') (hp : H p = some (.lst bs)) : BothAll H' v d := fun S b => (DqAll.sx s hp (S := fun q => S q ∨ q = p) (.inr rfl) (h _ b)).weak fun q z => .inl z
theorem Both.same {H H' : Hp} {v : V} {d : PyData} (h : Both H v d) (s : Same H H') : Both H' v d := fun S b => Dq.same s (h S b)
theorem BothAll.same {H H' : Hp} {v : List V} {d : List PyData} (h : BothAll H v d) (s : Same H H') : BothAll H' v d := fun S b => DqAll.same s (h S b)
/-- an odd thing that is put in -/
def OddV (p : Addr → Prop) (H : Hp) (v : V) : Prop := ∃ b d, Dq p H b v d ∧ Rq 2 20 d
theorem OddV.sx {S : Addr → Prop} {p : Addr} {H H' : Hp} {v : V} {bs : List V} (h : OddV S H v) (s : SameX p H H') (hp : H p = some (.lst bs)) (hS : S p) : OddV S H' v := let ⟨b, d, h1, h2⟩ := h; ⟨b, d, Dq.sx s hp hS h1, h2⟩
theorem OddV.same {p : Addr → Prop} {H H' : Hp} {v : V} (h : OddV p H v) (s : Same H H') : OddV p H' v := let ⟨b, d, h1, h2⟩ := h; ⟨b, d, Dq.same s h1, h2⟩
theorem odd_str {p : Addr → Prop} {H : Hp} {z : Str} (h : OkT 9 z) : OddV p H (.str z) := ⟨true, .str z, .str _ _ h.sg, (rq_s (m := 2) h).mono (Nat.le_refl _) (by decide)⟩
theorem odd_non {p : Addr → Prop} {H : Hp} : OddV p H .non := ⟨true, .none, .non _, by constructor <;> decide +kernel⟩
theorem odd_bl {p : Addr → Prop} {H : Hp} {b : Bool} : OddV p H (.bl b) := ⟨true, .bool b, .bl _ _, by cases b <;> constructor <;> decide +kernel⟩
theorem odd_int {p : Addr → Prop} {H : Hp} {i : Int} (h : 0 ≤ i ∧ i < 10) : OddV p H (.int i) := by
  refine ⟨true, .int i, .int _ _, ?_⟩
  obtain ⟨h0, h1⟩ := h
  have : i = 0 ∨ i = 1 ∨ i = 2 ∨ i = 3 ∨ i = 4 ∨ i = 5 ∨ i = 6 ∨ i = 7 ∨ i = 8 ∨ i = 9 := by omega
  rcases this with rfl | rfl | rfl | rfl | rfl | rfl | rfl | rfl | rfl | rfl <;> constructor <;> decide +kernel
theorem odd_l0 {p : Addr → Prop} {H : Hp} {a : Addr} (h : H a = some (.lst [])) (n : ¬ p a) : OddV p H (.ref a) := ⟨true, .list [], .lst h n (.nil _), by constructor <;> decide +kernel⟩
theorem odd_l1 {p : Addr → Prop} {H : Hp} {a : Addr} (h : H a = some (.lst [.str "i"])) (n : ¬ p a) : OddV p H (.ref a) := ⟨true, .list [.str "i"], .lst h n (.cons (.str _ _ (by decide +kernel)) (.nil _)), by constructor <;> decide +kernel⟩
theorem odd_d0 {p : Addr → Prop} {H : Hp} {a : Addr} (h : H a = some (.dK [])) : OddV p H (.ref a) := ⟨false, .dict [], .d0 h, by constructor <;> decide +kernel⟩
theorem odd_d1 {p : Addr → Prop} {H : Hp} {a : Addr} (h : H a = some (.dK kvI)) : OddV p H (.ref a) := ⟨false, .dict [(.str "i", .int 1)], .d1 h, by constructor <;> decide +kernel⟩
theorem odd_t0 {p : Addr → Prop} {H : Hp} {a : Addr} (h : KnT H a []) : OddV p H (.ref a) := ⟨true, .tuple [], .tup h (.nil _), by constructor <;> decide +kernel⟩
theorem odd_t1 {p : Addr → Prop} {H : Hp} {a : Addr} (h : KnT H a [.str "i"]) : OddV p H (.ref a) := ⟨true, .tuple [.str "i"], .tup h (.cons (.str _ _ (by decide +kernel)) (.nil _)), by constructor <;> decide +kernel⟩
theorem odd_t2 {p : Addr → Prop} {H : Hp} {a b c : Addr} (h : KnT H a [.ref b, .ref c]) (hb : KnT H b []) (hc : KnT H c []) : OddV p H (.ref a) := ⟨true, .tuple [.tuple [], .tuple []], .tup h (.cons (.tup hb (.nil _)) (.cons (.tup hc (.nil _)) (.nil _))), by constructor <;> decide +kernel⟩
theorem odd_t3 {p : Addr → Prop} {H : Hp} {a b c : Addr} (h : KnT H a [.ref b, .ref c]) (hb : KnT H b [.str "p"]) (hc : KnT H c []) : OddV p H (.ref a) := ⟨true, .tuple [.tuple [.str "p"], .tuple []], .tup h (.cons (.tup hb (.cons (.str _ _ (by decide +kernel)) (.nil _))) (.cons (.tup hc (.nil _)) (.nil _))), by constructor <;> decide +kernel⟩
/-- drawn data, of any kind -/
def AnyV (p : Addr → Prop) (H : Hp) (n w : Nat) (v : V) : Prop := ∃ b d, Dq p H b v d ∧ Rq n w d
theorem AnyV.mono {p : Addr → Prop} {H : Hp} {n w n' w' : Nat} {v : V} (h : AnyV p H n w v) (h1 : n ≤ n') (h2 : w ≤ w') : AnyV p H n' w' v := let ⟨b, d, k1, k2⟩ := h; ⟨b, d, k1, k2.mono h1 h2⟩
theorem AnyV.sx {S : Addr → Prop} {p : Addr} {H H' : Hp} {n w : Nat} {v : V} {bs : List V} (h : AnyV S H n w v) (s : SameX p H H') (hp : H p = some (.lst bs)) (hS : S p) : AnyV S H' n w v := let ⟨b, d, h1, h2⟩ := h; ⟨b, d, Dq.sx s hp hS h1, h2⟩
theorem AnyV.same {p : Addr → Prop} {H H' : Hp} {n w : Nat} {v : V} (h : AnyV p H n w v) (s : Same H H') : AnyV p H' n w v := let ⟨b, d, h1, h2⟩ := h; ⟨b, d, Dq.same s h1, h2⟩
theorem cut_to (xs : List V) (b : Nat) : cutV xs none (some (b : Int)) = xs.take b := by
  have := cut_any id xs b
  simpa using this
theorem cut_from (xs : List V) (b : Nat) : cutV xs (some (b : Int)) none = xs.drop b := by
  unfold cutV
  rw [HT.sIx_nat, HT.sIx_none]
  rcases Nat.le_total b xs.length with h | h
  · rw [Nat.min_eq_left h, List.take_of_length_le (by rw [List.length_drop]; exact Nat.le_refl _)]
  · rw [Nat.min_eq_right h, List.drop_of_length_le (Nat.le_refl _), List.drop_of_length_le h]
    simp
/-- a told tuple of drawn data -/
theorem any_tup {p : Addr → Prop} {H : Hp} {n w m : Nat} {a : Addr} {b : Bool} {xs : List V} {ds : List PyData} (h : KnT H a xs) (k : DqAll p H b xs ds) (hr : ∀ d ∈ ds, Rq n w d) (hl : ds.length ≤ m) : AnyV p H (n + 1) ((w + 1) * m) (.ref a) := ⟨b, _, .tup h k, rq_row hr hl⟩
theorem any_lst {p : Addr → Prop} {H : Hp} {n w m : Nat} {a : Addr} {xs : List V} {ds : List PyData} (h : H a = some (.lst xs)) (ne : ¬ p a) (k : DqAll p H true xs ds) (hr : ∀ d ∈ ds, Rq n w d) (hl : ds.length ≤ m) : AnyV p H (n + 1) ((w + 1) * m) (.ref a) := ⟨true, _, .lst h ne k, rq_rowL hr hl⟩
/-- the lists that stand in a heap -/
def Lsts (H : Hp) : Addr → Prop := fun q => ∃ bs, H q = some (.lst bs)
theorem not_lsts {H H' : Hp} {a : Addr} (s : ∀ q bs, H q = some (.lst bs) → ∃ u, H' q = some u) (h : H' a = none) : ¬ Lsts H a := fun ⟨bs, e⟩ => by
  obtain ⟨u, z⟩ := s a bs e
  rw [h] at z
  cases z
theorem lsts_sx {p : Addr} {H H' : Hp} (s : SameX p H H') {o : HO} (hp : H' p = some o) : ∀ q bs, H q = some (.lst bs) → ∃ u, H' q = some u := fun q bs e => by
  by_cases h : q = p
  · exact ⟨o, by rw [h]; exact hp⟩
  · exact ⟨_, s _ _ h e⟩
/-! ### promises of the draws -/
def spMade : Sp := fun vs H Q _ => ∃ (p : Addr) (a b : Int), vs = [.ref p] ∧ FeedAt H p a b ∧
  ∀ (v : V) (H' : Hp) (i o : List Str) (fs : List Fnc) (a' b' : Int), SameX p H H' → FeedAt H' p a' b' → Both H' v (dIf i o fs) → IfSm i o fs → Q v H'
/-- a tuple with one item changed -/
def spBentT : Sp := fun vs H Q _ => ∃ (p t : Addr) (xs : List V) (ds : List PyData) (n w : Nat) (a b : Int), vs = [.ref p, .ref t] ∧ FeedAt H p a b ∧ KnT H t xs ∧ BothAll H xs ds ∧ ds.length ≤ 8 ∧ (∀ d ∈ ds, Rq n w d) ∧ 2 ≤ n ∧ 20 ≤ w ∧
  ∀ (v : V) (H' : Hp) (a' b' : Int), SameX p H H' → FeedAt H' p a' b' → AnyV (Lsts H) H' (n + 1) ((w + 1) * 9) v → Q v H'
def spBent : Sp := fun vs H Q _ => ∃ (p : Addr) (v : V) (i o : List Str) (fs : List Fnc) (a b : Int), vs = [.ref p, v] ∧ FeedAt H p a b ∧ Both H v (dIf i o fs) ∧ IfSm i o fs ∧
  ∀ (v' : V) (H' : Hp) (a' b' : Int), SameX p H H' → FeedAt H' p a' b' → AnyV (Lsts H) H' 10 12000 v' → Q v' H'
def spBounds : Sp := fun vs H Q _ => ∃ (p : Addr) (a b : Int), vs = [.ref p] ∧ FeedAt H p a b ∧ ∀ (H' : Hp) (a' b' : Int), SameX p H H' → FeedAt H' p a' b' → Q (.bl true) H'
end Od

set_option maxRecDepth 100000
set_option maxHeartbeats 4000000
namespace K22
open PySem L2 Ly Od
local macro_rules | `(tactic| walk_at "nx") => `(tactic| dsimp only [tNext])
def top (i : Nat) : Stmt := PySem.Challenge.pw_stepblocks_k22_interfaces_judged.main.body.getD i (.Pass ⟨0, 0, 0, 0⟩)
abbrev s_is_name : Stmt := top 4
abbrev s_are_ports : Stmt := top 7
abbrev s_is_part_of : Stmt := top 8
abbrev s_is_profile : Stmt := top 9
abbrev s_is_interface : Stmt := top 10
abbrev s_law_feed : Stmt := top 12
abbrev s_law_take : Stmt := top 13
abbrev s_law_pick : Stmt := top 14
abbrev s_law_made_up : Stmt := top 15
abbrev s_law_is_name : Stmt := top 16
abbrev s_law_are_ports : Stmt := top 17
abbrev s_law_is_interface : Stmt := top 18
abbrev s_law_wide : Stmt := top 19
abbrev s_law_bent_tuple : Stmt := top 20
abbrev s_law_bent : Stmt := top 21
abbrev s_law_bounds_are_right : Stmt := top 22
abbrev s_law : Stmt := top 23
structure Adr where
  t_MAX_NAME : Tok
  t_MAX_PORTS : Tok
  t_LETTERS : Tok
  f_is_name : Addr
  f_are_ports : Addr
  f_is_part_of : Addr
  f_is_profile : Addr
  f_is_interface : Addr
  f_law_feed : Addr
  f_law_take : Addr
  f_law_pick : Addr
  f_law_made_up : Addr
  f_law_is_name : Addr
  f_law_are_ports : Addr
  f_law_is_interface : Addr
  f_law_wide : Addr
  f_law_bent_tuple : Addr
  f_law_bent : Addr
  f_law_bounds_are_right : Addr
  f_law : Addr
  u_RESERVED : Addr
structure Txt (K : PySem.W.Frag) (w : World) (mg : Str → Option Value) (ad : Adr) : Prop where
  n_len : mg "len" = none
  n_abs : mg "abs" = none
  n_max : mg "max" = none
  n_min : mg "min" = none
  n_range : mg "range" = none
  n_isinstance : mg "isinstance" = none
  n_str : mg "str" = none
  n_tuple : mg "tuple" = none
  n_list : mg "list" = none
  n_set : mg "set" = none
  n_all : mg "all" = none
  n_sorted : mg "sorted" = none
  n_repr : mg "repr" = none
  n_bool : mg "bool" = none
  g_MAX_NAME : mg "MAX_NAME" = some (.int 8 ad.t_MAX_NAME)
  g_MAX_PORTS : mg "MAX_PORTS" = some (.int 8 ad.t_MAX_PORTS)
  g_LETTERS : mg "LETTERS" = some (.str "abcdefghijklmnopqrstuvwxyz" ad.t_LETTERS)
  g_is_name : mg "is_name" = some (.ref ad.f_is_name)
  k_is_name : PySem.W.keepIn K (.ref ad.f_is_name) = true
  g_are_ports : mg "are_ports" = some (.ref ad.f_are_ports)
  k_are_ports : PySem.W.keepIn K (.ref ad.f_are_ports) = true
  g_is_part_of : mg "is_part_of" = some (.ref ad.f_is_part_of)
  k_is_part_of : PySem.W.keepIn K (.ref ad.f_is_part_of) = true
  g_is_profile : mg "is_profile" = some (.ref ad.f_is_profile)
  k_is_profile : PySem.W.keepIn K (.ref ad.f_is_profile) = true
  g_is_interface : mg "is_interface" = some (.ref ad.f_is_interface)
  k_is_interface : PySem.W.keepIn K (.ref ad.f_is_interface) = true
  g__law_feed : mg "_law_feed" = some (.ref ad.f_law_feed)
  k__law_feed : PySem.W.keepIn K (.ref ad.f_law_feed) = true
  g__law_take : mg "_law_take" = some (.ref ad.f_law_take)
  k__law_take : PySem.W.keepIn K (.ref ad.f_law_take) = true
  g__law_pick : mg "_law_pick" = some (.ref ad.f_law_pick)
  k__law_pick : PySem.W.keepIn K (.ref ad.f_law_pick) = true
  g__law_made_up : mg "_law_made_up" = some (.ref ad.f_law_made_up)
  k__law_made_up : PySem.W.keepIn K (.ref ad.f_law_made_up) = true
  g__law_is_name : mg "_law_is_name" = some (.ref ad.f_law_is_name)
  k__law_is_name : PySem.W.keepIn K (.ref ad.f_law_is_name) = true
  g__law_are_ports : mg "_law_are_ports" = some (.ref ad.f_law_are_ports)
  k__law_are_ports : PySem.W.keepIn K (.ref ad.f_law_are_ports) = true
  g__law_is_interface : mg "_law_is_interface" = some (.ref ad.f_law_is_interface)
  k__law_is_interface : PySem.W.keepIn K (.ref ad.f_law_is_interface) = true
  g__law_wide : mg "_law_wide" = some (.ref ad.f_law_wide)
  k__law_wide : PySem.W.keepIn K (.ref ad.f_law_wide) = true
  g__law_bent_tuple : mg "_law_bent_tuple" = some (.ref ad.f_law_bent_tuple)
  k__law_bent_tuple : PySem.W.keepIn K (.ref ad.f_law_bent_tuple) = true
  g__law_bent : mg "_law_bent" = some (.ref ad.f_law_bent)
  k__law_bent : PySem.W.keepIn K (.ref ad.f_law_bent) = true
  g__law_bounds_are_right : mg "_law_bounds_are_right" = some (.ref ad.f_law_bounds_are_right)
  k__law_bounds_are_right : PySem.W.keepIn K (.ref ad.f_law_bounds_are_right) = true
  g_law : mg "law" = some (.ref ad.f_law)
  k_law : PySem.W.keepIn K (.ref ad.f_law) = true
  g_RESERVED : mg "RESERVED" = some (.ref ad.u_RESERVED)
  u_RESERVED : ∀ H, SqT K H ad.u_RESERVED ((["block", "part", "end", "self"] : List Str).map V.str)
section
variable {P : Program} {w : World} {K : PySem.W.Frag} {mg : Str → Option Value} {base : Heap} {ad : Adr}
/-! ### is_name -/
theorem sc_is_name : FnScope ["word", "letter"] ["word"] (defScope s_is_name) := ⟨rfl, rfl, rfl, by decide +kernel, rfl, by decide +kernel, by decide +kernel⟩
theorem ok_name {f : Addr} {fd : FuncData} (F : Fun K "is_name" "is_name" s_is_name f fd) (T : Txt K w mg ad) : FnOk P w K mg base CX0 1 f fd ["word"] spNameQ := by
  refine F.ok sc_is_name (fun vs H Q E h => ?_) (fun cdv A outer s H vs Q E hr h => ?_)
  · obtain ⟨p, b, v, d, rfl, _⟩ := h
    rfl
  · obtain ⟨p, b, v, d, rfl, hd, hq, k⟩ := h
    refine ⟨_, (pss_cons (ps_if (PW.pt (pw_or (pt_not (pt_val (pe_callB (call_isiK K) (by rfl) T.n_isinstance (by decide +kernel) (pa_cons (pv 0) (pa_cons (pe_bltn (v := .ty "str") rfl T.n_str (by decide +kernel) rfl) pa_nil))))) (pw_or (pt_not (pt_chain op_le op_le pe_int (pe_callB call_len_str (by rfl) T.n_len (by decide +kernel) (pa_cons (pv 0) pa_nil)) (pe_glob (v := .int 8) rfl T.g_MAX_NAME ⟨_, rfl⟩))) (pw_or1 (pt_cmpR (op_in_seqK K) (pv 0) (pe_glob (v := .ref ad.u_RESERVED) rfl T.g_RESERVED rfl) (by rfl)))))) (pss_one (ps_ret pe_bl)) pss_nil)
    (pss_one (ps_ret (pe_callB (cr_all rfl) (by rfl) T.n_all (by decide +kernel) (pa_cons (pe_lc (own := [("letter", 1)]) rfl sc_is_name.nd (pi_str (pv 0)) (blkOk_by (own := [("letter", 1)]) (N := ["word", "letter"]) (sc := defScope s_is_name) (by decide +kernel)) (fun _ _ _ _ _ => (pg_name (i := 1) sc_is_name.nd rfl (Or.inl rfl))) (fun _ _ _ _ _ => pts_nil) (fun _ _ _ _ _ => (pe_cmpR op_in_sign (pv 1) (pe_glob (v := .str "abcdefghijklmnopqrstuvwxyz") rfl T.g_LETTERS ⟨_, rfl⟩) (by rfl)))) pa_nil))))), ?_⟩
    cases hS : isS d with
    | false =>
      rw [nameB_not hS] at k
      refine ⟨_, rfl, v, .ty "str", tyD d, .type "str", isS d, rfl, .ty _, hd.ty, kit_isS d, _, rfl, ?_⟩
      rw [hS]
      exact iteT (iteT (k _ (Same.refl H)))
    | true =>
    obtain ⟨z, rfl, rfl, hsg⟩ := hd.isS hS
    have hz : z.length ≤ 12000 := hq.str
    have hzl : z.length ≤ sizeLine := Nat.le_trans hz (by decide)
    have k : ∀ H', Same H H' → Q (.bl (nameOk z)) H' := k
    have fail : nameOk z = false → ∀ H', Same H H' → Q (.bl false) H' := fun h H' s => by
      have q := k H' s
      rw [h] at q
      exact q
    refine ⟨_, rfl, V.str z, .ty "str", .type "str", .type "str", true, rfl, .ty _, .base (.str z), kit_str, _, rfl, iteF ?_⟩
    refine ⟨_, rfl, z, rfl, hzl, _, _, rfl, rfl, _, rfl, ?_⟩
    by_cases c1 : (1 : Int) ≤ (z.length : Int)
    case neg =>
      rw [decide_eq_false c1]
      refine iteF ⟨_, rfl, iteT (iteT (fail ?_ _ (Same.refl H)))⟩
      unfold nameOk
      rw [decide_eq_false (show ¬ 1 ≤ z.length by omega)]
      rfl
    rw [decide_eq_true c1]
    refine iteT ⟨_, _, rfl, rfl, _, rfl, ?_⟩
    by_cases c2 : (z.length : Int) ≤ 8
    case neg =>
      rw [decide_eq_false c2]
      refine iteT (iteT (fail ?_ _ (Same.refl H)))
      unfold nameOk
      rw [decide_eq_false (show ¬ z.length ≤ 8 by omega)]
      simp
    rw [decide_eq_true c2]
    refine iteF ?_
    refine ⟨_, rfl, ad.u_RESERVED, reserved.map V.str, rfl, .inr (T.u_RESERVED H), rfl, rfl, _, rfl, ?_⟩
    show if (if false = true then !inV (V.str z) (reserved.map V.str) else inV (V.str z) (reserved.map V.str)) = true then _ else _
    rw [inV_mem]
    have hl1 : 1 ≤ z.length := by omega
    have hl8 : z.length ≤ 8 := by omega
    by_cases c3 : z ∈ reserved
    · rw [decide_eq_true c3]
      refine iteT (fail ?_ _ (Same.refl H))
      unfold nameOk
      rw [decide_eq_true c3]
      simp
    rw [decide_eq_false c3]
    refine iteF ?_
    walk_at "nx"
    refine ⟨_, rfl, z, rfl, fun D hD => lc_it walk_str (fun i H' => Same H H' ∧ H' D = some (.lst ((z.cps.toList.take i).map fun c => V.bl (isLet c)))) ⟨same_new hD, upd_same⟩ (fun _ _ _ _ => True.intro) ?_ ?_⟩
    · rintro i x H1 H2 hi ⟨s1, h1⟩ ⟨rfl, c, hc, rfl⟩
      refine ⟨rfl, ?_⟩
      dsimp only [tYes]
      refine iteT ?_
      refine ⟨_, rfl, c, "abcdefghijklmnopqrstuvwxyz", rfl, rfl, _, h1, szt ?_, same_mut s1 hD, ?_⟩
      · rw [List.length_map, List.length_take]
        have e : z.cps.size = z.length := rfl
        omega
      · rw [upd_same, let_in]
        have e : z.cps.toList[i]? = some c := by simpa using hc
        rw [List.take_add_one, e]
        simp
    rintro H1 ⟨s1, h1⟩
    have hfull : (z.cps.toList.take z.cps.size) = z.cps.toList := by rw [show z.cps.size = z.cps.toList.length by simp, List.take_length]
    rw [hfull] at h1
    refine ⟨D, z.cps.toList.map isLet, rfl, SqL.of (by rw [h1, List.map_map]; rfl), ?_⟩
    have hid : (z.cps.toList.map isLet).all id = z.cps.toList.all isLet := by rw [List.all_map]; rfl
    rw [hid]
    have kk := k _ s1
    unfold nameOk at kk
    rw [decide_eq_true hl1, decide_eq_true hl8, decide_eq_false c3] at kk
    exact kk

/-! ### are_ports -/
theorem sc_are_ports : FnScope ["value", "one"] ["value"] (defScope s_are_ports) := ⟨rfl, rfl, rfl, by decide +kernel, rfl, by decide +kernel, by decide +kernel⟩
theorem ok_ports {f : Addr} {fd fdN : FuncData} (F : Fun K "are_ports" "are_ports" s_are_ports f fd) (T : Txt K w mg ad) (G_is_name : FnOk P w K mg base CX0 1 ad.f_is_name fdN ["word"] spNameQ) (b_is_name : Binds K fdN ["word"] []) : FnOk P w K mg base CX0 2 f fd ["value"] spPortsQ := by
  refine F.ok sc_are_ports (fun vs H Q E h => ?_) (fun cdv A outer s H vs Q E hr h => ?_)
  · obtain ⟨p, b, v, d, rfl, _⟩ := h
    rfl
  · obtain ⟨p, b, v, d, rfl, hd, hq, k⟩ := h
    refine ⟨_, (pss_cons (ps_if (PW.pt (pw_or (pt_not (pt_val (pe_callB (call_isiK K) (by rfl) T.n_isinstance (by decide +kernel) (pa_cons (pv 0) (pa_cons (pe_bltn (v := .ty "tuple") rfl T.n_tuple (by decide +kernel) rfl) pa_nil))))) (pw_or (pt_cmpR op_gt (pe_callB (call_lenK K) (by rfl) T.n_len (by decide +kernel) (pa_cons (pv 0) pa_nil)) (pe_glob (v := .int 8) rfl T.g_MAX_PORTS ⟨_, rfl⟩) (nomark _)) (pw_or1 (pt_not (pt_val (pe_callB (cr_all rfl) (by rfl) T.n_all (by decide +kernel) (pa_cons (pe_lc (own := [("one", 1)]) rfl sc_are_ports.nd (pi_tupK K (pv 0)) (blkOk_by (own := [("one", 1)]) (N := ["value", "one"]) (sc := defScope s_are_ports) (by decide +kernel)) (fun _ _ _ _ _ => (pg_name (i := 1) sc_are_ports.nd rfl (Or.inl rfl))) (fun _ _ _ _ _ => pts_nil) (fun _ _ _ _ _ => (pe_call G_is_name (hr.mono (by decide)) rfl T.g_is_name T.k_is_name b_is_name .nil pass0 (pa_cons (pv 1) pa_nil)))) pa_nil)))))))) (pss_one (ps_ret pe_bl)) pss_nil)
    (pss_one (ps_ret (pe_cmpR op_eq (pe_callB (cr_lenSetS w) (by rfl) T.n_len (by decide +kernel) (pa_cons (pe_callTy (cr_setT K w rfl) (by rfl) T.n_set (by decide +kernel) (pa_cons (pv 0) pa_nil)) pa_nil)) (pe_callB (call_lenK K) (by rfl) T.n_len (by decide +kernel) (pa_cons (pv 0) pa_nil)) (nomark _))))), ?_⟩
    cases hT : isT d with
    | false =>
      rw [portsB_not hT] at k
      refine ⟨_, rfl, v, .ty "tuple", tyD d, .type "tuple", isT d, rfl, .ty _, hd.ty, kit_isT d, _, rfl, ?_⟩
      rw [hT]
      exact iteT (iteT (k _ (Same.refl H)))
    | true =>
    obtain ⟨t, xs, ds, rfl, rfl, hX, hA⟩ := hd.isT hT
    obtain ⟨hl2, hds⟩ := hq.tup
    have hlen := hA.len
    have hS := hX.sqt (K := K)
    have no : portsB (.tuple ds) = false → ∀ H', Same H H' → Q (.bl false) H' := fun h H' s => by
      have q := k H' s
      rw [h] at q
      exact q
    refine ⟨_, rfl, .ref t, .ty "tuple", .type "tuple", .type "tuple", true, rfl, .ty _, hX.ty, kit_tup, _, rfl, iteF ?_⟩
    refine ⟨_, rfl, t, _, rfl, .inr hS, _, _, rfl, rfl, _, rfl, ?_⟩
    by_cases c1 : (8 : Int) < (xs.length : Int)
    case pos =>
      rw [decide_eq_true c1]
      refine iteT (iteT (no ?_ _ (Same.refl H)))
      show (decide (ds.length ≤ 8) && ds.all nameB && decide (txts ds).Nodup) = false
      rw [decide_eq_false (show ¬ ds.length ≤ 8 by omega)]
      rfl
    rw [decide_eq_false c1]
    have h8 : ds.length ≤ 8 := by omega
    refine iteF ?_
    refine ⟨_, rfl, t, rfl, ⟨_, hS⟩, fun D hD => lc_tup (K := K) (a := t) (xs := xs) (fun i H' => Same H H' ∧ H' D = some (.lst (((ds.take i).map nameB).map V.bl))) ⟨same_new hD, upd_same⟩ (fun i H' _ h => same_sqt h.1 hS) ?_ ?_⟩
    · rintro i x H1 hx ⟨s1, h1⟩
      obtain ⟨d, hd1, hd2⟩ := hA.get hx
      refine ⟨rfl, ?_⟩
      dsimp only [tYes]
      refine iteT ⟨_, rfl, p, b, x, d, rfl, hd2.same s1, hds d (List.mem_of_getElem? hd1), fun H2 s2 => ⟨_, s2 _ _ h1, szt (by rw [List.length_map, List.length_map, List.length_take]; omega), same_mut (s1.trans s2) hD, ?_⟩⟩
      rw [upd_same, List.take_add_one, hd1, List.map_append, List.map_append]
      rfl
    · rintro H1 ⟨s1, h1⟩
      rw [hlen, List.take_length] at h1
      refine ⟨D, ds.map nameB, rfl, SqL.of h1, _, rfl, ?_⟩
      have ea : (ds.map nameB).all id = ds.all nameB := by rw [List.all_map]; rfl
      rw [ea]
      cases hall : ds.all nameB with
      | false =>
        refine iteT (no ?_ _ s1)
        show (decide (ds.length ≤ 8) && ds.all nameB && decide (txts ds).Nodup) = false
        rw [hall, Bool.and_false, Bool.false_and]
      | true =>
        refine iteF ?_
        walk_at "nx"
        obtain ⟨e1, e2⟩ := names_txt hall
        have ex : xs = (txts ds).map V.str := by
          rw [e1] at hA
          exact hA.names
        subst ex
        have hl3 : (txts ds).length = ds.length := by unfold txts; rw [List.length_map]
        refine ⟨_, rfl, t, txts ds, rfl, same_sqt s1 hS, by omega, fun q hq => ⟨q, dedS (txts ds), rfl, upd_same, _, rfl, t, _, rfl, .inr (same_sqt (s1.trans (same_new hq)) hS), ?_⟩⟩
        refine ⟨rfl, ?_⟩
        have kk := k _ (s1.trans (same_new (o := SetSO w q (dedS (txts ds))) hq))
        have eb : portsB (.tuple ds) = decide ((V.int ((dedS (txts ds)).length : Nat)) = V.int (((txts ds).map V.str).length : Nat)) := by
          show (decide (ds.length ≤ 8) && ds.all nameB && decide (txts ds).Nodup) = _
          rw [decide_eq_true h8, hall, Bool.true_and, Bool.true_and, Bool.eq_iff_iff, decide_eq_true_iff, decide_eq_true_iff, ← ded_eq, List.length_map]
          constructor
          · intro h
            rw [h]
          · intro h
            injection h with h
            exact Int.ofNat.inj h
        rw [eb] at kk
        exact kk

/-! ### is_part_of -/
theorem sc_is_part_of : FnScope ["value", "names", "name"] ["value", "names"] (defScope s_is_part_of) := ⟨rfl, rfl, rfl, by decide +kernel, rfl, by decide +kernel, by decide +kernel⟩
theorem ok_part {f : Addr} {fd fdN : FuncData} (F : Fun K "is_part_of" "is_part_of" s_is_part_of f fd) (T : Txt K w mg ad) (G_are_ports : FnOk P w K mg base CX0 2 ad.f_are_ports fdN ["value"] spPortsQ) (b_are_ports : Binds K fdN ["value"] []) : FnOk P w K mg base CX0 3 f fd ["value", "names"] spPartQ := by
  refine F.ok sc_is_part_of (fun vs H Q E h => ?_) (fun cdv A outer s H vs Q E hr h => ?_)
  · obtain ⟨p, b, v, d, n, ns, rfl, _⟩ := h
    rfl
  · obtain ⟨p, b, v, d, n, ns, rfl, hd, hq, hN, hn, k⟩ := h
    refine ⟨_, (pss_cons (ps_if (pt_not (pt_val (pe_call G_are_ports (hr.mono (by decide)) rfl T.g_are_ports T.k_are_ports b_are_ports .nil pass0 (pa_cons (pv 0) pa_nil)))) (pss_one (ps_ret pe_bl)) pss_nil)
    (pss_one (ps_ret (pe_cmpR (op_eqDK K hr.units) (pe_callTy call_list_of (by rfl) T.n_list (by decide +kernel) (pa_cons (pv 0) pa_nil)) (pe_lc (own := [("name", 2)]) rfl sc_is_part_of.nd (pi_tupK K (pv 1)) (blkOk_by (own := [("name", 2)]) (N := ["value", "names", "name"]) (sc := defScope s_is_part_of) (by decide +kernel)) (fun _ _ _ _ _ => (pg_name (i := 2) sc_is_part_of.nd rfl (Or.inl rfl))) (fun _ _ _ _ _ => (pts_one (pt_cmpR (op_in_seqK K) (pv 2) (pv 0) (by rfl)))) (fun _ _ _ _ _ => (pv 2))) (nomark _))))), ?_⟩
    have hN := hN.sqt (K := K)
    refine ⟨_, rfl, p, b, v, d, rfl, hd, hq, fun H1 s1 => ⟨_, rfl, ?_⟩⟩
    cases hp : portsB d with
    | false =>
      have kk := k _ s1
      have e : partB d ns = false := by unfold partB; rw [hp]; rfl
      rw [e] at kk
      exact iteT kk
    | true =>
    refine iteF ?_
    walk_at "nx"
    obtain ⟨t, rfl, hX, hx⟩ := hd.ports hp
    have hS := hX.sqt (K := K)
    revert k hS hx
    generalize hxs : portN d = xs
    intro k hx hS
    refine ⟨_, rfl, t, _, rfl, .inr (same_sqt s1 hS), fun l hl => ?_⟩
    have s2 := s1.trans (same_new (o := .lst (xs.map V.str)) hl)
    refine ⟨_, rfl, n, rfl, ⟨_, same_sqt s2 hN⟩, fun D hD => lc_tup (K := K) (a := n) (xs := ns.map V.str) (fun i H' => Same (upd H1 l (.lst (xs.map V.str))) H' ∧ H' D = some (.lst (((ns.take i).filter fun x => decide (x ∈ xs)).map V.str))) ⟨same_new hD, upd_same⟩ (fun i H' _ h => same_sqt (s2.trans h.1) hN) ?_ ?_⟩
    · rintro i x H2 hx' ⟨s3, h3⟩
      obtain ⟨hi, e⟩ := List.getElem?_eq_some_iff.mp hx'
      rw [List.length_map] at hi
      rw [List.getElem_map] at e
      subst e
      refine ⟨rfl, ?_⟩
      refine ⟨_, rfl, _, rfl, t, xs.map V.str, rfl, .inr (same_sqt (s2.trans s3) hS), rfl, Ly.flat_strs xs, _, rfl, ?_⟩
      show if (if false = true then !inV (V.str ns[i]) (xs.map V.str) else inV (V.str ns[i]) (xs.map V.str)) = true then _ else _
      rw [inV_mem]
      have et : ((ns.take (i + 1)).filter fun x => decide (x ∈ xs)) = ((ns.take i).filter fun x => decide (x ∈ xs)) ++ [ns[i]].filter fun x => decide (x ∈ xs) := by
        rw [List.take_add_one, List.getElem?_eq_getElem hi, List.filter_append]
        rfl
      have hle : ((ns.take i).filter fun x => decide (x ∈ xs)).length ≤ 8 := by
        have h1 := List.length_filter_le (fun x => decide (x ∈ xs)) (ns.take i)
        rw [List.length_take] at h1
        have := hn.2.2
        omega
      by_cases hm : ns[i] ∈ xs
      · rw [decide_eq_true hm]
        refine iteT ⟨_, rfl, _, h3, szt (by rw [List.length_map]; omega), same_mut s3 hD, ?_⟩
        rw [upd_same, et, List.filter_cons_of_pos (by rw [decide_eq_true hm]), List.map_append]
        rfl
      · rw [decide_eq_false hm]
        refine iteF ⟨s3, ?_⟩
        rw [h3, et, List.filter_cons_of_neg (by rw [decide_eq_false hm]; simp), List.filter_nil, List.append_nil]
    · rintro H2 ⟨s3, h3⟩
      have hful : (ns.take (ns.map V.str).length) = ns := by rw [List.length_map, List.take_length]
      rw [hful] at h3
      have hl2 : H2 l = some (.lst (xs.map V.str)) := s3 _ _ upd_same
      have hsh := shp_strs (l := xs) fun x hx' => okS_name (hx.1 x hx')
      have hsh2 := shp_strs (l := ns.filter fun x => decide (x ∈ xs)) fun x hx' => okS_name (hn.1 x (List.mem_filter.mp hx').1)
      refine ⟨.list (xs.map .str), .list ((ns.filter fun x => decide (x ∈ xs)).map .str), .lst (SqL.of hl2) (dps_strs xs), .lst (SqL.of h3) (dps_strs _), hsh, hsh2, ?_⟩
      have kk := k _ (s2.trans s3)
      have e : partB d ns = PyData.eqv (.list (xs.map .str)) (.list ((ns.filter fun x => decide (x ∈ xs)).map .str)) := by
        show _ = PyData.eqvAll _ _
        rw [eqv_str2]
        unfold partB
        rw [hp, hxs, Bool.true_and]
      rw [e] at kk
      exact kk

end
end K22

set_option maxRecDepth 100000
set_option maxHeartbeats 4000000
namespace K22
open PySem L2 Ly Od
local macro_rules | `(tactic| walk_at "nx") => `(tactic| dsimp only [tNext])
section
variable {P : Program} {w : World} {K : PySem.W.Frag} {mg : Str → Option Value} {base : Heap} {ad : Adr}
theorem dps_of {K : PySem.W.Frag} {H : Hp} : ∀ cs : List Nat, DpAll K H (cs.map fun c => V.str ⟨#[c]⟩) (cs.map fun c => PyData.str ⟨#[c]⟩)
  | [] => .nil
  | c :: cs => .cons (.str _) (dps_of cs)
/-! ### _law_is_name -/
theorem sc_law_is_name : FnScope ["value", "letter"] ["value"] (defScope s_law_is_name) := ⟨rfl, rfl, rfl, by decide +kernel, rfl, by decide +kernel, by decide +kernel⟩
theorem ok_lname {f : Addr} {fd : FuncData} (F : Fun K "_law_is_name" "_law_is_name" s_law_is_name f fd) (T : Txt K w mg ad) : FnOk P w K mg base CX0 1 f fd ["value"] spNameQ := by
  refine F.ok sc_law_is_name (fun vs H Q E h => ?_) (fun cdv A outer s H vs Q E hr h => ?_)
  · obtain ⟨p, b, v, d, rfl, _⟩ := h
    rfl
  · obtain ⟨p, b, v, d, rfl, hd, hq, k⟩ := h
    refine ⟨_, (pss_cons (ps_if (PW.pt (pw_or (pt_not (pt_val (pe_callB (call_isiK K) (by rfl) T.n_isinstance (by decide +kernel) (pa_cons (pv 0) (pa_cons (pe_bltn (v := .ty "str") rfl T.n_str (by decide +kernel) rfl) pa_nil))))) (pw_or (pt_not (pt_chain op_le op_le pe_int (pe_callB call_len_str (by rfl) T.n_len (by decide +kernel) (pa_cons (pv 0) pa_nil)) pe_int)) (pw_or1 (pt_cmpR (op_in_seqK K) (pv 0) (pe_tupF (pa_cons pe_str (pa_cons pe_str (pa_cons pe_str (pa_cons pe_str pa_nil))))) (by rfl)))))) (pss_one (ps_ret pe_bl)) pss_nil)
    (pss_one (ps_ret (pe_cmpR (op_eqDK K hr.units) (pe_lc (own := [("letter", 1)]) rfl sc_law_is_name.nd (pi_str (pv 0)) (blkOk_by (own := [("letter", 1)]) (N := ["value", "letter"]) (sc := defScope s_law_is_name) (by decide +kernel)) (fun _ _ _ _ _ => (pg_name (i := 1) sc_law_is_name.nd rfl (Or.inl rfl))) (fun _ _ _ _ _ => (pts_one (pt_cmpR op_notIn_sign (pv 1) pe_str (by rfl)))) (fun _ _ _ _ _ => (pv 1))) (pe_lst pa_nil) (nomark _))))), ?_⟩
    cases hS : isS d with
    | false =>
      rw [nameB_not hS] at k
      refine ⟨_, rfl, v, .ty "str", tyD d, .type "str", isS d, rfl, .ty _, hd.ty, kit_isS d, _, rfl, ?_⟩
      rw [hS]
      exact iteT (iteT (k _ (Same.refl H)))
    | true =>
    obtain ⟨z, rfl, rfl, hsg⟩ := hd.isS hS
    have hz : z.length ≤ 12000 := hq.str
    have hzl : z.length ≤ sizeLine := Nat.le_trans hz (by decide)
    have k : ∀ H', Same H H' → Q (.bl (nameOk z)) H' := k
    have fail : nameOk z = false → ∀ H', Same H H' → Q (.bl false) H' := fun h H' s => by
      have q := k H' s
      rw [h] at q
      exact q
    refine ⟨_, rfl, V.str z, .ty "str", .type "str", .type "str", true, rfl, .ty _, .base (.str z), kit_str, _, rfl, iteF ?_⟩
    refine ⟨_, rfl, z, rfl, hzl, _, _, rfl, rfl, _, rfl, ?_⟩
    by_cases c1 : (1 : Int) ≤ (z.length : Int)
    case neg =>
      rw [decide_eq_false c1]
      refine iteF ⟨_, rfl, iteT (iteT (fail ?_ _ (Same.refl H)))⟩
      unfold nameOk
      rw [decide_eq_false (show ¬ 1 ≤ z.length by omega)]
      rfl
    rw [decide_eq_true c1]
    refine iteT ⟨_, _, rfl, rfl, _, rfl, ?_⟩
    by_cases c2 : (z.length : Int) ≤ 8
    case neg =>
      rw [decide_eq_false c2]
      refine iteT (iteT (fail ?_ _ (Same.refl H)))
      unfold nameOk
      rw [decide_eq_false (show ¬ z.length ≤ 8 by omega)]
      simp
    rw [decide_eq_true c2]
    refine iteF ?_
    refine ⟨_, rfl, szl (show 4 ≤ 100000 by decide), fun tr H1 s1 htr => ⟨tr, reserved.map V.str, rfl, .inr htr.sqt, rfl, rfl, _, rfl, ?_⟩⟩
    show if (if false = true then !inV (V.str z) (reserved.map V.str) else inV (V.str z) (reserved.map V.str)) = true then _ else _
    rw [inV_mem]
    have hl1 : 1 ≤ z.length := by omega
    have hl8 : z.length ≤ 8 := by omega
    by_cases c3 : z ∈ reserved
    · rw [decide_eq_true c3]
      refine iteT (fail ?_ _ s1)
      unfold nameOk
      rw [decide_eq_true c3]
      simp
    rw [decide_eq_false c3]
    refine iteF ?_
    walk_at "nx"
    refine ⟨_, rfl, z, rfl, fun D hD => lc_it walk_str (fun i H' => Same H1 H' ∧ H' D = some (.lst (((z.cps.toList.take i).filter fun c => !isLet c).map fun c => V.str ⟨#[c]⟩))) ⟨same_new hD, upd_same⟩ (fun _ _ _ _ => True.intro) ?_ ?_⟩
    · rintro i x H2 H3 hi ⟨s2, h2⟩ ⟨rfl, c, hc, rfl⟩
      refine ⟨rfl, ?_⟩
      refine ⟨_, rfl, c, "abcdefghijklmnopqrstuvwxyz", rfl, rfl, _, rfl, ?_⟩
      rw [let_in]
      have e : z.cps.toList[i]? = some c := by simpa using hc
      have et : ((z.cps.toList.take (i + 1)).filter fun c => !isLet c) = ((z.cps.toList.take i).filter fun c => !isLet c) ++ [c].filter fun c => !isLet c := by
        rw [List.take_add_one, e, List.filter_append]
        rfl
      cases hc2 : isLet c with
      | true =>
        refine iteF ⟨s2, ?_⟩
        rw [h2, et, List.filter_cons_of_neg (by rw [hc2]; simp), List.filter_nil, List.append_nil]
      | false =>
        refine iteT ⟨_, rfl, _, h2, szt ?_, same_mut s2 hD, ?_⟩
        · rw [List.length_map]
          have h1 := List.length_filter_le (fun c => !isLet c) (z.cps.toList.take i)
          rw [List.length_take] at h1
          have e : z.cps.toList.length = z.length := by rw [Array.length_toList]; rfl
          omega
        · rw [upd_same, et, List.filter_cons_of_pos (by rw [hc2]; rfl), List.map_append]
          rfl
    rintro H2 ⟨s2, h2⟩
    have hfull : (z.cps.toList.take z.cps.size) = z.cps.toList := by rw [show z.cps.size = z.cps.toList.length by simp, List.take_length]
    rw [hfull] at h2
    refine ⟨szl (Nat.zero_le _), fun l hl => ?_⟩
    have h3 := same_new (o := .lst []) hl _ _ h2
    have sh := shaped_chars (z := z) (cs := z.cps.toList.filter fun c => !isLet c) hsg fun c hc => (List.mem_filter.mp hc).1
    refine ⟨.list ((z.cps.toList.filter fun c => !isLet c).map fun c => PyData.str ⟨#[c]⟩), .list [], .lst (SqL.of h3) (dps_of _), .lst (SqL.of upd_same) .nil, sh, rfl, ?_⟩
    have kk := k _ ((s1.trans s2).trans (same_new (o := .lst []) hl))
    unfold nameOk at kk
    rw [decide_eq_true hl1, decide_eq_true hl8, decide_eq_false c3] at kk
    have e : PyData.eqv (.list ((z.cps.toList.filter fun c => !isLet c).map fun c => PyData.str ⟨#[c]⟩)) (.list []) = z.cps.toList.all isLet := by
      cases ha : z.cps.toList.all isLet with
      | true =>
        have : (z.cps.toList.filter fun c => !isLet c) = [] := List.filter_eq_nil_iff.mpr fun c hc => by
          rw [List.all_eq_true] at ha
          rw [ha c hc]
          simp
        rw [this]
        rfl
      | false =>
        cases hf : (z.cps.toList.filter fun c => !isLet c) with
        | cons c r => rfl
        | nil =>
          exfalso
          rw [List.all_eq_false] at ha
          obtain ⟨c, h1, h2⟩ := ha
          exact absurd (List.filter_eq_nil_iff.mp hf c h1) (by simpa using h2)
    rw [e]
    exact kk

/-! ### _law_are_ports -/
theorem sc_law_are_ports : FnScope ["value", "one"] ["value"] (defScope s_law_are_ports) := ⟨rfl, rfl, rfl, by decide +kernel, rfl, by decide +kernel, by decide +kernel⟩
theorem ok_lports {f : Addr} {fd fdN : FuncData} (F : Fun K "_law_are_ports" "_law_are_ports" s_law_are_ports f fd) (T : Txt K w mg ad) (G_law_is_name : FnOk P w K mg base CX0 1 ad.f_law_is_name fdN ["value"] spNameQ) (b_law_is_name : Binds K fdN ["value"] []) : FnOk P w K mg base CX0 2 f fd ["value"] spPortsQ := by
  refine F.ok sc_law_are_ports (fun vs H Q E h => ?_) (fun cdv A outer s H vs Q E hr h => ?_)
  · obtain ⟨p, b, v, d, rfl, _⟩ := h
    rfl
  · obtain ⟨p, b, v, d, rfl, hd, hq, k⟩ := h
    refine ⟨_, (pss_cons (ps_if (PW.pt (pw_or (pt_not (pt_val (pe_callB (call_isiK K) (by rfl) T.n_isinstance (by decide +kernel) (pa_cons (pv 0) (pa_cons (pe_bltn (v := .ty "tuple") rfl T.n_tuple (by decide +kernel) rfl) pa_nil))))) (pw_or (pt_cmpR op_gt (pe_callB (call_lenK K) (by rfl) T.n_len (by decide +kernel) (pa_cons (pv 0) pa_nil)) pe_int (nomark _)) (pw_or1 (pt_not (pt_val (pe_callB (cr_all rfl) (by rfl) T.n_all (by decide +kernel) (pa_cons (pe_lc (own := [("one", 1)]) rfl sc_law_are_ports.nd (pi_tupK K (pv 0)) (blkOk_by (own := [("one", 1)]) (N := ["value", "one"]) (sc := defScope s_law_are_ports) (by decide +kernel)) (fun _ _ _ _ _ => (pg_name (i := 1) sc_law_are_ports.nd rfl (Or.inl rfl))) (fun _ _ _ _ _ => pts_nil) (fun _ _ _ _ _ => (pe_call G_law_is_name (hr.mono (by decide)) rfl T.g__law_is_name T.k__law_is_name b_law_is_name .nil pass0 (pa_cons (pv 1) pa_nil)))) pa_nil)))))))) (pss_one (ps_ret pe_bl)) pss_nil)
    (pss_one (ps_ret (pe_cmpR op_eq (pe_callB (cr_lenSetS w) (by rfl) T.n_len (by decide +kernel) (pa_cons (pe_callTy (cr_setT K w rfl) (by rfl) T.n_set (by decide +kernel) (pa_cons (pv 0) pa_nil)) pa_nil)) (pe_callB (call_lenK K) (by rfl) T.n_len (by decide +kernel) (pa_cons (pv 0) pa_nil)) (nomark _))))), ?_⟩
    cases hT : isT d with
    | false =>
      rw [portsB_not hT] at k
      refine ⟨_, rfl, v, .ty "tuple", tyD d, .type "tuple", isT d, rfl, .ty _, hd.ty, kit_isT d, _, rfl, ?_⟩
      rw [hT]
      exact iteT (iteT (k _ (Same.refl H)))
    | true =>
    obtain ⟨t, xs, ds, rfl, rfl, hX, hA⟩ := hd.isT hT
    obtain ⟨hl2, hds⟩ := hq.tup
    have hlen := hA.len
    have hS := hX.sqt (K := K)
    have no : portsB (.tuple ds) = false → ∀ H', Same H H' → Q (.bl false) H' := fun h H' s => by
      have q := k H' s
      rw [h] at q
      exact q
    refine ⟨_, rfl, .ref t, .ty "tuple", .type "tuple", .type "tuple", true, rfl, .ty _, hX.ty, kit_tup, _, rfl, iteF ?_⟩
    refine ⟨_, rfl, t, _, rfl, .inr hS, _, _, rfl, rfl, _, rfl, ?_⟩
    by_cases c1 : (8 : Int) < (xs.length : Int)
    case pos =>
      rw [decide_eq_true c1]
      refine iteT (iteT (no ?_ _ (Same.refl H)))
      show (decide (ds.length ≤ 8) && ds.all nameB && decide (txts ds).Nodup) = false
      rw [decide_eq_false (show ¬ ds.length ≤ 8 by omega)]
      rfl
    rw [decide_eq_false c1]
    have h8 : ds.length ≤ 8 := by omega
    refine iteF ?_
    refine ⟨_, rfl, t, rfl, ⟨_, hS⟩, fun D hD => lc_tup (K := K) (a := t) (xs := xs) (fun i H' => Same H H' ∧ H' D = some (.lst (((ds.take i).map nameB).map V.bl))) ⟨same_new hD, upd_same⟩ (fun i H' _ h => same_sqt h.1 hS) ?_ ?_⟩
    · rintro i x H1 hx ⟨s1, h1⟩
      obtain ⟨d, hd1, hd2⟩ := hA.get hx
      refine ⟨rfl, ?_⟩
      dsimp only [tYes]
      refine iteT ⟨_, rfl, p, b, x, d, rfl, hd2.same s1, hds d (List.mem_of_getElem? hd1), fun H2 s2 => ⟨_, s2 _ _ h1, szt (by rw [List.length_map, List.length_map, List.length_take]; omega), same_mut (s1.trans s2) hD, ?_⟩⟩
      rw [upd_same, List.take_add_one, hd1, List.map_append, List.map_append]
      rfl
    · rintro H1 ⟨s1, h1⟩
      rw [hlen, List.take_length] at h1
      refine ⟨D, ds.map nameB, rfl, SqL.of h1, _, rfl, ?_⟩
      have ea : (ds.map nameB).all id = ds.all nameB := by rw [List.all_map]; rfl
      rw [ea]
      cases hall : ds.all nameB with
      | false =>
        refine iteT (no ?_ _ s1)
        show (decide (ds.length ≤ 8) && ds.all nameB && decide (txts ds).Nodup) = false
        rw [hall, Bool.and_false, Bool.false_and]
      | true =>
        refine iteF ?_
        walk_at "nx"
        obtain ⟨e1, e2⟩ := names_txt hall
        have ex : xs = (txts ds).map V.str := by
          rw [e1] at hA
          exact hA.names
        subst ex
        have hl3 : (txts ds).length = ds.length := by unfold txts; rw [List.length_map]
        refine ⟨_, rfl, t, txts ds, rfl, same_sqt s1 hS, by omega, fun q hq => ⟨q, dedS (txts ds), rfl, upd_same, _, rfl, t, _, rfl, .inr (same_sqt (s1.trans (same_new hq)) hS), ?_⟩⟩
        refine ⟨rfl, ?_⟩
        have kk := k _ (s1.trans (same_new (o := SetSO w q (dedS (txts ds))) hq))
        have eb : portsB (.tuple ds) = decide ((V.int ((dedS (txts ds)).length : Nat)) = V.int (((txts ds).map V.str).length : Nat)) := by
          show (decide (ds.length ≤ 8) && ds.all nameB && decide (txts ds).Nodup) = _
          rw [decide_eq_true h8, hall, Bool.true_and, Bool.true_and, Bool.eq_iff_iff, decide_eq_true_iff, decide_eq_true_iff, ← ded_eq, List.length_map]
          constructor
          · intro h
            rw [h]
          · intro h
            injection h with h
            exact Int.ofNat.inj h
        rw [eb] at kk
        exact kk

end
end K22

set_option maxRecDepth 100000
set_option maxHeartbeats 4000000
namespace K22
open PySem L2 Ly Od
local macro_rules | `(tactic| walk_at "nx") => `(tactic| dsimp only [tNext])
section
variable {P : Program} {w : World} {K : PySem.W.Frag} {mg : Str → Option Value} {base : Heap} {ad : Adr}
/-! ### is_profile -/
def pairB : PyData → Bool
  | .tuple [_, _] => true
  | _ => false
theorem fn_pair {i o : List Str} {d : PyData} (h : fnB i o d = true) : pairB d = true := by
  unfold fnB at h
  split at h
  · rfl
  · cases h
theorem pair_of {p : Addr → Prop} {H : Hp} {b : Bool} {v : V} {d : PyData} (hd : Dq p H b v d) (h : pairB d = true) : ∃ q x y a c, v = .ref q ∧ d = .tuple [a, c] ∧ KnT H q [x, y] ∧ Dq p H b x a ∧ Dq p H b y c := by
  unfold pairB at h
  split at h
  · cases hd with
    | tup h1 h2 =>
      cases h2 with
      | cons h3 h4 =>
        cases h4 with
        | cons h5 h6 =>
          cases h6
          exact ⟨_, _, _, _, _, rfl, rfl, h1, h3, h5⟩
  · cases h
theorem fn_outs {i o : List Str} {d : PyData} (h : fnB i o d = true) : portsB (match d with | .tuple (a :: _) => a | _ => .none) = true ∧ fnOuts d ≠ [] ∧ (∀ x ∈ fnOuts d, x ∈ o) ∧ (fnOuts d).length ≤ 8 := by
  unfold fnB at h
  split at h
  · rename_i a b
    rw [Bool.and_eq_true, Bool.and_eq_true] at h
    obtain ⟨⟨h1, h2⟩, _⟩ := h
    unfold partB at h1
    rw [Bool.and_eq_true] at h1
    refine ⟨h1.1, of_decide_eq_true h2, fun x hx => ?_, (portsB_tup h1.1).2.2.2⟩
    have e := of_decide_eq_true h1.2
    have hx : x ∈ portN a := hx
    rw [e] at hx
    exact (List.mem_filter.mp hx).1
  · cases h
theorem flat_part8 {fs : List PyData} (h : ∀ f ∈ fs, (fnOuts f).length ≤ 8) : (fs.flatMap fnOuts).length ≤ 8 * fs.length := by
  induction fs with
  | nil => simp
  | cons f fs ih =>
    have h1 := ih fun g hg => h g (List.mem_cons_of_mem _ hg)
    have h2 := h f List.mem_cons_self
    rw [List.flatMap_cons, List.length_append, List.length_cons]
    omega
theorem flat_partM {fs : List PyData} (h : ∀ f ∈ fs, (fnOuts f).length ≤ 8) {j m : Nat} {g : PyData} (hg : fs[j]? = some g) : ((fs.take j).flatMap fnOuts).length + ((fnOuts g).take m).length ≤ 8 * fs.length := by
  have hj := (List.getElem?_eq_some_iff.mp hg).1
  have h1 := flat_part8 (fs := fs.take j) fun f hf => h f (List.mem_of_mem_take hf)
  have h2 := h g (List.mem_of_getElem? hg)
  have h3 : ((fnOuts g).take m).length ≤ (fnOuts g).length := by rw [List.length_take]; omega
  rw [List.length_take] at h1
  omega
theorem sc_is_profile : FnScope ["value", "inputs", "outputs", "computed", "firsts", "one", "function", "output"] ["value", "inputs", "outputs"] (defScope s_is_profile) := ⟨rfl, rfl, rfl, by decide +kernel, rfl, by decide +kernel, by decide +kernel⟩
theorem ok_prof {f : Addr} {fd fdN : FuncData} (F : Fun K "is_profile" "is_profile" s_is_profile f fd) (T : Txt K w mg ad) (G_is_part_of : FnOk P w K mg base CX0 3 ad.f_is_part_of fdN ["value", "names"] spPartQ) (b_is_part_of : Binds K fdN ["value", "names"] []) : FnOk P w K mg base CX0 4 f fd ["value", "inputs", "outputs"] spProfQ := by
  refine F.ok sc_is_profile (fun vs H Q E h => ?_) (fun cdv A outer s H vs Q E hr h => ?_)
  · obtain ⟨p, bb, v, d, i, o, is, os, rfl, _⟩ := h
    rfl
  · obtain ⟨p, bb, v, d, i, o, is, os, rfl, hd, hq, hI, hi, hO, ho, k⟩ := h
    refine ⟨_, (pss_cons (ps_if (PW.pt (pw_or (pt_not (pt_val (pe_callB (call_isiK K) (by rfl) T.n_isinstance (by decide +kernel) (pa_cons (pv 0) (pa_cons (pe_bltn (v := .ty "tuple") rfl T.n_tuple (by decide +kernel) rfl) pa_nil))))) (pw_or1 (pt_not (pt_val (pe_callB (cr_all rfl) (by rfl) T.n_all (by decide +kernel) (pa_cons (pe_lc (own := [("one", 5)]) rfl sc_is_profile.nd (pi_tupK K (pv 0)) (blkOk_by (own := [("one", 5)]) (N := ["value", "inputs", "outputs", "computed", "firsts", "one", "function", "output"]) (sc := defScope s_is_profile) (by decide +kernel)) (fun _ _ _ _ _ => (pg_name (i := 5) sc_is_profile.nd rfl (Or.inl rfl))) (fun _ _ _ _ _ => pts_nil) (fun _ _ _ _ _ => (pe_and (pe_callB (call_isiK K) (by rfl) T.n_isinstance (by decide +kernel) (pa_cons (pv 5) (pa_cons (pe_bltn (v := .ty "tuple") rfl T.n_tuple (by decide +kernel) rfl) pa_nil))) (pe_one (pe_cmpR op_eq (pe_callB (call_lenK K) (by rfl) T.n_len (by decide +kernel) (pa_cons (pv 5) pa_nil)) pe_int (nomark _)))))) pa_nil))))))) (pss_one (ps_ret pe_bl)) pss_nil)
    (pss_cons (ps_if (pt_not (pt_val (pe_callB (cr_all rfl) (by rfl) T.n_all (by decide +kernel) (pa_cons (pe_lc (own := [("one", 5)]) rfl sc_is_profile.nd (pi_tupK K (pv 0)) (blkOk_by (own := [("one", 5)]) (N := ["value", "inputs", "outputs", "computed", "firsts", "one", "function", "output"]) (sc := defScope s_is_profile) (by decide +kernel)) (fun _ _ _ _ _ => (pg_name (i := 5) sc_is_profile.nd rfl (Or.inl rfl))) (fun _ _ _ _ _ => pts_nil) (fun _ _ _ _ _ => (pe_and (pe_call G_is_part_of (hr.mono (by decide)) rfl T.g_is_part_of T.k_is_part_of b_is_part_of .nil pass0 (pa_cons (pe_ix (ix_tupK K) (pv 5) pe_int (fun _ _ => rfl)) (pa_cons (pv 2) pa_nil))) (pe_and (pe_cmpR (op_neDK K hr.units) (pe_ix (ix_tupK K) (pv 5) pe_int (fun _ _ => rfl)) (pe_tupF pa_nil) (nomark _)) (pe_one (pe_call G_is_part_of (hr.mono (by decide)) rfl T.g_is_part_of T.k_is_part_of b_is_part_of .nil pass0 (pa_cons (pe_ix (ix_tupK K) (pv 5) pe_int (fun _ _ => rfl)) (pa_cons (pv 1) pa_nil)))))))) pa_nil)))) (pss_one (ps_ret pe_bl)) pss_nil)
    (pss_cons (ps_setLc2 (i := 3) (own := [("function", 6), ("output", 7)]) (vs1 := [7]) rfl sc_is_profile.nd rfl rfl (sw_true rfl rfl rfl (by decide +kernel)) (pi_tupK K (pv 0)) (blkOk_by (own := [("function", 6), ("output", 7)]) (N := ["value", "inputs", "outputs", "computed", "firsts", "one", "function", "output"]) (sc := defScope s_is_profile) (by decide +kernel)) (by decide) (fun _ _ _ _ _ => (pg_name (i := 6) sc_is_profile.nd rfl (Or.inl rfl))) (fun _ _ _ _ _ => pts_nil) (fun _ _ _ _ _ => (pi_tupK K (pe_ix (ix_tupK K) (pv 6) pe_int (fun _ _ => rfl)))) (fun _ _ _ _ _ => (pg_name (i := 7) sc_is_profile.nd rfl (Or.inl rfl))) (fun _ _ _ _ _ => pts_nil) (fun _ _ _ _ _ => (pv 7)))
    (pss_cons (ps_if (pt_cmpR (op_neDK K hr.units) (pe_callB (cr_sortedLS K) (by rfl) T.n_sorted (by decide +kernel) (pa_cons (pv 3) pa_nil)) (pe_callB (cr_sortedTS K) (by rfl) T.n_sorted (by decide +kernel) (pa_cons (pv 2) pa_nil)) (nomark _)) (pss_one (ps_ret pe_bl)) pss_nil)
    (pss_cons (ps_setLc (i := 4) (own := [("function", 6)]) rfl sc_is_profile.nd rfl rfl (sw_true rfl rfl rfl (by decide +kernel)) (pi_tupK K (pv 0)) (blkOk_by (own := [("function", 6)]) (N := ["value", "inputs", "outputs", "computed", "firsts", "one", "function", "output"]) (sc := defScope s_is_profile) (by decide +kernel)) (fun _ _ _ _ _ => (pg_name (i := 6) sc_is_profile.nd rfl (Or.inl rfl))) (fun _ _ _ _ _ => pts_nil) (fun _ _ _ _ _ => (pe_bmT PySem.F.slot_tuple_index PySem.F.type_tuple_index (mt_tup_indexK K) (pv 2) (pa_cons (pe_ix (ix_tupK K) (pe_ix (ix_tupK K) (pv 6) pe_int (fun _ _ => rfl)) pe_int (fun _ _ => rfl)) pa_nil))))
    (pss_one (ps_ret (pe_cmpR (op_eqDK K hr.units) (pv 4) (pe_callB (cr_sortedIK K) (by rfl) T.n_sorted (by decide +kernel) (pa_cons (pv 4) pa_nil)) (nomark _))))))))), ?_⟩
    cases hT : isT d with
    | false =>
      rw [profB_not hT] at k
      refine ⟨_, rfl, v, .ty "tuple", tyD d, .type "tuple", isT d, rfl, .ty _, hd.ty, kit_isT d, _, rfl, ?_⟩
      rw [hT]
      exact iteT (iteT (k _ (Same.refl H)))
    | true =>
    obtain ⟨t, xs, ds, rfl, rfl, hX, hA⟩ := hd.isT hT
    obtain ⟨hl2, hds⟩ := hq.tup
    have hlen := hA.len
    have hS := hX.sqt (K := K)
    have no : profB is os (.tuple ds) = false → ∀ H', Same H H' → Q (.bl false) H' := fun h H' s => by
      have q := k H' s
      rw [h] at q
      exact q
    have eP : profB is os (.tuple ds) = (ds.all (fnB is os) && (ds.flatMap fnOuts).isPerm os && decide ((ds.map fun f => ((firstOf os f : Nat) : Int)).Pairwise (· ≤ ·))) := rfl
    refine ⟨_, rfl, .ref t, .ty "tuple", .type "tuple", .type "tuple", true, rfl, .ty _, hX.ty, kit_tup, _, rfl, iteF ?_⟩
    -- pairs
    refine ⟨_, rfl, t, rfl, ⟨_, hS⟩, fun D hD => lc_tup (K := K) (a := t) (xs := xs) (fun i H' => Same H H' ∧ H' D = some (.lst (((ds.take i).map pairB).map V.bl))) ⟨same_new hD, upd_same⟩ (fun i H' _ h => same_sqt h.1 hS) ?_ ?_⟩
    · rintro j x H1 hx ⟨s1, h1⟩
      obtain ⟨d, hd1, hd2⟩ := hA.get hx
      have hd2 := hd2.same s1
      refine ⟨rfl, ?_⟩
      dsimp only [tYes]
      have hz : ((((ds.take j).map pairB).map V.bl).length : Nat) < 100000 := by rw [List.length_map, List.length_map, List.length_take]; omega
      have add : ∀ r, r = pairB d → ∃ ys, H1 D = some (.lst ys) ∧ ys.length + 1 ≤ sizeLine ∧ Same H (upd H1 D (.lst (ys ++ [.bl r]))) ∧ upd H1 D (.lst (ys ++ [.bl r])) D = some (.lst (((ds.take (j + 1)).map pairB).map V.bl)) := by
        rintro r rfl
        refine ⟨_, h1, szt hz, same_mut s1 hD, ?_⟩
        rw [upd_same, List.take_add_one, hd1, List.map_append, List.map_append]
        rfl
      refine iteT ?_
      refine ⟨_, rfl, x, .ty "tuple", tyD d, .type "tuple", isT d, rfl, .ty _, hd2.ty, kit_isT d, _, rfl, ?_⟩
      cases hT2 : isT d with
      | false =>
        exact iteF (add false (by cases d <;> first | rfl | cases hT2))
      | true =>
        obtain ⟨q, ys, es, rfl, rfl, hY, hB⟩ := hd2.isT hT2
        refine iteT ⟨_, rfl, q, _, rfl, .inr hY.sqt, rfl, ?_⟩
        refine add _ ?_
        have e1 := hB.len
        match es, ys, e1 with
        | [], [], _ => rfl
        | [_], [_], _ => rfl
        | [_, _], [_, _], _ => rfl
        | _ :: _ :: _ :: r, _ :: _ :: _ :: r2, e1 =>
          show decide _ = false
          refine decide_eq_false fun z => ?_
          injection z with z
          simp only [List.length_cons] at z
          omega
    rintro H1 ⟨s1, h1⟩
    rw [hlen, List.take_length] at h1
    refine ⟨D, ds.map pairB, rfl, SqL.of h1, _, rfl, ?_⟩
    have ea : (ds.map pairB).all id = ds.all pairB := by rw [List.all_map]; rfl
    rw [ea]
    cases hall : ds.all pairB with
    | false =>
      refine iteT (no ?_ _ s1)
      rw [eP]
      cases hf : ds.all (fnB is os) with
      | false => rfl
      | true =>
        have : ds.all pairB = true := by
          rw [List.all_eq_true] at hf ⊢
          exact fun x hx => fn_pair (hf x hx)
        rw [hall] at this
        cases this
    | true =>
    rw [List.all_eq_true] at hall
    refine iteF ?_
    walk_at "nx"
    -- parts
    refine ⟨_, rfl, t, rfl, ⟨_, same_sqt s1 hS⟩, fun D2 hD2 => lc_tup (K := K) (a := t) (xs := xs) (fun i H' => Same H1 H' ∧ H' D2 = some (.lst (((ds.take i).map (fnB is os)).map V.bl))) ⟨same_new hD2, upd_same⟩ (fun i H' _ h => same_sqt (s1.trans h.1) hS) ?_ ?_⟩
    · rintro j x H2 hx ⟨s2, h2⟩
      obtain ⟨d, hd1, hd2⟩ := hA.get hx
      have hdm := List.mem_of_getElem? hd1
      have s12 := s1.trans s2
      have hd2 := hd2.same s12
      obtain ⟨q, va, vc, a, c, rfl, rfl, hY, hva, hvc⟩ := pair_of hd2 (hall d hdm)
      obtain ⟨_, hac⟩ := (hds _ hdm).tup
      refine ⟨rfl, ?_⟩
      dsimp only [tYes]
      have hz : ((((ds.take j).map (fnB is os)).map V.bl).length : Nat) < 100000 := by rw [List.length_map, List.length_map, List.length_take]; omega
      have add : ∀ r H3, Same H2 H3 → r = fnB is os (.tuple [a, c]) → ∃ ys, H3 D2 = some (.lst ys) ∧ ys.length + 1 ≤ sizeLine ∧ Same H1 (upd H3 D2 (.lst (ys ++ [.bl r]))) ∧ upd H3 D2 (.lst (ys ++ [.bl r])) D2 = some (.lst (((ds.take (j + 1)).map (fnB is os)).map V.bl)) := by
        rintro r H3 s3 rfl
        refine ⟨_, s3 _ _ h2, szt hz, same_mut (s2.trans s3) hD2, ?_⟩
        rw [upd_same, List.take_add_one, hd1, List.map_append, List.map_append]
        rfl
      have eF : fnB is os (.tuple [a, c]) = (partB a os && decide (portN a ≠ []) && partB c is) := rfl
      refine iteT ⟨_, rfl, q, _, _, _, rfl, rfl, hY.sqt, atI_nat (j := 0) rfl, _, rfl, p, bb, va, a, o, os, rfl, hva, hac a List.mem_cons_self, hO.same s12, ho, fun H3 s3 => ⟨_, rfl, ?_⟩⟩
      cases hpa : partB a os with
      | false => exact iteF (add false H3 s3 (by rw [eF, hpa]; rfl))
      | true =>
      refine iteT ?_
      have hpo : portsB a = true := by
        unfold partB at hpa
        rw [Bool.and_eq_true] at hpa
        exact hpa.1
      obtain ⟨ta, rfl, hKa, hoa⟩ := hva.ports hpo
      refine ⟨_, rfl, q, _, _, _, rfl, rfl, same_sqt s3 hY.sqt, atI_nat (j := 0) rfl, szl (Nat.zero_le _), fun e H4 s4 he => ?_⟩
      have s24 := s3.trans s4
      refine ⟨.tuple ((portN a).map .str), .tuple [], dp_strs (hKa.same s24).sqt, .tup he.sqt .nil, shp_tx fun x hx => okS_name (hoa.1 x hx), rfl, ?_⟩
      have hne : (!PyData.eqv (.tuple ((portN a).map .str)) (.tuple [])) = decide (portN a ≠ []) := by
        cases hg1 : portN a with
        | nil => rfl
        | cons x r => rfl
      rw [hne]
      refine ⟨_, rfl, ?_⟩
      by_cases hn : portN a ≠ []
      case neg =>
        rw [decide_eq_false hn]
        exact iteF (add false H4 s24 (by rw [eF, decide_eq_false hn, Bool.and_false, Bool.false_and]))
      rw [decide_eq_true hn]
      refine iteT ?_
      refine ⟨_, rfl, q, _, _, _, rfl, rfl, (hY.same s24).sqt, atI_nat (j := 1) rfl, _, rfl, p, bb, vc, c, i, is, rfl, hvc.same s24, hac c (List.mem_cons_of_mem _ List.mem_cons_self), hI.same (s12.trans s24), hi, fun H5 s5 => ?_⟩
      exact add _ H5 (s24.trans s5) (by rw [eF, hpa, decide_eq_true hn]; rfl)
    rintro H2 ⟨s2, h2⟩
    rw [hlen, List.take_length] at h2
    refine ⟨D2, ds.map (fnB is os), rfl, SqL.of h2, _, rfl, ?_⟩
    have ea : (ds.map (fnB is os)).all id = ds.all (fnB is os) := by rw [List.all_map]; rfl
    rw [ea]
    have s02 := s1.trans s2
    cases hfn : ds.all (fnB is os) with
    | false => exact iteT (no (by rw [eP, hfn]; rfl) _ s02)
    | true =>
    rw [hfn, Bool.true_and] at eP
    rw [List.all_eq_true] at hfn
    refine iteF ?_
    walk_at "nx"
    have h8 : ∀ f ∈ ds, (fnOuts f).length ≤ 8 := fun f hf => (fn_outs (hfn f hf)).2.2.2
    have hdat : ∀ {j : Nat} {x : V} {H' : Hp}, xs[j]? = some x → Same H H' → ∃ d q va vc a c, ds[j]? = some d ∧ x = .ref q ∧ d = .tuple [a, c] ∧ KnT H' q [.ref va, vc] ∧ KnT H' va ((fnOuts d).map V.str) ∧ PortsOk (fnOuts d) ∧ fnB is os d = true := fun {j x H'} hx s => by
      obtain ⟨d, hd1, hd2⟩ := hA.get hx
      have hdm := List.mem_of_getElem? hd1
      obtain ⟨q, va, vc, a, c, rfl, rfl, hY, hva, hvc⟩ := pair_of (hd2.same s) (hall d hdm)
      obtain ⟨hpo, _⟩ := fn_outs (hfn _ hdm)
      obtain ⟨ta, rfl, hKa, hoa⟩ := hva.ports hpo
      exact ⟨_, q, ta, vc, a, c, hd1, rfl, rfl, hY, hKa, hoa, hfn _ hdm⟩
    refine asg (fun v H' => ∃ c, v = .ref c ∧ Same H2 H' ∧ H' c = some (.lst ((ds.flatMap fnOuts).map V.str))) (fun Q' q' => ?_) ?_
    · refine ⟨_, rfl, t, rfl, ⟨_, same_sqt s02 hS⟩, fun D hD => it_tup (K := K) (a := t) (xs := xs) (fun i H' => Same H2 H' ∧ H' D = some (.lst (((ds.take i).flatMap fnOuts).map V.str))) ⟨same_new hD, upd_same⟩ (fun i H' h => same_sqt (s02.trans h.1) hS) ?_ ?_⟩
      · rintro j x H3 hx ⟨s3, h3⟩
        obtain ⟨g, q, va, vc, a, c, hg, rfl, hgd, hY, hKa, _⟩ := hdat hx (Same.refl H)
        have s03 := s02.trans s3
        refine ⟨rfl, ?_⟩
        dsimp only [tYes]
        refine iteT ⟨_, rfl, q, _, _, _, rfl, rfl, (hY.same s03).sqt, atI_nat (j := 0) rfl, va, rfl, ⟨_, (hKa.same s03).sqt⟩, it_tup (K := K) (a := va) (xs := (fnOuts g).map V.str) (fun m H' => Same H2 H' ∧ H' D = some (.lst (((ds.take j).flatMap fnOuts ++ (fnOuts g).take m).map V.str))) ⟨s3, by rw [h3, List.take_zero, List.append_nil]⟩ (fun m H' h => (hKa.same (s02.trans h.1)).sqt) ?_ ?_⟩
        · rintro m y H4 hy ⟨s4, h4'⟩
          obtain ⟨hm, e⟩ := List.getElem?_eq_some_iff.mp hy
          rw [List.length_map] at hm
          rw [List.getElem_map] at e
          subst e
          refine ⟨rfl, ?_⟩
          dsimp only [tYes]
          have hb := flat_partM h8 (m := m) hg
          refine iteT ⟨_, rfl, _, h4', szt (by rw [List.length_map, List.length_append]; omega), same_mut s4 hD, ?_⟩
          rw [upd_same, List.take_add_one, List.getElem?_eq_getElem hm, ← List.append_assoc, List.map_append (l₁ := List.flatMap _ _ ++ _)]
          rfl
        · rintro H4 ⟨s4, h4'⟩
          refine ⟨s4, ?_⟩
          rw [h4', List.length_map, List.take_length, List.take_add_one, hg, List.flatMap_append]
          simp
      · rintro H3 ⟨s3, h3⟩
        rw [hlen, List.take_length] at h3
        exact q' _ _ ⟨D, rfl, s3, h3⟩
    rintro _ H3 ⟨c, rfl, s3, hc⟩
    dsimp only [gName]
    have s03 := s02.trans s3
    refine ⟨_, rfl, c, _, rfl, SqL.of hc, fun ys p1 hy1 hy2 hp1 => ?_⟩
    have s4 := s03.trans (same_new (o := .lst (ys.map V.str)) hp1)
    refine ⟨_, rfl, o, os, rfl, (hO.same s4).sqt, fun zs p2 hz1 hz2 hp2 => ?_⟩
    have s5 := s4.trans (same_new (o := .lst (zs.map V.str)) hp2)
    have hnm : ∀ x ∈ ds.flatMap fnOuts, nameOk x = true := fun x hx => by
      obtain ⟨g, h1, h2⟩ := List.mem_flatMap.mp hx
      exact ho.1 x ((fn_outs (hfn g h1)).2.2.1 x h2)
    have hsh := shp_strs (l := zs) fun x hx => okS_name (ho.1 x (hz1.mem_iff.mp hx))
    have hsy := shp_strs (l := ys) fun x hx => okS_name (hnm x (hy1.mem_iff.mp hx))
    have hp1' : upd (upd H3 p1 (.lst (ys.map V.str))) p2 (.lst (zs.map V.str)) p1 = some (.lst (ys.map V.str)) := same_new hp2 _ _ upd_same
    refine ⟨.list (ys.map .str), .list (zs.map .str), .lst (SqL.of hp1') (dps_strs ys), .lst (SqL.of upd_same) (dps_strs zs), hsy, hsh, _, rfl, ?_⟩
    have ee : PyData.eqv (.list (ys.map .str)) (.list (zs.map .str)) = (ds.flatMap fnOuts).isPerm os := by
      show PyData.eqvAll _ _ = _
      rw [eqv_str2]
      exact sort_perm hy1 hy2 hz1 hz2
    rw [ee]
    cases hpm : (ds.flatMap fnOuts).isPerm os with
    | false => exact iteT (no (by rw [eP, hpm]; rfl) _ s5)
    | true =>
    rw [hpm, Bool.true_and] at eP
    refine iteF ?_
    walk_at "nx"
    revert s5
    generalize upd (upd H3 p1 (.lst (ys.map V.str))) p2 (.lst (zs.map V.str)) = H6
    intro s5
    -- the places of the first outputs
    refine asg (fun v H' => ∃ d, v = .ref d ∧ Same H6 H' ∧ H' d = some (.lst ((ds.map fun f => ((firstOf os f : Nat) : Int)).map V.int))) (fun Q' q' => ?_) ?_
    · refine ⟨_, rfl, t, rfl, ⟨_, same_sqt s5 hS⟩, fun D hD => lc_tup (K := K) (a := t) (xs := xs) (fun i H' => Same H6 H' ∧ H' D = some (.lst (((ds.take i).map fun f => ((firstOf os f : Nat) : Int)).map V.int))) ⟨same_new hD, upd_same⟩ (fun i H' _ h => same_sqt (s5.trans h.1) hS) ?_ ?_⟩
      · rintro j x H7 hx ⟨s7, h7⟩
        have s07 := s5.trans s7
        obtain ⟨g, q, va, vc, a, c, hg, rfl, hgd, hY, hKa, _, hgf⟩ := hdat hx s07
        obtain ⟨_, hne, hmo, _⟩ := fn_outs hgf
        refine ⟨rfl, ?_⟩
        dsimp only [tYes]
        obtain ⟨y, r, hyr⟩ : ∃ y r, fnOuts g = y :: r := by
          cases e : fnOuts g with
          | nil => exact absurd e hne
          | cons y r => exact ⟨y, r, rfl⟩
        have hyo : y ∈ os := hmo y (by rw [hyr]; exact List.mem_cons_self)
        have hfa : firstOf os g = os.idxOf y := by unfold firstOf; rw [hyr]; rfl
        have hlt : os.idxOf y < os.length := List.idxOf_lt_length_iff.mpr hyo
        have hat : os[os.idxOf y]? = some y := by rw [List.getElem?_eq_getElem hlt, List.getElem_idxOf]
        refine iteT ⟨_, rfl, ⟨o, _, rfl, hO.same s07⟩, _, rfl, q, _, _, _, rfl, rfl, hY.sqt, atI_nat (j := 0) rfl, va, _, _, _, rfl, rfl, hKa.sqt, atI_nat (j := 0) (by rw [hyr]; rfl), o, os, y, os.idxOf y, rfl, rfl, (hO.same s07).sqt, hat, fun m hm => idx_first m hm, _, h7, szt (by rw [List.length_map, List.length_map, List.length_take]; omega), same_mut s7 hD, ?_⟩
        rw [upd_same, List.take_add_one, hg, List.map_append, List.map_append]
        show _ = some (HO.lst (_ ++ [V.int ((firstOf os g : Nat) : Int)]))
        rw [hfa]
      · rintro H7 ⟨s7, h7⟩
        rw [hlen, List.take_length] at h7
        exact q' _ _ ⟨D, rfl, s7, h7⟩
    rintro _ H7 ⟨d, rfl, s7, hd7⟩
    dsimp only [gName]
    have s07 := s5.trans s7
    refine ⟨_, rfl, _, rfl, d, _, rfl, SqL.of hd7, fun ns p3 hn1 hn2 hp3 => ?_⟩
    have hd' : upd H7 p3 (.lst (ns.map V.int)) d = some (.lst ((ds.map fun f => ((firstOf os f : Nat) : Int)).map V.int)) := by
      rw [upd_ne (ne_of_none hd7 hp3)]
      exact hd7
    refine ⟨.list ((ds.map fun f => ((firstOf os f : Nat) : Int)).map .int), .list (ns.map .int), .lst (SqL.of hd') (dps_nums _), .lst (SqL.of upd_same) (dps_nums ns), shp_nums _, shp_nums ns, ?_⟩
    have ee : PyData.eqv (.list ((ds.map fun f => ((firstOf os f : Nat) : Int)).map .int)) (.list (ns.map .int)) = profB is os (.tuple ds) := by
      show PyData.eqvAll _ _ = _
      rw [eqv_int2, sort_self hn1 hn2, eP]
    rw [ee]
    exact k _ (s07.trans (same_new hp3))

end
end K22

set_option maxRecDepth 100000
set_option maxHeartbeats 4000000
namespace K22
open PySem L2 Ly Od
local macro_rules | `(tactic| walk_at "nx") => `(tactic| dsimp only [tNext])
section
variable {P : Program} {w : World} {K : PySem.W.Frag} {mg : Str → Option Value} {base : Heap} {ad : Adr}
/-! ### is_interface -/
theorem tup3 {α : Type} : ∀ {l : List α}, l.length = 3 → ∃ a b c, l = [a, b, c]
  | [a, b, c], _ => ⟨a, b, c, rfl⟩
  | [], h => (by cases h)
  | [_], h => (by simp at h)
  | [_, _], h => (by simp at h)
  | _ :: _ :: _ :: _ :: _, h => (by simp at h)
theorem ifcB_len {ds : List PyData} (h : ds.length ≠ 3) : ifcB (.tuple ds) = false := by
  unfold ifcB
  split
  · rename_i a b c e
    injection e with e
    rw [e] at h
    exact absurd rfl h
  · rfl
theorem dq3 {p : Addr → Prop} {H : Hp} {b : Bool} {xs : List V} {x y z : PyData} (h : DqAll p H b xs [x, y, z]) : ∃ u v w, xs = [u, v, w] ∧ Dq p H b u x ∧ Dq p H b v y ∧ Dq p H b w z := by
  cases h with
  | cons h1 h2 => cases h2 with
    | cons h3 h4 => cases h4 with
      | cons h5 h6 =>
        cases h6
        exact ⟨_, _, _, rfl, h1, h3, h5⟩
theorem len_ne {n : Nat} (h : n ≠ 3) : decide ((V.int (n : Nat)) = V.int 3) = false := decide_eq_false fun e => by
  injection e with e
  omega
theorem sc_is_interface : FnScope ["value"] ["value"] (defScope s_is_interface) := ⟨rfl, rfl, rfl, by decide +kernel, rfl, by decide +kernel, by decide +kernel⟩
theorem ok_isif {f : Addr} {fd fdN fdP : FuncData} (F : Fun K "is_interface" "is_interface" s_is_interface f fd) (T : Txt K w mg ad) (G_are_ports : FnOk P w K mg base CX0 2 ad.f_are_ports fdN ["value"] spPortsQ) (b_are_ports : Binds K fdN ["value"] [])
    (G_is_profile : FnOk P w K mg base CX0 4 ad.f_is_profile fdP ["value", "inputs", "outputs"] spProfQ) (b_is_profile : Binds K fdP ["value", "inputs", "outputs"] []) : FnOk P w K mg base CX0 5 f fd ["value"] spIfQ := by
  refine F.ok sc_is_interface (fun vs H Q E h => ?_) (fun cdv A outer s H vs Q E hr h => ?_)
  · obtain ⟨p, bb, v, d, rfl, _⟩ := h
    rfl
  · obtain ⟨p, bb, v, d, rfl, hd, hq, k⟩ := h
    refine ⟨_, (pss_cons (ps_if (PW.pt (pw_or (pt_not (pt_val (pe_callB (call_isiK K) (by rfl) T.n_isinstance (by decide +kernel) (pa_cons (pv 0) (pa_cons (pe_bltn (v := .ty "tuple") rfl T.n_tuple (by decide +kernel) rfl) pa_nil))))) (pw_or (pt_cmpR op_ne (pe_callB (call_lenK K) (by rfl) T.n_len (by decide +kernel) (pa_cons (pv 0) pa_nil)) pe_int (nomark _)) (pw_or (pt_not (pt_val (pe_call G_are_ports (hr.mono (by decide)) rfl T.g_are_ports T.k_are_ports b_are_ports .nil pass0 (pa_cons (pe_ix (ix_tupK K) (pv 0) pe_int (fun _ _ => rfl)) pa_nil)))) (pw_or1 (pt_not (pt_val (pe_call G_are_ports (hr.mono (by decide)) rfl T.g_are_ports T.k_are_ports b_are_ports .nil pass0 (pa_cons (pe_ix (ix_tupK K) (pv 0) pe_int (fun _ _ => rfl)) pa_nil))))))))) (pss_one (ps_ret pe_bl)) pss_nil)
    (pss_cons (ps_if (pt_cmpR op_lt (pe_callB (cr_lenSetS w) (by rfl) T.n_len (by decide +kernel) (pa_cons (pe_callTy (cr_setT K w rfl) (by rfl) T.n_set (by decide +kernel) (pa_cons (pe_op op_catF (pe_ix (ix_tupK K) (pv 0) pe_int (fun _ _ => rfl)) (pe_ix (ix_tupK K) (pv 0) pe_int (fun _ _ => rfl))) pa_nil)) pa_nil)) (pe_callB (call_lenK K) (by rfl) T.n_len (by decide +kernel) (pa_cons (pe_op op_catF (pe_ix (ix_tupK K) (pv 0) pe_int (fun _ _ => rfl)) (pe_ix (ix_tupK K) (pv 0) pe_int (fun _ _ => rfl))) pa_nil)) (nomark _)) (pss_one (ps_ret pe_bl)) pss_nil)
    (pss_one (ps_ret (pe_call G_is_profile (hr.mono (by decide)) rfl T.g_is_profile T.k_is_profile b_is_profile .nil pass0 (pa_cons (pe_ix (ix_tupK K) (pv 0) pe_int (fun _ _ => rfl)) (pa_cons (pe_ix (ix_tupK K) (pv 0) pe_int (fun _ _ => rfl)) (pa_cons (pe_ix (ix_tupK K) (pv 0) pe_int (fun _ _ => rfl)) pa_nil)))))))), ?_⟩
    cases hT : isT d with
    | false =>
      rw [ifcB_not hT] at k
      refine ⟨_, rfl, v, .ty "tuple", tyD d, .type "tuple", isT d, rfl, .ty _, hd.ty, kit_isT d, _, rfl, ?_⟩
      rw [hT]
      exact iteT (iteT (k _ (Same.refl H)))
    | true =>
    obtain ⟨t, xs, ds, rfl, rfl, hX, hA⟩ := hd.isT hT
    obtain ⟨hl2, hds⟩ := hq.tup
    have hlen := hA.len
    have no : ifcB (.tuple ds) = false → ∀ H', Same H H' → Q (.bl false) H' := fun h H' s => by
      have q := k H' s
      rw [h] at q
      exact q
    refine ⟨_, rfl, .ref t, .ty "tuple", .type "tuple", .type "tuple", true, rfl, .ty _, hX.ty, kit_tup, _, rfl, iteF ?_⟩
    refine ⟨_, rfl, t, _, rfl, .inr hX.sqt, rfl, _, rfl, ?_⟩
    by_cases h3 : ds.length = 3
    case neg =>
      rw [len_ne (show xs.length ≠ 3 by omega)]
      exact iteT (iteT (no (ifcB_len h3) _ (Same.refl H)))
    obtain ⟨da, db, dc, rfl⟩ := tup3 h3
    obtain ⟨va, vb, vc, rfl, ha, hb, hc⟩ := dq3 hA
    refine iteF ?_
    have eI : ifcB (.tuple [da, db, dc]) = (portsB da && portsB db && decide (portN da ++ portN db).Nodup && profB (portN da) (portN db) dc) := rfl
    refine ⟨_, rfl, t, _, _, _, rfl, rfl, hX.sqt, atI_nat (j := 0) rfl, p, bb, va, da, rfl, ha, hds da (by simp), fun H1 s1 => ⟨_, rfl, ?_⟩⟩
    cases hpa : portsB da with
    | false => exact iteT (iteT (no (by rw [eI, hpa]; rfl) _ s1))
    | true =>
    refine iteF ?_
    refine ⟨_, rfl, t, _, _, _, rfl, rfl, (hX.same s1).sqt, atI_nat (j := 1) rfl, p, bb, vb, db, rfl, hb.same s1, hds db (by simp), fun H2 s2 => ⟨_, rfl, ?_⟩⟩
    have s02 := s1.trans s2
    cases hpb : portsB db with
    | false => exact iteT (no (by rw [eI, hpa, hpb]; rfl) _ s02)
    | true =>
    refine iteF ?_
    walk_at "nx"
    obtain ⟨a, rfl, hI, hi⟩ := ha.ports hpa
    obtain ⟨b, rfl, hO, ho⟩ := hb.ports hpb
    rw [hpa, hpb, Bool.true_and, Bool.true_and] at eI
    have hz : ((portN da).map V.str).length + ((portN db).map V.str).length ≤ sizeLine := szl (by rw [List.length_map, List.length_map]; have := hi.2.2; have := ho.2.2; omega)
    refine ⟨_, rfl, t, _, _, _, rfl, rfl, (hX.same s02).sqt, atI_nat (j := 0) rfl, _, rfl, t, _, _, _, rfl, rfl, (hX.same s02).sqt, atI_nat (j := 1) rfl, a, b, _, _, rfl, rfl, hI.same s02, hO.same s02, hz, fun p1 H3 s3 h3 => ?_⟩
    rw [← List.map_append] at h3
    have s03 := s02.trans s3
    have hl16 : (portN da ++ portN db).length ≤ 2000 := by rw [List.length_append]; have := hi.2.2; have := ho.2.2; omega
    refine ⟨p1, portN da ++ portN db, rfl, h3.sqt, hl16, fun p2 hp2 => ⟨p2, dedS (portN da ++ portN db), rfl, upd_same, ?_⟩⟩
    have s04 := s03.trans (same_new (o := SetSO w p2 (dedS (portN da ++ portN db))) hp2)
    refine ⟨_, rfl, t, _, _, _, rfl, rfl, (hX.same s04).sqt, atI_nat (j := 0) rfl, _, rfl, t, _, _, _, rfl, rfl, (hX.same s04).sqt, atI_nat (j := 1) rfl, a, b, _, _, rfl, rfl, hI.same s04, hO.same s04, hz, fun p3 H5 s5 h5 => ?_⟩
    have s05 := s04.trans s5
    refine ⟨p3, _, rfl, .inr h5.sqt, _, _, rfl, rfl, _, rfl, ?_⟩
    have hle := ded_lt (portN da ++ portN db)
    by_cases hnd : (portN da ++ portN db).Nodup
    case neg =>
      rw [decide_eq_true (show ((dedS (portN da ++ portN db)).length : Int) < (((portN da).map V.str ++ (portN db).map V.str).length : Int) by
        have := hle.mpr hnd
        rw [List.length_append] at this ⊢
        rw [List.length_map, List.length_map]
        omega)]
      exact iteT (no (by rw [eI, decide_eq_false hnd]; rfl) _ s05)
    have hlt : ¬ ((dedS (portN da ++ portN db)).length : Int) < (((portN da).map V.str ++ (portN db).map V.str).length : Int) := by
      have : ¬ (dedS (portN da ++ portN db)).length < (portN da ++ portN db).length := fun z => hle.mp z hnd
      rw [List.length_append] at this ⊢
      rw [List.length_map, List.length_map]
      omega
    rw [decide_eq_false hlt]
    refine iteF ?_
    walk_at "nx"
    refine ⟨_, rfl, t, _, _, _, rfl, rfl, (hX.same s05).sqt, atI_nat (j := 2) rfl, _, rfl, t, _, _, _, rfl, rfl, (hX.same s05).sqt, atI_nat (j := 0) rfl, _, rfl, t, _, _, _, rfl, rfl, (hX.same s05).sqt, atI_nat (j := 1) rfl, p, bb, vc, dc, a, b, portN da, portN db, rfl, hc.same s05, hds dc (by simp), hI.same s05, hi, hO.same s05, ho, fun H6 s6 => ?_⟩
    have kk := k _ (s05.trans s6)
    rw [eI, decide_eq_true hnd, Bool.true_and] at kk
    exact kk

end
end K22

set_option maxRecDepth 100000
set_option maxHeartbeats 4000000
namespace K22
open PySem L2 Ly Od
local macro_rules | `(tactic| walk_at "nx") => `(tactic| dsimp only [tNext])
section
variable {P : Program} {w : World} {K : PySem.W.Frag} {mg : Str → Option Value} {base : Heap} {ad : Adr}
/-! ### _law_is_interface -/
theorem fil_eqv {xs ns : List Str} : (!PyData.eqv (.list ((ns.filter fun x => decide (x ∈ xs)).map .str)) (.list (xs.map .str))) = !decide (xs = ns.filter fun x => decide (x ∈ xs)) := by
  congr 1
  show PyData.eqvAll _ _ = _
  rw [eqv_str2, Bool.eq_iff_iff, decide_eq_true_iff, decide_eq_true_iff]
  exact eq_comm
theorem sc_law_is_interface : FnScope ["value", "computed", "firsts", "function", "outputs", "needs", "one"] ["value"] (defScope s_law_is_interface) := ⟨rfl, rfl, rfl, by decide +kernel, rfl, by decide +kernel, by decide +kernel⟩
theorem ok_lisif {f : Addr} {fd fdN : FuncData} (F : Fun K "_law_is_interface" "_law_is_interface" s_law_is_interface f fd) (T : Txt K w mg ad) (G_law_are_ports : FnOk P w K mg base CX0 2 ad.f_law_are_ports fdN ["value"] spPortsQ) (b_law_are_ports : Binds K fdN ["value"] []) : FnOk P w K mg base CX0 3 f fd ["value"] spIfQ := by
  refine F.ok sc_law_is_interface (fun vs H Q E h => ?_) (fun cdv A outer s H vs Q E hr h => ?_)
  · obtain ⟨p, bb, v, d, rfl, _⟩ := h
    rfl
  · obtain ⟨p, bb, v, d, rfl, hd, hq, k⟩ := h
    refine ⟨_, (pss_cons (ps_if (PW.pt (pw_or (pt_not (pt_val (pe_callB (call_isiK K) (by rfl) T.n_isinstance (by decide +kernel) (pa_cons (pv 0) (pa_cons (pe_bltn (v := .ty "tuple") rfl T.n_tuple (by decide +kernel) rfl) pa_nil))))) (pw_or (pt_cmpR op_ne (pe_callB (call_lenK K) (by rfl) T.n_len (by decide +kernel) (pa_cons (pv 0) pa_nil)) pe_int (nomark _)) (pw_or1 (pt_not (pt_val (pe_callB (call_isiK K) (by rfl) T.n_isinstance (by decide +kernel) (pa_cons (pe_ix (ix_tupK K) (pv 0) pe_int (fun _ _ => rfl)) (pa_cons (pe_bltn (v := .ty "tuple") rfl T.n_tuple (by decide +kernel) rfl) pa_nil))))))))) (pss_one (ps_ret pe_bl)) pss_nil)
    (pss_cons (ps_if (PW.pt (pw_or (pt_not (pt_val (pe_call G_law_are_ports (hr.mono (by decide)) rfl T.g__law_are_ports T.k__law_are_ports b_law_are_ports .nil pass0 (pa_cons (pe_ix (ix_tupK K) (pv 0) pe_int (fun _ _ => rfl)) pa_nil)))) (pw_or1 (pt_not (pt_val (pe_call G_law_are_ports (hr.mono (by decide)) rfl T.g__law_are_ports T.k__law_are_ports b_law_are_ports .nil pass0 (pa_cons (pe_ix (ix_tupK K) (pv 0) pe_int (fun _ _ => rfl)) pa_nil))))))) (pss_one (ps_ret pe_bl)) pss_nil)
    (pss_cons (ps_if (pt_cmpR op_ne (pe_callB (cr_lenSetS w) (by rfl) T.n_len (by decide +kernel) (pa_cons (pe_callTy (cr_setT K w rfl) (by rfl) T.n_set (by decide +kernel) (pa_cons (pe_op op_catF (pe_ix (ix_tupK K) (pv 0) pe_int (fun _ _ => rfl)) (pe_ix (ix_tupK K) (pv 0) pe_int (fun _ _ => rfl))) pa_nil)) pa_nil)) (pe_callB (call_lenK K) (by rfl) T.n_len (by decide +kernel) (pa_cons (pe_op op_catF (pe_ix (ix_tupK K) (pv 0) pe_int (fun _ _ => rfl)) (pe_ix (ix_tupK K) (pv 0) pe_int (fun _ _ => rfl))) pa_nil)) (nomark _)) (pss_one (ps_ret pe_bl)) pss_nil)
    (pss_cons (ps_set (i := 1) sc_law_is_interface.nd rfl (Or.inl rfl) (pe_lst pa_nil))
    (pss_cons (ps_set (i := 2) sc_law_is_interface.nd rfl (Or.inl rfl) (pe_lst pa_nil))
    (pss_cons (ps_for PassesOwn.never rfl (pi_tupK K (pe_ix (ix_tupK K) (pv 0) pe_int (fun _ _ => rfl))) (pg_name (i := 3) sc_law_is_interface.nd rfl (Or.inl rfl))
    (pss_cons (ps_if (PW.pt (pw_or (pt_not (pt_val (pe_callB (call_isiK K) (by rfl) T.n_isinstance (by decide +kernel) (pa_cons (pv 3) (pa_cons (pe_bltn (v := .ty "tuple") rfl T.n_tuple (by decide +kernel) rfl) pa_nil))))) (pw_or1 (pt_cmpR op_ne (pe_callB (call_lenK K) (by rfl) T.n_len (by decide +kernel) (pa_cons (pv 3) pa_nil)) pe_int (nomark _))))) (pss_one (ps_ret pe_bl)) pss_nil)
    (pss_cons (ps_asg (pv 3) (pg_tup (by rfl) (pgs_cons (pg_name (i := 4) sc_law_is_interface.nd rfl (Or.inr rfl)) (pgs_cons (pg_name (i := 5) sc_law_is_interface.nd rfl (Or.inr rfl)) pgs_nil))))
    (pss_cons (ps_if (PW.pt (pw_or (pt_not (pt_val (pe_call G_law_are_ports (hr.mono (by decide)) rfl T.g__law_are_ports T.k__law_are_ports b_law_are_ports .nil pass0 (pa_cons (pv 4) pa_nil)))) (pw_or (pt_not (pt_val (pe_call G_law_are_ports (hr.mono (by decide)) rfl T.g__law_are_ports T.k__law_are_ports b_law_are_ports .nil pass0 (pa_cons (pv 5) pa_nil)))) (pw_or1 (pt_cmpR (op_eqDK K hr.units) (pv 4) (pe_tupF pa_nil) (nomark _)))))) (pss_one (ps_ret pe_bl)) pss_nil)
    (pss_cons (ps_if (pt_cmpR (op_neDK K hr.units) (pe_lc (own := [("one", 6)]) rfl sc_law_is_interface.nd (pi_tupK K (pe_ix (ix_tupK K) (pv 0) pe_int (fun _ _ => rfl))) (blkOk_by (own := [("one", 6)]) (N := ["value", "computed", "firsts", "function", "outputs", "needs", "one"]) (sc := defScope s_law_is_interface) (by decide +kernel)) (fun _ _ _ _ _ => (pg_name (i := 6) sc_law_is_interface.nd rfl (Or.inl rfl))) (fun _ _ _ _ _ => (pts_one (pt_cmpR (op_in_seqK K) (pv 6) (pv 4) (by rfl)))) (fun _ _ _ _ _ => (pv 6))) (pe_callTy call_list_of (by rfl) T.n_list (by decide +kernel) (pa_cons (pv 4) pa_nil)) (nomark _)) (pss_one (ps_ret pe_bl)) pss_nil)
    (pss_cons (ps_if (pt_cmpR (op_neDK K hr.units) (pe_lc (own := [("one", 6)]) rfl sc_law_is_interface.nd (pi_tupK K (pe_ix (ix_tupK K) (pv 0) pe_int (fun _ _ => rfl))) (blkOk_by (own := [("one", 6)]) (N := ["value", "computed", "firsts", "function", "outputs", "needs", "one"]) (sc := defScope s_law_is_interface) (by decide +kernel)) (fun _ _ _ _ _ => (pg_name (i := 6) sc_law_is_interface.nd rfl (Or.inl rfl))) (fun _ _ _ _ _ => (pts_one (pt_cmpR (op_in_seqK K) (pv 6) (pv 5) (by rfl)))) (fun _ _ _ _ _ => (pv 6))) (pe_callTy call_list_of (by rfl) T.n_list (by decide +kernel) (pa_cons (pv 5) pa_nil)) (nomark _)) (pss_one (ps_ret pe_bl)) pss_nil)
    (pss_cons (ps_set (i := 1) sc_law_is_interface.nd rfl (Or.inl rfl) (pe_op op_cat (pv 1) (pe_callTy call_list_of (by rfl) T.n_list (by decide +kernel) (pa_cons (pv 4) pa_nil))))
    (pss_one (ps_expr (pe_bm PySem.F.plainAttrs_list PySem.F.slot_list_append PySem.F.type_list_append mt_append (pv 2) (pa_cons (pe_bmT PySem.F.slot_tuple_index PySem.F.type_tuple_index (mt_tup_indexK K) (pe_ix (ix_tupK K) (pv 0) pe_int (fun _ _ => rfl)) (pa_cons (pe_ix (ix_tupK K) (pv 4) pe_int (fun _ _ => rfl)) pa_nil)) pa_nil)))))))))))
    (pss_one (ps_ret (pe_and (pe_cmpR (op_eqDK K hr.units) (pe_callB (cr_sortedLS K) (by rfl) T.n_sorted (by decide +kernel) (pa_cons (pv 1) pa_nil)) (pe_callB (cr_sortedTS K) (by rfl) T.n_sorted (by decide +kernel) (pa_cons (pe_ix (ix_tupK K) (pv 0) pe_int (fun _ _ => rfl)) pa_nil)) (nomark _)) (pe_one (pe_cmpR (op_eqDK K hr.units) (pv 2) (pe_callB (cr_sortedIK K) (by rfl) T.n_sorted (by decide +kernel) (pa_cons (pv 2) pa_nil)) (nomark _)))))))))))), ?_⟩
    cases hT : isT d with
    | false =>
      rw [ifcB_not hT] at k
      refine ⟨_, rfl, v, .ty "tuple", tyD d, .type "tuple", isT d, rfl, .ty _, hd.ty, kit_isT d, _, rfl, ?_⟩
      rw [hT]
      exact iteT (iteT (k _ (Same.refl H)))
    | true =>
    obtain ⟨t, xs, ds0, rfl, rfl, hX, hA⟩ := hd.isT hT
    obtain ⟨hl2, hds⟩ := hq.tup
    have hlen := hA.len
    have no : ifcB (.tuple ds0) = false → ∀ H', Same H H' → Q (.bl false) H' := fun h H' s => by
      have q := k H' s
      rw [h] at q
      exact q
    refine ⟨_, rfl, .ref t, .ty "tuple", .type "tuple", .type "tuple", true, rfl, .ty _, hX.ty, kit_tup, _, rfl, iteF ?_⟩
    refine ⟨_, rfl, t, _, rfl, .inr hX.sqt, rfl, _, rfl, ?_⟩
    by_cases h3 : ds0.length = 3
    case neg =>
      rw [len_ne (show xs.length ≠ 3 by omega)]
      exact iteT (iteT (no (ifcB_len h3) _ (Same.refl H)))
    obtain ⟨da, db, dc, rfl⟩ := tup3 h3
    obtain ⟨va, vb, vc, rfl, ha, hb, hc⟩ := dq3 hA
    refine iteF ?_
    have eI : ifcB (.tuple [da, db, dc]) = (portsB da && portsB db && decide (portN da ++ portN db).Nodup && profB (portN da) (portN db) dc) := rfl
    refine ⟨_, rfl, t, _, _, _, rfl, rfl, hX.sqt, atI_nat (j := 2) rfl, vc, .ty "tuple", tyD dc, .type "tuple", isT dc, rfl, .ty _, hc.ty, kit_isT dc, _, rfl, ?_⟩
    cases hT2 : isT dc with
    | false => exact iteT (no (by rw [eI, profB_not hT2, Bool.and_false]) _ (Same.refl H))
    | true =>
    obtain ⟨tc, cs, ds, rfl, rfl, hC, hCA⟩ := hc.isT hT2
    obtain ⟨hcl, hcds⟩ := (hds (.tuple ds) (by simp)).tup
    have hclen := hCA.len
    refine iteF ?_
    walk_at "nx"
    refine ⟨_, rfl, t, _, _, _, rfl, rfl, hX.sqt, atI_nat (j := 0) rfl, p, bb, va, da, rfl, ha, hds da (by simp), fun H1 s1 => ⟨_, rfl, ?_⟩⟩
    cases hpa : portsB da with
    | false => exact iteT (iteT (no (by rw [eI, hpa]; rfl) _ s1))
    | true =>
    refine iteF ?_
    refine ⟨_, rfl, t, _, _, _, rfl, rfl, (hX.same s1).sqt, atI_nat (j := 1) rfl, p, bb, vb, db, rfl, hb.same s1, hds db (by simp), fun H2 s2 => ⟨_, rfl, ?_⟩⟩
    have s02 := s1.trans s2
    cases hpb : portsB db with
    | false => exact iteT (no (by rw [eI, hpa, hpb]; rfl) _ s02)
    | true =>
    refine iteF ?_
    walk_at "nx"
    obtain ⟨a, rfl, hI, hi⟩ := ha.ports hpa
    obtain ⟨b, rfl, hO, ho⟩ := hb.ports hpb
    rw [hpa, hpb, Bool.true_and, Bool.true_and] at eI
    revert no k hI hi hO ho eI
    generalize portN da = is
    generalize portN db = os
    intro k no eI hI hi hO ho
    have hz : (is.map V.str).length + (os.map V.str).length ≤ sizeLine := szl (by rw [List.length_map, List.length_map]; have := hi.2.2; have := ho.2.2; omega)
    refine ⟨_, rfl, t, _, _, _, rfl, rfl, (hX.same s02).sqt, atI_nat (j := 0) rfl, _, rfl, t, _, _, _, rfl, rfl, (hX.same s02).sqt, atI_nat (j := 1) rfl, a, b, _, _, rfl, rfl, hI.same s02, hO.same s02, hz, fun p1 H3 s3 h3 => ?_⟩
    rw [← List.map_append] at h3
    have s03 := s02.trans s3
    have hl16 : (is ++ os).length ≤ 2000 := by rw [List.length_append]; have := hi.2.2; have := ho.2.2; omega
    refine ⟨p1, is ++ os, rfl, h3.sqt, hl16, fun p2 hp2 => ⟨p2, dedS (is ++ os), rfl, upd_same, ?_⟩⟩
    have s04 := s03.trans (same_new (o := SetSO w p2 (dedS (is ++ os))) hp2)
    refine ⟨_, rfl, t, _, _, _, rfl, rfl, (hX.same s04).sqt, atI_nat (j := 0) rfl, _, rfl, t, _, _, _, rfl, rfl, (hX.same s04).sqt, atI_nat (j := 1) rfl, a, b, _, _, rfl, rfl, hI.same s04, hO.same s04, hz, fun p3 H5 s5 h5 => ?_⟩
    have s05 := s04.trans s5
    refine ⟨p3, _, rfl, .inr h5.sqt, rfl, _, rfl, ?_⟩
    have hle := ded_eq (is ++ os)
    by_cases hnd : (is ++ os).Nodup
    case neg =>
      have hne : decide (V.int ((dedS (is ++ os)).length : Nat) = V.int ((is.map V.str ++ os.map V.str).length : Nat)) = false := decide_eq_false fun e => by
        injection e with e
        refine hnd (hle.mp ?_)
        rw [List.length_append] at e ⊢
        rw [List.length_map, List.length_map] at e
        omega
      rw [hne]
      exact iteT (no (by rw [eI, decide_eq_false hnd]; rfl) _ s05)
    have heq : decide (V.int ((dedS (is ++ os)).length : Nat) = V.int ((is.map V.str ++ os.map V.str).length : Nat)) = true := decide_eq_true (by rw [hle.mpr hnd, List.length_append, List.length_append, List.length_map, List.length_map])
    rw [heq]
    refine iteF ?_
    walk_at "nx"
    rw [decide_eq_true hnd, Bool.true_and] at eI
    have eP : ifcB (.tuple [da, db, .tuple ds]) = (ds.all (fnB is os) && (ds.flatMap fnOuts).isPerm os && decide ((ds.map fun f => ((firstOf os f : Nat) : Int)).Pairwise (· ≤ ·))) := eI
    refine ⟨szl (Nat.zero_le _), fun c0 hc0 => ?_⟩
    dsimp only [gName]
    refine ⟨szl (Nat.zero_le _), fun F0 hF0 => ?_⟩
    dsimp only [gName]
    have s56 := same_new (o := .lst []) hc0
    have hcF0 : upd (upd H5 c0 (.lst [])) F0 (.lst []) c0 = some (.lst []) := same_new hF0 _ _ upd_same
    have ncF : c0 ≠ F0 := ne_of_none (o := .lst []) upd_same hF0
    have s67 := same_new (o := .lst []) hF0
    have hFF : upd (upd H5 c0 (.lst [])) F0 (.lst []) F0 = some (.lst []) := upd_same
    revert s67 hcF0 hFF
    generalize upd (upd H5 c0 (.lst [])) F0 (.lst []) = H7
    revert hF0 s56
    generalize upd H5 c0 (.lst []) = H6
    intro hF0 s56 hcF0 s67 hFF
    have s06 := s05.trans s56
    refine ⟨_, rfl, t, _, _, _, rfl, rfl, (hX.same (s06.trans s67)).sqt, atI_nat (j := 2) rfl, tc, rfl, ⟨_, (hC.same (s06.trans s67)).sqt⟩, for_tup (xs := cs) (fun j σ H' => Same H6 H' ∧ (∃ c, c ≠ F0 ∧ H' c = some (.lst (((ds.take j).flatMap fnOuts).map V.str)) ∧ H' F0 = some (.lst (((ds.take j).map fun f => ((firstOf os f : Nat) : Int)).map V.int)) ∧ (∀ f ∈ ds.take j, fnB is os f = true) ∧ ∃ x3 x4 x5 x6 : Option V, σ = [some (.ref t), some (.ref c), some (.ref F0), x3, x4, x5, x6])) ⟨s67, c0, ncF, by rw [List.take_zero]; exact hcF0, by rw [List.take_zero]; exact hFF, fun f hf => (by rw [List.take_zero] at hf; cases hf), _, _, _, _, rfl⟩ (fun j σ H' _ h => (hC.same (s06.trans h.1)).sqt) ?_ ?_⟩
    · rintro j x σ H8 hx ⟨s8, c, ncF, hcc, hFc, hal, x3, x4, x5, x6, rfl⟩
      obtain ⟨d, hd1, hd2⟩ := hCA.get hx
      have hdm := List.mem_of_getElem? hd1
      have hj := (List.getElem?_eq_some_iff.mp hx).1
      have s08 := s06.trans s8
      have hd2 := hd2.same s08
      dsimp only [gName]
      have bad : fnB is os d = false → ∀ H', Same H8 H' → Q (.bl false) H' := fun h H' s => no (by
        rw [eP]
        have : ds.all (fnB is os) = false := List.all_eq_false.mpr ⟨d, hdm, by rw [h]; simp⟩
        rw [this]
        rfl) H' (s08.trans s)
      have hnt : pairB d = false → fnB is os d = false := fun h => by
        cases hf : fnB is os d with
        | false => rfl
        | true => rw [fn_pair hf] at h; cases h
      cases hT3 : isT d with
      | false =>
        refine ⟨_, rfl, x, .ty "tuple", tyD d, .type "tuple", isT d, rfl, .ty _, hd2.ty, kit_isT d, _, rfl, ?_⟩
        rw [hT3]
        exact iteT (iteT (bad (hnt (by cases d <;> first | rfl | cases hT3)) _ (Same.refl H8)))
      | true =>
      obtain ⟨q, ys, es, rfl, rfl, hY, hB⟩ := hd2.isT hT3
      have e1 := hB.len
      refine ⟨_, rfl, .ref q, .ty "tuple", .type "tuple", .type "tuple", true, rfl, .ty _, hY.ty, kit_tup, _, rfl, iteF ?_⟩
      refine ⟨_, rfl, q, _, rfl, .inr hY.sqt, rfl, _, rfl, ?_⟩
      cases hpr : pairB (.tuple es) with
      | false =>
        have hne : decide (V.int (ys.length : Nat) = V.int 2) = false := decide_eq_false fun z => by
          injection z with z
          match es, hpr, e1 with
          | [], _, e1 => rw [e1] at z; cases z
          | [_], _, e1 => rw [e1] at z; cases z
          | [_, _], hpr, _ => cases hpr
          | _ :: _ :: _ :: r, _, e1 =>
            rw [e1] at z
            simp only [List.length_cons] at z
            omega
        rw [hne]
        exact iteT (bad (hnt hpr) _ (Same.refl H8))
      | true =>
      obtain ⟨q', va2, vc2, a2, c2, hqq, hes, hY2, hva, hvc⟩ := pair_of hd2 hpr
      cases hqq
      injection hes with hes
      subst hes
      have hys : ys = [va2, vc2] := by
        obtain ⟨o1, g1, _⟩ := hY
        obtain ⟨o2, g2, _⟩ := hY2
        rw [g1] at g2
        cases g2
        rfl
      subst hys
      obtain ⟨_, hac⟩ := (hcds _ hdm).tup
      have eF : fnB is os (.tuple [a2, c2]) = (partB a2 os && decide (portN a2 ≠ []) && partB c2 is) := rfl
      refine iteF ?_
      walk_at "nx"
      refine ⟨_, rfl, q, _, rfl, hY.sqt, rfl, _, _, rfl, _, _, rfl, rfl, ?_⟩
      dsimp only
      refine ⟨_, rfl, p, bb, va2, a2, rfl, hva, hac a2 List.mem_cons_self, fun H9 s9 => ⟨_, rfl, ?_⟩⟩
      cases hpa2 : portsB a2 with
      | false => exact iteT (iteT (bad (by rw [eF]; unfold partB; rw [hpa2]; rfl) _ s9))
      | true =>
      refine iteF ?_
      refine ⟨_, rfl, p, bb, vc2, c2, rfl, hvc.same s9, hac c2 (List.mem_cons_of_mem _ List.mem_cons_self), fun H10 s10 => ⟨_, rfl, ?_⟩⟩
      have s810 := s9.trans s10
      cases hpc2 : portsB c2 with
      | false => exact iteT (iteT (bad (by rw [eF]; unfold partB; rw [hpc2, Bool.false_and, Bool.and_false]) _ s810))
      | true =>
      refine iteF ?_
      obtain ⟨ta, rfl, hKa, hoa⟩ := hva.ports hpa2
      obtain ⟨tb, rfl, hKb, hob⟩ := hvc.ports hpc2
      have ePa : partB a2 os = decide (portN a2 = os.filter fun x => decide (x ∈ portN a2)) := by unfold partB; rw [hpa2, Bool.true_and]
      have ePc : partB c2 is = decide (portN c2 = is.filter fun x => decide (x ∈ portN c2)) := by unfold partB; rw [hpc2, Bool.true_and]
      rw [ePa, ePc] at eF
      have eO : fnOuts (.tuple [a2, c2]) = portN a2 := rfl
      revert bad hKa hoa hKb hob eF eO
      generalize PyData.tuple [a2, c2] = g at hd1 hdm
      generalize portN a2 = as
      generalize portN c2 = ns
      intro bad eF hKa hoa hKb hob eO
      -- outputs == ()
      refine ⟨_, rfl, szl (Nat.zero_le _), fun e H11 s11 he => ?_⟩
      have s811 := s810.trans s11
      refine ⟨.tuple (as.map .str), .tuple [], dp_strs (hKa.same s811).sqt, .tup he.sqt .nil, shp_tx fun x hx => okS_name (hoa.1 x hx), rfl, _, rfl, ?_⟩
      have hne : PyData.eqv (.tuple (as.map .str)) (.tuple []) = !decide (as ≠ []) := by
        cases as with
        | nil => rfl
        | cons x r => rfl
      rw [hne]
      by_cases hn : as ≠ []
      case neg =>
        rw [decide_eq_false hn]
        exact iteT (bad (by rw [eF, decide_eq_false hn, Bool.and_false, Bool.false_and]) _ s811)
      rw [decide_eq_true hn]
      refine iteF ?_
      walk_at "nx"
      have s011 := s08.trans s811
      -- the outputs in order
      refine ⟨_, rfl, t, _, _, _, rfl, rfl, (hX.same s011).sqt, atI_nat (j := 1) rfl, b, rfl, ⟨_, (hO.same s011).sqt⟩, fun D hD => lc_tup (K := K) (a := b) (xs := os.map V.str) (fun i H' => Same H11 H' ∧ H' D = some (.lst (((os.take i).filter fun x => decide (x ∈ as)).map V.str))) ⟨same_new hD, upd_same⟩ (fun i H' _ h => (hO.same (s011.trans h.1)).sqt) ?_ ?_⟩
      · rintro i x H12 hx' ⟨s12, h12⟩
        obtain ⟨hi', e⟩ := List.getElem?_eq_some_iff.mp hx'
        rw [List.length_map] at hi'
        rw [List.getElem_map] at e
        subst e
        refine ⟨rfl, ?_⟩
        refine ⟨_, rfl, _, rfl, ta, as.map V.str, rfl, .inr (hKa.same (s811.trans s12)).sqt, rfl, Ly.flat_strs as, _, rfl, ?_⟩
        show if (if false = true then !inV (V.str os[i]) (as.map V.str) else inV (V.str os[i]) (as.map V.str)) = true then _ else _
        rw [inV_mem]
        have et : ((os.take (i + 1)).filter fun x => decide (x ∈ as)) = ((os.take i).filter fun x => decide (x ∈ as)) ++ [os[i]].filter fun x => decide (x ∈ as) := by
          rw [List.take_add_one, List.getElem?_eq_getElem hi', List.filter_append]
          rfl
        have hle : ((os.take i).filter fun x => decide (x ∈ as)).length ≤ 8 := by
          have h1 := List.length_filter_le (fun x => decide (x ∈ as)) (os.take i)
          rw [List.length_take] at h1
          have := ho.2.2
          omega
        by_cases hm : os[i] ∈ as
        · rw [decide_eq_true hm]
          refine iteT ⟨_, rfl, _, h12, szt (by rw [List.length_map]; omega), same_mut s12 hD, ?_⟩
          rw [upd_same, et, List.filter_cons_of_pos (by rw [decide_eq_true hm]), List.map_append]
          rfl
        · rw [decide_eq_false hm]
          refine iteF ⟨s12, ?_⟩
          rw [h12, et, List.filter_cons_of_neg (by rw [decide_eq_false hm]; simp), List.filter_nil, List.append_nil]
      rintro H12 ⟨s12, h12⟩
      rw [List.length_map, List.take_length] at h12
      have s812 := s811.trans s12
      refine ⟨_, rfl, ta, _, rfl, .inr (hKa.same s812).sqt, fun l hl => ?_⟩
      have hfs1 := shp_strs (l := os.filter fun x => decide (x ∈ as)) fun x hx' => okS_name (ho.1 x (List.mem_filter.mp hx').1)
      have has1 := shp_strs (l := as) fun x hx' => okS_name (hoa.1 x hx')
      refine ⟨.list ((os.filter fun x => decide (x ∈ as)).map .str), .list (as.map .str), .lst (SqL.of (same_new hl _ _ h12)) (dps_strs _), .lst (SqL.of upd_same) (dps_strs _), hfs1, has1, _, rfl, ?_⟩
      have s813 := s812.trans (same_new (o := .lst (as.map V.str)) hl)
      rw [fil_eqv]
      cases hq1 : decide (as = os.filter fun x => decide (x ∈ as)) with
      | false => exact iteT (bad (by rw [eF, hq1]; rfl) _ s813)
      | true =>
      refine iteF ?_
      walk_at "nx"
      revert s813
      generalize upd H12 l (.lst (as.map V.str)) = H13
      intro s813
      have s013 := s08.trans s813
      -- the needs in order
      refine ⟨_, rfl, t, _, _, _, rfl, rfl, (hX.same s013).sqt, atI_nat (j := 0) rfl, a, rfl, ⟨_, (hI.same s013).sqt⟩, fun D hD => lc_tup (K := K) (a := a) (xs := is.map V.str) (fun i H' => Same H13 H' ∧ H' D = some (.lst (((is.take i).filter fun x => decide (x ∈ ns)).map V.str))) ⟨same_new hD, upd_same⟩ (fun i H' _ h => (hI.same (s013.trans h.1)).sqt) ?_ ?_⟩
      · rintro i x H14 hx' ⟨s14, h14⟩
        obtain ⟨hi', e⟩ := List.getElem?_eq_some_iff.mp hx'
        rw [List.length_map] at hi'
        rw [List.getElem_map] at e
        subst e
        refine ⟨rfl, ?_⟩
        refine ⟨_, rfl, _, rfl, tb, ns.map V.str, rfl, .inr (hKb.same (s813.trans s14)).sqt, rfl, Ly.flat_strs ns, _, rfl, ?_⟩
        show if (if false = true then !inV (V.str is[i]) (ns.map V.str) else inV (V.str is[i]) (ns.map V.str)) = true then _ else _
        rw [inV_mem]
        have et : ((is.take (i + 1)).filter fun x => decide (x ∈ ns)) = ((is.take i).filter fun x => decide (x ∈ ns)) ++ [is[i]].filter fun x => decide (x ∈ ns) := by
          rw [List.take_add_one, List.getElem?_eq_getElem hi', List.filter_append]
          rfl
        have hle : ((is.take i).filter fun x => decide (x ∈ ns)).length ≤ 8 := by
          have h1 := List.length_filter_le (fun x => decide (x ∈ ns)) (is.take i)
          rw [List.length_take] at h1
          have := hi.2.2
          omega
        by_cases hm : is[i] ∈ ns
        · rw [decide_eq_true hm]
          refine iteT ⟨_, rfl, _, h14, szt (by rw [List.length_map]; omega), same_mut s14 hD, ?_⟩
          rw [upd_same, et, List.filter_cons_of_pos (by rw [decide_eq_true hm]), List.map_append]
          rfl
        · rw [decide_eq_false hm]
          refine iteF ⟨s14, ?_⟩
          rw [h14, et, List.filter_cons_of_neg (by rw [decide_eq_false hm]; simp), List.filter_nil, List.append_nil]
      rintro H14 ⟨s14, h14⟩
      rw [List.length_map, List.take_length] at h14
      have s814 := s813.trans s14
      refine ⟨_, rfl, tb, _, rfl, .inr (hKb.same s814).sqt, fun l2 hl2 => ?_⟩
      have hfs2 := shp_strs (l := is.filter fun x => decide (x ∈ ns)) fun x hx' => okS_name (hi.1 x (List.mem_filter.mp hx').1)
      have has2 := shp_strs (l := ns) fun x hx' => okS_name (hob.1 x hx')
      refine ⟨.list ((is.filter fun x => decide (x ∈ ns)).map .str), .list (ns.map .str), .lst (SqL.of (same_new hl2 _ _ h14)) (dps_strs _), .lst (SqL.of upd_same) (dps_strs _), hfs2, has2, _, rfl, ?_⟩
      have s815 := s814.trans (same_new (o := .lst (ns.map V.str)) hl2)
      rw [fil_eqv]
      cases hq2 : decide (ns = is.filter fun x => decide (x ∈ ns)) with
      | false => exact iteT (bad (by rw [eF, hq2, Bool.and_false]) _ s815)
      | true =>
      refine iteF ?_
      walk_at "nx"
      revert s815
      generalize upd H14 l2 (.lst (ns.map V.str)) = H15
      intro s815
      have s015 := s08.trans s815
      have hgood : fnB is os g = true := by rw [eF, hq1, hq2, decide_eq_true hn]; rfl
      have h8 : ∀ f ∈ ds.take (j + 1), (fnOuts f).length ≤ 8 := fun f hf => by
        rw [List.take_add_one, hd1] at hf
        rcases List.mem_append.mp hf with hf | hf
        · exact (fn_outs (hal f hf)).2.2.2
        · have hf : f ∈ [g] := hf
          rw [List.mem_singleton.mp hf]
          exact (fn_outs hgood).2.2.2
      have hb8 := flat_part8 h8
      rw [List.length_take] at hb8
      have et : ds.take (j + 1) = ds.take j ++ [g] := by rw [List.take_add_one, hd1]; rfl
      have ef : (ds.take (j + 1)).flatMap fnOuts = (ds.take j).flatMap fnOuts ++ as := by rw [et, List.flatMap_append, List.flatMap_cons, List.flatMap_nil, List.append_nil, eO]
      -- computed
      refine ⟨_, rfl, _, rfl, ta, _, rfl, .inr (hKa.same s815).sqt, fun l3 hl3 => ?_⟩
      have t3 := same_new (o := .lst (as.map V.str)) hl3
      refine ⟨c, l3, _, _, rfl, rfl, t3 _ _ (s815 _ _ hcc), upd_same, szl (by rw [← List.length_append, ← List.map_append, ← ef, List.length_map]; omega), fun c' hc' => ?_⟩
      dsimp only [gName]
      have s816 := s815.trans (t3.trans (same_new (o := .lst (((ds.take j).flatMap fnOuts).map V.str ++ as.map V.str)) hc'))
      have hcn : upd (upd H15 l3 (.lst (as.map V.str))) c' (.lst (((ds.take j).flatMap fnOuts).map V.str ++ as.map V.str)) c' = some (.lst (((ds.take (j + 1)).flatMap fnOuts).map V.str)) := by rw [upd_same, ef, List.map_append]
      have ncF' : c' ≠ F0 := (ne_of_none (t3 _ _ (s815 _ _ hFc)) hc').symm
      revert s816 hcn
      generalize upd (upd H15 l3 (.lst (as.map V.str))) c' (.lst (((ds.take j).flatMap fnOuts).map V.str ++ as.map V.str)) = H16
      intro s816 hcn
      have s016 := s08.trans s816
      have hF16 := s816 _ _ hFc
      obtain ⟨y, r, hyr⟩ : ∃ y r, as = y :: r := by
        cases as with
        | nil => exact absurd rfl hn
        | cons y r => exact ⟨y, r, rfl⟩
      have hyo : y ∈ os := by
        have := (fn_outs hgood).2.2.1 y (by rw [eO, hyr]; exact List.mem_cons_self)
        exact this
      have hfa : firstOf os g = os.idxOf y := by unfold firstOf; rw [eO, hyr]; rfl
      have hlt : os.idxOf y < os.length := List.idxOf_lt_length_iff.mpr hyo
      have hat : os[os.idxOf y]? = some y := by rw [List.getElem?_eq_getElem hlt, List.getElem_idxOf]
      refine ⟨_, rfl, .inl ⟨rfl, _, SqL.of hF16⟩, _, rfl, t, _, _, _, rfl, rfl, (hX.same s016).sqt, atI_nat (j := 1) rfl, ⟨b, _, rfl, hO.same s016⟩, _, rfl, ta, _, _, _, rfl, rfl, (hKa.same s816).sqt, atI_nat (j := 0) (by rw [hyr]; rfl), b, os, y, os.idxOf y, rfl, rfl, (hO.same s016).sqt, hat, fun m hm => idx_first m hm, F0, _, _, rfl, rfl, hF16, szt (by rw [List.length_map, List.length_map, List.length_take]; omega), ?_⟩
      refine ⟨same_mut (s8.trans s816) hF0, c', ncF', by rw [upd_ne ncF']; exact hcn, ?_, fun f hf => ?_, _, _, _, _, rfl⟩
      · rw [upd_same, et, List.map_append, List.map_append]
        show _ = some (HO.lst (_ ++ [V.int ((firstOf os g : Nat) : Int)]))
        rw [hfa]
      · rw [et] at hf
        rcases List.mem_append.mp hf with hf | hf
        · exact hal f hf
        · rw [List.mem_singleton.mp hf]
          exact hgood
    · rintro σ H8 ⟨s8, c, ncF, hcc, hFc, hal, x3, x4, x5, x6, rfl⟩
      rw [hclen, List.take_length] at hcc hFc hal
      have s08 := s06.trans s8
      have hfn : ds.all (fnB is os) = true := List.all_eq_true.mpr hal
      rw [hfn, Bool.true_and] at eP
      refine ⟨_, rfl, c, _, rfl, SqL.of hcc, fun ys p1 hy1 hy2 hp1 => ?_⟩
      have s9 := s08.trans (same_new (o := .lst (ys.map V.str)) hp1)
      refine ⟨_, rfl, t, _, _, _, rfl, rfl, (hX.same s9).sqt, atI_nat (j := 1) rfl, b, os, rfl, (hO.same s9).sqt, fun zs p2 hz1 hz2 hp2 => ?_⟩
      have s10 := s9.trans (same_new (o := .lst (zs.map V.str)) hp2)
      have hnm : ∀ x ∈ ds.flatMap fnOuts, nameOk x = true := fun x hx => by
        obtain ⟨g, h1, h2⟩ := List.mem_flatMap.mp hx
        exact ho.1 x ((fn_outs (hal g h1)).2.2.1 x h2)
      have hsh := shp_strs (l := zs) fun x hx => okS_name (ho.1 x (hz1.mem_iff.mp hx))
      have hsy := shp_strs (l := ys) fun x hx => okS_name (hnm x (hy1.mem_iff.mp hx))
      have hp1' : upd (upd H8 p1 (.lst (ys.map V.str))) p2 (.lst (zs.map V.str)) p1 = some (.lst (ys.map V.str)) := same_new hp2 _ _ upd_same
      refine ⟨.list (ys.map .str), .list (zs.map .str), .lst (SqL.of hp1') (dps_strs ys), .lst (SqL.of upd_same) (dps_strs zs), hsy, hsh, ?_⟩
      have ee : PyData.eqv (.list (ys.map .str)) (.list (zs.map .str)) = (ds.flatMap fnOuts).isPerm os := by
        show PyData.eqvAll _ _ = _
        rw [eqv_str2]
        exact sort_perm hy1 hy2 hz1 hz2
      rw [ee]
      have hF10 : upd (upd H8 p1 (.lst (ys.map V.str))) p2 (.lst (zs.map V.str)) F0 = some (.lst ((ds.map fun f => ((firstOf os f : Nat) : Int)).map V.int)) := same_new hp2 _ _ (same_new hp1 _ _ hFc)
      revert s10 hF10
      generalize upd (upd H8 p1 (.lst (ys.map V.str))) p2 (.lst (zs.map V.str)) = H10
      intro s10 hF10
      refine ⟨_, rfl, ?_⟩
      cases hpm : (ds.flatMap fnOuts).isPerm os with
      | false => exact iteF (no (by rw [eP, hpm]; rfl) _ s10)
      | true =>
      rw [hpm, Bool.true_and] at eP
      refine iteT ?_
      refine ⟨_, rfl, _, rfl, F0, _, rfl, SqL.of hF10, fun ms p3 hn1 hn2 hp3 => ?_⟩
      have hd' : upd H10 p3 (.lst (ms.map V.int)) F0 = some (.lst ((ds.map fun f => ((firstOf os f : Nat) : Int)).map V.int)) := by
        rw [upd_ne (ne_of_none hF10 hp3)]
        exact hF10
      refine ⟨.list ((ds.map fun f => ((firstOf os f : Nat) : Int)).map .int), .list (ms.map .int), .lst (SqL.of hd') (dps_nums _), .lst (SqL.of upd_same) (dps_nums ms), shp_nums _, shp_nums ms, ?_⟩
      have ee2 : PyData.eqv (.list ((ds.map fun f => ((firstOf os f : Nat) : Int)).map .int)) (.list (ms.map .int)) = ifcB (.tuple [da, db, .tuple ds]) := by
        show PyData.eqvAll _ _ = _
        rw [eqv_int2, sort_self hn1 hn2, eP]
      rw [ee2]
      exact k _ (s10.trans (same_new hp3))

end
end K22

set_option maxRecDepth 100000
set_option maxHeartbeats 4000000
namespace K22
open PySem L2 Ly Od
local macro_rules | `(tactic| walk_at "nx") => `(tactic| dsimp only [tNext])
section
variable {P : Program} {w : World} {K : PySem.W.Frag} {mg : Str → Option Value} {base : Heap} {ad : Adr}
def spFeedS (K : PySem.W.Frag) : Sp := fun vs H Q _ => ∃ (s : Addr) (ns : List Int) (k : Nat), vs = [.ref s, .int k] ∧ SqL K H s (ns.map V.int) ∧ k ≤ 1000 ∧ ∀ p a b H', Same H H' → H p = none → FeedAt H' p a b → Q (.ref p) H'
theorem sc_law_feed : FnScope ["script", "k", "seed", "digits"] ["script", "k"] (defScope s_law_feed) := ⟨rfl, rfl, rfl, by decide +kernel, rfl, by decide +kernel, by decide +kernel⟩
theorem ok_feed {f : Addr} {fd : FuncData} (F : Fun K "_law_feed" "_law_feed" s_law_feed f fd) (T : Txt K w mg ad) : FnOk P w K mg base CX0 1 f fd ["script", "k"] (spFeedS K) := by
  refine F.ok sc_law_feed (fun vs H Q E h => ?_) (fun cdv A outer s H vs Q E hr h => ?_)
  · obtain ⟨s, ns, k, rfl, _⟩ := h
    rfl
  · obtain ⟨sa, ns, k, rfl, hS, hk, q⟩ := h
    refine ⟨_, (pss_cons (ps_set (i := 2) sc_law_feed.nd rfl (Or.inl rfl) (pe_ix (ix_listK K) (pe_op op_cat (pe_callTy call_list_of (by rfl) T.n_list (by decide +kernel) (pa_cons (pe_slice (sl_listK K) (pv 0) (po_some (pv 1)) (po_some (pe_op op_add (pv 1) pe_int))) pa_nil)) (pe_lst (pa_cons (pe_op op_add (pe_op op_mul pe_int (pv 1)) pe_int) pa_nil))) pe_int (fun _ _ => rfl)))
    (pss_cons (ps_set (i := 3) sc_law_feed.nd rfl (Or.inl rfl) (pe_callB (call_max2 rfl) (by rfl) T.n_max (by decide +kernel) (pa_cons pe_int (pa_cons (pe_op op_sub (pe_callB call_abs (by rfl) T.n_abs (by decide +kernel) (pa_cons (pv 2) pa_nil)) (pe_op op_pow pe_int pe_int)) pa_nil))))
    (pss_one (ps_ret (pe_lst (pa_cons (pv 3) (pa_cons (pe_op op_mod (pe_op op_add (pe_op op_add (pe_op op_mul (pe_op op_mod (pe_callB call_abs (by rfl) T.n_abs (by decide +kernel) (pa_cons (pv 2) pa_nil)) pe_int) pe_int) (pe_op op_mul pe_int (pv 1))) pe_int) pe_int) pa_nil))))))), ?_⟩
    refine asg (fun v H1 => Same H H1 ∧ ∃ c : Int, v = .int c) (fun Q' h' => ?_) ?_
    · refine ⟨_, rfl, _, rfl, _, rfl, _, rfl, _, _, rfl, rfl, _, rfl, sa, _, rfl, hS, fun l hl => ?_⟩
      have t1 := same_new (o := .lst (cutV (ns.map V.int) (some (k : Nat)) (some ((k : Nat) + 1)))) hl
      refine ⟨l, _, rfl, .inl (SqL.of upd_same), fun l2 hl2 => ?_⟩
      have t2 := t1.trans (same_new (o := .lst (cutV (ns.map V.int) (some (k : Nat)) (some ((k : Nat) + 1)))) hl2)
      refine ⟨_, rfl, _, _, rfl, rfl, .inl (by omega), _, _, rfl, rfl, szl (show 1 ≤ 100000 by decide), fun l3 hl3 => ?_⟩
      have t3 := t2.trans (same_new (o := .lst [V.int (71 * (k : Nat) + 23)]) hl3)
      have hcut : ∃ cs : List Int, cutV (ns.map V.int) (some (k : Nat)) (some ((k : Nat) + 1)) = cs.map V.int ∧ cs.length ≤ 1 := by
        unfold cutV
        refine ⟨(ns.drop (HT.sIx (ns.map V.int).length 0 (some (k : Nat)))).take (HT.sIx (ns.map V.int).length (ns.map V.int).length (some ((k : Nat) + 1)) - HT.sIx (ns.map V.int).length 0 (some (k : Nat))), by rw [List.map_take, List.map_drop], ?_⟩
        have e : ((k : Nat) : Int) + 1 = ((k + 1 : Nat) : Int) := by omega
        rw [e, HT.sIx_nat, HT.sIx_nat, List.length_take]
        omega
      obtain ⟨cs, ecs, hcs⟩ := hcut
      rw [ecs] at hl2 hl3 t3 ⊢
      refine ⟨l2, l3, _, _, rfl, rfl, same_new hl3 _ _ upd_same, upd_same, szl (by rw [List.length_map, List.length_singleton]; omega), fun l4 hl4 => ?_⟩
      obtain ⟨z, r, hz⟩ : ∃ z r, cs.map V.int ++ [V.int (71 * (k : Nat) + 23)] = V.int z :: r := by
        cases cs with
        | nil => exact ⟨_, _, rfl⟩
        | cons c r => exact ⟨c, _, rfl⟩
      refine ⟨l4, _, _, .int z, rfl, rfl, SqL.of upd_same, by rw [hz]; exact atI_nat (j := 0) rfl, h' _ _ ⟨t3.trans (same_new hl4), _, rfl⟩⟩
    rintro _ H1 ⟨s1, c, rfl⟩
    dsimp only [gName]
    refine ⟨_, rfl, _, rfl, _, _, rfl, rfl, ⟨by omega, by omega, by decide⟩, _, _, rfl, rfl, ?_⟩
    refine ⟨_, _, rfl, ?_⟩
    dsimp only [gName]
    refine ⟨_, rfl, _, rfl, _, rfl, _, _, rfl, rfl, (by decide : (0 : Int) < 1000003), _, _, rfl, rfl, .inr (by omega), _, rfl, _, _, rfl, rfl, .inl (by omega), _, _, rfl, rfl, _, _, rfl, rfl, _, _, rfl, rfl, (by decide : (0 : Int) < 1000033), szl (show 2 ≤ 100000 by decide), fun p hp => ?_⟩
    refine q p _ _ _ (s1.trans (same_new hp)) (by cases e : H p with | none => rfl | some u => rw [s1 _ _ e] at hp; cases hp) ⟨upd_same, ?_, ?_, ?_⟩
    · split <;> omega
    · omega
    · omega
theorem sc_law_take : FnScope ["feed", "size", "number"] ["feed", "size"] (defScope s_law_take) := ⟨rfl, rfl, rfl, by decide +kernel, rfl, by decide +kernel, by decide +kernel⟩
theorem ok_take {f : Addr} {fd : FuncData} (F : Fun K "_law_take" "_law_take" s_law_take f fd) : FnOk P w K mg base CX0 1 f fd ["feed", "size"] spTake := by
  refine F.ok sc_law_take (fun vs H Q E h => ?_) (fun cdv A outer s H vs Q E hr h => ?_)
  · obtain ⟨p, many, a, b, rfl, _⟩ := h
    rfl
  · obtain ⟨p, many, a, b, rfl, ⟨hf, ha, hb, hb2⟩, hm, hm2, q⟩ := h
    refine ⟨_, (pss_cons (ps_if (pt_cmpR op_gt (pe_ix (ix_listK K) (pv 0) pe_int (fun _ _ => rfl)) pe_int (nomark _)) (pss_cons (ps_set (i := 2) sc_law_take.nd rfl (Or.inl rfl) (pe_op op_mod (pe_ix (ix_listK K) (pv 0) pe_int (fun _ _ => rfl)) (pv 1)))
    (pss_cons (ps_asg (pe_op op_fdivW (pe_ix (ix_listK K) (pv 0) pe_int (fun _ _ => rfl)) (pv 1)) (pg_sub (pv 0) pe_int set_list))
    (pss_one (ps_ret (pv 2))))) pss_nil)
    (pss_cons (ps_asg (pe_op op_mod (pe_op op_add (pe_op op_mul (pe_ix (ix_listK K) (pv 0) pe_int (fun _ _ => rfl)) pe_int) pe_int) pe_int) (pg_sub (pv 0) pe_int set_list))
    (pss_one (ps_ret (pe_op op_mod (pe_op op_fdivW (pe_ix (ix_listK K) (pv 0) pe_int (fun _ _ => rfl)) pe_int) (pv 1)))))), ?_⟩
    have i0 : atI [V.int a, V.int b] (0 : Int) = some (V.int a) := atI_nat (j := 0) rfl
    have i1 : atI [V.int a, V.int b] (1 : Int) = some (V.int b) := atI_nat (j := 1) rfl
    have hdiv : CDivW a many := wide_div (b := 41) hm (by omega) (by decide) (by decide)
    refine ⟨_, rfl, p, _, _, _, rfl, rfl, SqL.of hf, i0, _, _, rfl, rfl, _, rfl, ite2 (fun hc => ?_) (fun hc => ?_)⟩
    · refine ⟨_, rfl, p, _, _, _, rfl, rfl, SqL.of hf, i0, _, rfl, _, _, rfl, rfl, hm, ?_⟩
      dsimp only [gName]
      refine ⟨_, rfl, p, _, _, _, rfl, rfl, SqL.of hf, i0, _, rfl, _, _, rfl, rfl, hdiv, ?_⟩
      refine ⟨_, rfl, p, _, _, 0, rfl, rfl, hf, rfl, ?_⟩
      refine ⟨_, rfl, q _ _ _ (Int.emod_nonneg _ (by omega)) (Int.emod_lt_of_pos _ hm) ⟨upd_same, Int.ediv_nonneg ha (by omega), hb, hb2⟩⟩
    · refine ⟨_, rfl, p, _, _, _, rfl, rfl, SqL.of hf, i1, _, _, rfl, rfl, .inr (by omega), _, _, rfl, rfl, _, _, rfl, rfl, (by decide : (0 : Int) < 4294967311), ?_⟩
      refine ⟨_, rfl, p, _, _, 1, rfl, rfl, hf, rfl, ?_⟩
      refine ⟨_, rfl, p, _, _, _, rfl, rfl, SqL.of upd_same, atI_nat (j := 1) rfl, _, _, rfl, rfl, ⟨by decide, by decide⟩, _, rfl, _, _, rfl, rfl, hm, ?_⟩
      refine q _ _ _ (Int.emod_nonneg _ (by omega)) (Int.emod_lt_of_pos _ hm) ⟨upd_same, ha, ?_, ?_⟩ <;> omega
theorem sc_law_pick : FnScope ["feed", "choices"] ["feed", "choices"] (defScope s_law_pick) := ⟨rfl, rfl, rfl, by decide +kernel, rfl, by decide +kernel, by decide +kernel⟩
theorem ok_pick {f : Addr} {fd fdt : FuncData} (F : Fun K "_law_pick" "_law_pick" s_law_pick f fd) (T : Txt K w mg ad) (G_law_take : FnOk P w K mg base CX0 1 ad.f_law_take fdt ["feed", "size"] spTake) (b_law_take : Binds K fdt ["feed", "size"] []) : FnOk P w K mg base CX0 2 f fd ["feed", "choices"] (spPick K) := by
  refine F.ok sc_law_pick (fun vs H Q E h => ?_) (fun cdv A outer s H vs Q E hr h => ?_)
  · obtain ⟨p, q, xs, a, b, rfl, _⟩ := h
    rfl
  · obtain ⟨p, q, xs, a, b, rfl, hf, hS, ne, h0, h1, k⟩ := h
    refine ⟨_, (pss_one (ps_ret (pe_ix (ix_listK K) (pv 1) (pe_call G_law_take (hr.mono (by decide)) rfl T.g__law_take T.k__law_take b_law_take .nil pass0 (pa_cons (pv 0) (pa_cons (pe_callB (call_lenK K) (by rfl) T.n_len (by decide +kernel) (pa_cons (pv 1) pa_nil)) pa_nil))) (fun _ _ => rfl)))), ?_⟩
    refine ⟨_, rfl, _, rfl, _, rfl, q, xs, rfl, .inl hS, p, _, a, b, rfl, hf, by omega, by omega, fun d a' b' hd0 hd1 hf' => ?_⟩
    have hlt : d.toNat < xs.length := by omega
    have e : d = ((d.toNat : Nat) : Int) := by omega
    exact ⟨q, xs, _, xs[d.toNat], rfl, rfl, sql_upd hS ne, at_of e (List.getElem?_eq_getElem hlt), k _ a' b' (List.getElem_mem hlt) hf'⟩

end
end K22

set_option maxRecDepth 100000
set_option maxHeartbeats 4000000
namespace K22
open PySem L2 Ly Od
local macro_rules | `(tactic| walk_at "nx") => `(tactic| dsimp only [tNext])
section
variable {P : Program} {w : World} {K : PySem.W.Frag} {mg : Str → Option Value} {base : Heap} {ad : Adr}
def FnK (H : Hp) (f : Fnc) (v : V) : Prop := ∃ t a b, v = .ref t ∧ KnT H t [.ref a, .ref b] ∧ KnT H a (f.1.map V.str) ∧ KnT H b (f.2.map V.str)
theorem FnK.sx {H H' : Hp} {f : Fnc} {v : V} {q : Addr} {bs : List V} (h : FnK H f v) (s : SameX q H H') (hq : H q = some (.lst bs)) : FnK H' f v := let ⟨t, a, b, e, h1, h2, h3⟩ := h; ⟨t, a, b, e, knt_sx h1 s hq, knt_sx h2 s hq, knt_sx h3 s hq⟩
theorem FnK.same {H H' : Hp} {f : Fnc} {v : V} (h : FnK H f v) (s : Same H H') : FnK H' f v := let ⟨t, a, b, e, h1, h2, h3⟩ := h; ⟨t, a, b, e, h1.same s, h2.same s, h3.same s⟩
theorem FnK.both {H : Hp} {f : Fnc} {v : V} (h : FnK H f v) (k1 : ∀ x ∈ f.1, OkT 9 x) (k2 : ∀ x ∈ f.2, OkT 9 x) : Both H v (dFn f) := by
  obtain ⟨t, a, b, rfl, h1, h2, h3⟩ := h
  exact both_tup h1 (both_cons (both_tx h2 k1) (both_cons (both_tx h3 k2) both_nil))
theorem fns_both {H : Hp} : ∀ {prs : List Fnc} {fs : List V}, Paired (FnK H) prs fs → (∀ f ∈ prs, (∀ x ∈ f.1, OkT 9 x) ∧ ∀ x ∈ f.2, OkT 9 x) → BothAll H fs (prs.map dFn)
  | _, _, .nil, _ => both_nil
  | _, _, .cons h t, k => both_cons (h.both (k _ List.mem_cons_self).1 (k _ List.mem_cons_self).2) (fns_both t fun f hf => k f (List.mem_cons_of_mem _ hf))
theorem cut_sub (ns : List Str) (lo hi : Option Int) : ∃ cs : List Str, cutV (ns.map V.str) lo hi = cs.map V.str ∧ cs.Sublist ns := by
  unfold cutV
  refine ⟨(ns.drop (HT.sIx (ns.map V.str).length 0 lo)).take (HT.sIx (ns.map V.str).length (ns.map V.str).length hi - HT.sIx (ns.map V.str).length 0 lo), by rw [List.map_take, List.map_drop], (List.take_sublist _ _).trans (List.drop_sublist _ _)⟩
def N1 : List Str := ["i", "j", "k", "l", "p", "q", "r"]
def N2 : List Str := ["a", "in", "out", "w", "x", "y", "z"]
theorem n_ok {ns : List Str} (h : ns = N1 ∨ ns = N2) : ns.length ≤ 8 ∧ ∀ x ∈ ns, OkT 9 x := by
  have key : ∀ l : List Str, (decide (l.length ≤ 8) && l.all fun x => decide (x.length ≤ 9) && x.cps.toList.all fun c => decide (c < 1114112)) = true → l.length ≤ 8 ∧ ∀ x ∈ l, OkT 9 x := fun l h => by
    rw [Bool.and_eq_true] at h
    refine ⟨of_decide_eq_true h.1, fun x hx => ?_⟩
    have := List.all_eq_true.mp h.2 x hx
    rw [Bool.and_eq_true] at this
    exact ⟨of_decide_eq_true this.1, this.2⟩
  rcases h with rfl | rfl
  · exact key _ (by decide +kernel)
  · exact key _ (by decide +kernel)
theorem flat_mem {o : List Str} {gs : List (List Str)} (h : GInv o gs) {g : List Str} (hg : g ∈ gs) : g.length ≤ o.length ∧ ∀ x ∈ g, x ∈ o := ⟨(h.sub g hg).2.length_le, fun x hx => (h.sub g hg).2.subset hx⟩
theorem sc_law_made_up : FnScope ["feed", "names", "inputs", "outputs", "groups", "output", "at", "profile", "group", "needs", "name"] ["feed"] (defScope s_law_made_up) := ⟨rfl, rfl, rfl, by decide +kernel, rfl, by decide +kernel, by decide +kernel⟩
theorem ok_made {f : Addr} {fd fdt fdp : FuncData} (F : Fun K "_law_made_up" "_law_made_up" s_law_made_up f fd) (T : Txt K w mg ad) (G_law_take : FnOk P w K mg base CX0 1 ad.f_law_take fdt ["feed", "size"] spTake) (b_law_take : Binds K fdt ["feed", "size"] [])
    (G_law_pick : FnOk P w K mg base CX0 2 ad.f_law_pick fdp ["feed", "choices"] (spPick K)) (b_law_pick : Binds K fdp ["feed", "choices"] []) : FnOk P w K mg base CX0 3 f fd ["feed"] spMade := by
  refine F.ok sc_law_made_up (fun vs H Q E h => ?_) (fun cdv A outer s H vs Q E hr h => ?_)
  · obtain ⟨p, a, b, rfl, _⟩ := h
    rfl
  · obtain ⟨p, a, b, rfl, hf, k⟩ := h
    refine ⟨_, (pss_cons (ps_set (i := 1) sc_law_made_up.nd rfl (Or.inl rfl) (pe_call G_law_pick (hr.mono (by decide)) rfl T.g__law_pick T.k__law_pick b_law_pick .nil pass0 (pa_cons (pv 0) (pa_cons (pe_lst (pa_cons (pe_lst (pa_cons pe_str (pa_cons pe_str (pa_cons pe_str (pa_cons pe_str (pa_cons pe_str (pa_cons pe_str (pa_cons pe_str pa_nil)))))))) (pa_cons (pe_lst (pa_cons pe_str (pa_cons pe_str (pa_cons pe_str (pa_cons pe_str (pa_cons pe_str (pa_cons pe_str (pa_cons pe_str pa_nil)))))))) pa_nil))) pa_nil))))
    (pss_cons (ps_set (i := 2) sc_law_made_up.nd rfl (Or.inl rfl) (pe_callTy (call_tupleG K rfl) (by rfl) T.n_tuple (by decide +kernel) (pa_cons (pe_slice (sl_listK K) (pv 1) po_none (po_some (pe_call G_law_take (hr.mono (by decide)) rfl T.g__law_take T.k__law_take b_law_take .nil pass0 (pa_cons (pv 0) (pa_cons pe_int pa_nil))))) pa_nil)))
    (pss_cons (ps_set (i := 3) sc_law_made_up.nd rfl (Or.inl rfl) (pe_callTy (call_tupleG K rfl) (by rfl) T.n_tuple (by decide +kernel) (pa_cons (pe_slice (sl_listK K) (pv 1) (po_some pe_int) (po_some (pe_op op_add pe_int (pe_call G_law_take (hr.mono (by decide)) rfl T.g__law_take T.k__law_take b_law_take .nil pass0 (pa_cons (pv 0) (pa_cons pe_int pa_nil)))))) pa_nil)))
    (pss_cons (ps_set (i := 4) sc_law_made_up.nd rfl (Or.inl rfl) (pe_lst pa_nil))
    (pss_cons (ps_for PassesOwn.never rfl (pi_tupK K (pv 3)) (pg_name (i := 5) sc_law_made_up.nd rfl (Or.inl rfl))
    (pss_cons (ps_set (i := 6) sc_law_made_up.nd rfl (Or.inl rfl) (pe_call G_law_take (hr.mono (by decide)) rfl T.g__law_take T.k__law_take b_law_take .nil pass0 (pa_cons (pv 0) (pa_cons (pe_op op_add (pe_callB (call_lenK K) (by rfl) T.n_len (by decide +kernel) (pa_cons (pv 4) pa_nil)) pe_int) pa_nil))))
    (pss_cons (ps_if (pt_cmpR op_eq (pv 6) (pe_callB (call_lenK K) (by rfl) T.n_len (by decide +kernel) (pa_cons (pv 4) pa_nil)) (nomark _)) (pss_one (ps_expr (pe_bm PySem.F.plainAttrs_list PySem.F.slot_list_append PySem.F.type_list_append mt_append (pv 4) (pa_cons (pe_lst pa_nil) pa_nil)))) pss_nil)
    (pss_one (ps_expr (pe_bm PySem.F.plainAttrs_list PySem.F.slot_list_append PySem.F.type_list_append mt_append (pe_ix (ix_listK K) (pv 4) (pv 6) (fun _ _ => rfl)) (pa_cons (pv 5) pa_nil)))))))
    (pss_cons (ps_set (i := 7) sc_law_made_up.nd rfl (Or.inl rfl) (pe_lst pa_nil))
    (pss_cons (ps_for PassesOwn.never rfl (pi_listK K (pv 4)) (pg_name (i := 8) sc_law_made_up.nd rfl (Or.inl rfl))
    (pss_cons (ps_setLc (i := 9) (own := [("name", 10)]) rfl sc_law_made_up.nd rfl rfl (sw_true rfl rfl rfl (by decide +kernel)) (pi_tupK K (pv 2)) (blkOk_by (own := [("name", 10)]) (N := ["feed", "names", "inputs", "outputs", "groups", "output", "at", "profile", "group", "needs", "name"]) (sc := defScope s_law_made_up) (by decide +kernel)) (fun _ _ _ _ _ => (pg_name (i := 10) sc_law_made_up.nd rfl (Or.inl rfl))) (fun _ _ _ _ _ => (pts_one (pt_cmpR op_eq (pe_call G_law_take (hr.mono (by decide)) rfl T.g__law_take T.k__law_take b_law_take .nil pass0 (pa_cons (pv 0) (pa_cons pe_int pa_nil))) pe_int (nomark _)))) (fun _ _ _ _ _ => (pv 10)))
    (pss_one (ps_expr (pe_bm PySem.F.plainAttrs_list PySem.F.slot_list_append PySem.F.type_list_append mt_append (pv 7) (pa_cons (pe_tupF (pa_cons (pe_callTy (call_tupleG K rfl) (by rfl) T.n_tuple (by decide +kernel) (pa_cons (pv 8) pa_nil)) (pa_cons (pe_callTy (call_tupleG K rfl) (by rfl) T.n_tuple (by decide +kernel) (pa_cons (pv 9) pa_nil)) pa_nil))) pa_nil))))))
    (pss_one (ps_ret (pe_tupF (pa_cons (pv 2) (pa_cons (pv 3) (pa_cons (pe_callTy (call_tupleG K rfl) (by rfl) T.n_tuple (by decide +kernel) (pa_cons (pv 7) pa_nil)) pa_nil))))))))))))), ?_⟩
    have hsz := sizeLine_eq
    -- names
    refine asg (fun v H' => ∃ (l : Addr) (ns : List Str), v = .ref l ∧ (ns = N1 ∨ ns = N2) ∧ H' l = some (.lst (ns.map V.str)) ∧ l ≠ p ∧ SameX p H H' ∧ ∃ a b, FeedAt H' p a b) (fun Q' q => ?_) ?_
    · refine ⟨_, rfl, szl (show 7 ≤ 100000 by decide), fun l1 hl1 => ⟨szl (show 7 ≤ 100000 by decide), fun l2 hl2 => ⟨szl (show 2 ≤ 100000 by decide), fun l3 hl3 => ?_⟩⟩⟩
      have t1 := same_new (o := .lst (N1.map V.str)) hl1
      have t2 := same_new (o := .lst (N2.map V.str)) hl2
      have t3 := same_new (o := .lst [V.ref l1, .ref l2]) hl3
      have t13 := (t1.trans t2).trans t3
      have hf3 := feed_same t13 hf
      have n3 : l3 ≠ p := (ne_of_none (feed_same (t1.trans t2) hf).1 hl3).symm
      have n1 : l1 ≠ p := (ne_of_none hf.1 hl1).symm
      have n2 : l2 ≠ p := (ne_of_none (feed_same t1 hf).1 hl2).symm
      have e1 := (t2.trans t3) _ _ (upd_same (H := H) (a := l1) (o := .lst (N1.map V.str)))
      have e2 := t3 _ _ (upd_same (a := l2) (o := .lst (N2.map V.str)))
      refine ⟨p, l3, [V.ref l1, .ref l2], a, b, rfl, hf3, SqL.of upd_same, n3, (show 0 < 2 by decide), (show 2 ≤ 1000 by decide), fun v a1 b1 hv hf1 => ?_⟩
      have s1 := sx_put (p := p) (o := .lst [.int a1, .int b1]) (sx_of t13)
      rcases List.mem_cons.mp hv with rfl | hv
      · exact q _ _ ⟨l1, N1, rfl, .inl rfl, by rw [upd_ne n1]; exact e1, n1, s1, _, _, hf1⟩
      · rw [List.mem_singleton.mp hv]
        exact q _ _ ⟨l2, N2, rfl, .inr rfl, by rw [upd_ne n2]; exact e2, n2, s1, _, _, hf1⟩
    rintro _ H0 ⟨nl, ns, rfl, hns, hnl, nnl, s0, a0, b0, hf0⟩
    dsimp only [gName]
    obtain ⟨hns8, hnsT⟩ := n_ok hns
    -- inputs
    refine asg (fun v H' => ∃ (t : Addr) (i : List Str), v = .ref t ∧ i.Sublist ns ∧ KnT H' t (i.map V.str) ∧ SameX p H0 H' ∧ ∃ a b, FeedAt H' p a b) (fun Q' q => ?_) ?_
    · refine ⟨_, rfl, _, rfl, p, 5, a0, b0, rfl, hf0, by decide, by decide, fun d a1 b1 h0 h1 hf1 => ?_⟩
      have s1 : SameX p H0 (upd H0 p (.lst [.int a1, .int b1])) := sx_put (sx_of (Same.refl H0))
      refine ⟨_, rfl, nl, ns.map V.str, rfl, SqL.of (s1 _ _ nnl hnl), fun l1 hl1 => ?_⟩
      obtain ⟨cs, ecs, hcs⟩ := cut_sub ns none (some d)
      rw [ecs]
      refine .inl ⟨l1, cs.map V.str, rfl, SqL.of upd_same, fun c H' s h => ?_⟩
      exact q _ _ ⟨c, cs, rfl, hcs, h, (sx_new s1 hl1).trans (sx_of s), _, _, feed_same s (feed_new hf1 hl1)⟩
    rintro _ H1 ⟨t1, i, rfl, his, hi, s1, a1, b1, hf1⟩
    dsimp only [gName]
    have hnl1 := s1 _ _ nnl hnl
    -- outputs
    refine asg (fun v H' => ∃ (t : Addr) (o : List Str), v = .ref t ∧ o.Sublist ns ∧ KnT H' t (o.map V.str) ∧ SameX p H1 H' ∧ ∃ a b, FeedAt H' p a b) (fun Q' q => ?_) ?_
    · refine ⟨_, rfl, _, rfl, _, rfl, p, 4, a1, b1, rfl, hf1, by decide, by decide, fun d a2 b2 h0 h1 hf2 => ?_⟩
      have s2 : SameX p H1 (upd H1 p (.lst [.int a2, .int b2])) := sx_put (sx_of (Same.refl H1))
      refine ⟨_, _, rfl, rfl, _, rfl, nl, ns.map V.str, rfl, SqL.of (s2 _ _ nnl hnl1), fun l1 hl1 => ?_⟩
      obtain ⟨cs, ecs, hcs⟩ := cut_sub ns (some 4) (some (4 + d))
      rw [ecs]
      refine .inl ⟨l1, cs.map V.str, rfl, SqL.of upd_same, fun c H' s h => ?_⟩
      exact q _ _ ⟨c, cs, rfl, hcs, h, (sx_new s2 hl1).trans (sx_of s), _, _, feed_same s (feed_new hf2 hl1)⟩
    rintro _ H2 ⟨t2, o, rfl, hos, ho, s2, a2, b2, hf2⟩
    dsimp only [gName]
    have hi2 := knt_sx hi s2 hf1.1
    have hio : True ∧ True ∧ i.length ≤ 8 := ⟨trivial, trivial, Nat.le_trans his.length_le hns8⟩
    have hoo : True ∧ True ∧ o.length ≤ 8 := ⟨trivial, trivial, Nat.le_trans hos.length_le hns8⟩
    have hiT : ∀ x ∈ i, OkT 9 x := fun x hx => hnsT x (his.subset hx)
    have hoT : ∀ x ∈ o, OkT 9 x := fun x hx => hnsT x (hos.subset hx)
    have s02 := (s0.trans s1).trans s2
    refine ⟨szl (Nat.zero_le _), fun gl hgl => ?_⟩
    have hf3 := feed_new (o := .lst []) hf2 hgl
    have s3 : SameX p H2 (upd H2 gl (.lst [])) := sx_new (sx_of (Same.refl H2)) hgl
    have npg : p ≠ gl := ne_of_none hf2.1 hgl
    have g3 : GrpAt H2 (upd H2 gl (.lst [])) p gl [] := grp_nil npg upd_same
    dsimp only [gName]
    revert hf3 s3 g3
    generalize upd H2 gl (.lst []) = H3
    intro hf3 s3 g3
    -- the groups
    refine ⟨_, rfl, t2, rfl, ⟨_, (knt_sx ho s3 hf2.1).sqt⟩, for_tup (xs := o.map V.str) (fun j σ H' => SameX p H2 H' ∧ (∃ a b, FeedAt H' p a b) ∧ (∃ gs, GInv (o.take j) gs ∧ GrpAt H2 H' p gl gs) ∧ ∃ x4 x5 x6 x7 x8 x9 : Option V, σ = [some (.ref p), some (.ref nl), some (.ref t1), some (.ref t2), some (.ref gl), x4, x5, x6, x7, x8, x9]) ⟨s3, ⟨_, _, hf3⟩, ⟨[], by rw [List.take_zero]; exact ginv_nil, g3⟩, _, _, _, _, _, _, rfl⟩ (fun j σ H' _ h => (knt_sx ho h.1 hf2.1).sqt) ?_ ?_⟩
    · rintro j z σ H4 hz ⟨s4, ⟨a4, b4, hf4⟩, ⟨gs, hgi, hga⟩, x4, x5, x6, x7, x8, x9, rfl⟩
      obtain ⟨hj, e⟩ := List.getElem?_eq_some_iff.mp hz
      rw [List.length_map] at hj
      rw [List.getElem_map] at e
      subst e
      have et : o.take (j + 1) = o.take j ++ [o[j]] := by rw [List.take_add_one, List.getElem?_eq_getElem hj]; rfl
      have hgl9 : gs.length ≤ 8 := by
        have h1 := hgi.heads.length_le
        rw [List.length_map, List.length_take] at h1
        have := hoo.2.2
        omega
      obtain ⟨xs, hxs, hxl⟩ := hga.len
      dsimp only [gName]
      refine ⟨_, rfl, _, rfl, gl, xs, rfl, .inl (SqL.of hxs), _, _, rfl, rfl, p, _, a4, b4, rfl, hf4, by omega, by omega, fun d a5 b5 h0 h1 hf5 => ?_⟩
      obtain ⟨d, rfl⟩ := Int.eq_ofNat_of_zero_le h0
      have s5 : SameX p H4 (upd H4 p (.lst [.int a5, .int b5])) := sx_put (sx_of (Same.refl H4))
      have ga5 := hga.sx s5
      have hxs5 := s5 _ _ npg.symm hxs
      have s25 := s4.trans s5
      revert hf5 ga5 hxs5 s25
      generalize upd H4 p (.lst [.int a5, .int b5]) = H5
      intro hf5 ga5 hxs5 s25
      dsimp only [gName]
      refine ⟨_, rfl, _, rfl, gl, xs, rfl, .inl (SqL.of hxs5), rfl, _, rfl, ?_⟩
      -- the append behind both ways
      have fin : ∀ (H6 : Hp) (gs' : List (List Str)) (g : List Str), SameX p H2 H6 → FeedAt H6 p a5 b5 → GrpAt H2 H6 p gl gs' → gs'[d]? = some g → GInv (o.take j ++ [o[j]]) (gs'.set d (g ++ [o[j]])) → ∃ xs l, H6 gl = some (.lst xs) ∧ xs[d]? = some (V.ref l) ∧ H6 l = some (.lst (g.map V.str)) ∧ g.length < 1000 ∧ SameX p H2 (upd H6 l (.lst (g.map V.str ++ [.str o[j]]))) ∧ FeedAt (upd H6 l (.lst (g.map V.str ++ [.str o[j]]))) p a5 b5 ∧ GrpAt H2 (upd H6 l (.lst (g.map V.str ++ [.str o[j]]))) p gl (gs'.set d (g ++ [o[j]])) := fun H6 gs' g s6 hf6 ga6 hg6 hgi6 => by
        obtain ⟨xs, l, h1, h2, h3, h4, h5, h6⟩ := ga6.at hg6
        have hgl : g.length < 1000 := by
          have h7 := (hgi6.sub _ (List.mem_of_getElem? (List.getElem?_set_self (List.getElem?_eq_some_iff.mp hg6).1))).2.length_le
          rw [← et, List.length_append, List.length_take] at h7
          have := hoo.2.2
          omega
        exact ⟨xs, l, h1, h2, h3, hgl, sx_mut s6 h5, ⟨by rw [upd_ne h4.symm]; exact hf6.1, hf6.2⟩, h6 _⟩
      refine ite2 (fun hc => ?_) (fun hc => ?_)
      · have hd : d = gs.length := by
          have := of_decide_eq_true hc
          injection this with this
          omega
        refine ⟨_, rfl, .inl ⟨rfl, _, SqL.of hxs5⟩, szl (Nat.zero_le _), fun l hl => ?_⟩
        have nlp : l ≠ p := (ne_of_none hf5.1 hl).symm
        have hl2 : H2 l = none := by
          cases e : H2 l with
          | none => rfl
          | some u => rw [s25 l u nlp e] at hl; cases hl
        have ga6 := ga5.new hxs5 hl hl2 nlp
        have ngl : gl ≠ l := ne_of_none hxs5 hl
        have s6 : SameX p H2 (upd (upd H5 l (.lst [])) gl (.lst (xs ++ [.ref l]))) := sx_mut (sx_new s25 hl) hgl
        have hf6 : FeedAt (upd (upd H5 l (.lst [])) gl (.lst (xs ++ [.ref l]))) p a5 b5 := ⟨by rw [upd_ne npg, upd_ne nlp.symm]; exact hf5.1, hf5.2⟩
        have hg6 : (gs ++ [[]])[d]? = some [] := by rw [hd, List.getElem?_append_right (Nat.le_refl _), Nat.sub_self]; rfl
        have e6 : (gs ++ [[]]).set d ([] ++ [o[j]]) = gs ++ [[o[j]]] := by
          rw [hd, List.set_append_right _ _ (Nat.le_refl _), Nat.sub_self]
          rfl
        obtain ⟨ys, l9, k1, k2, k3, k4, k5, k6, k7⟩ := fin _ (gs ++ [[]]) [] s6 hf6 ga6 hg6 (by rw [e6]; exact hgi.new _)
        refine ⟨gl, _, _, rfl, rfl, by rw [upd_ne ngl]; exact hxs5, szt (by omega), ?_⟩
        refine ⟨_, rfl, _, rfl, gl, ys, _, .ref l9, rfl, rfl, SqL.of k1, atI_nat k2, .inl ⟨rfl, _, SqL.of k3⟩, _, rfl, l9, _, _, rfl, rfl, k3, szt (by show 0 < 100000; decide), ?_⟩
        refine ⟨k5, ⟨_, _, k6⟩, ⟨gs ++ [[o[j]]], by rw [et]; exact hgi.new _, by rw [← e6]; exact k7⟩, _, _, _, _, _, _, rfl⟩
      · have hd : d < gs.length := by
          have h2 : ¬ d = xs.length := fun e => hc (decide_eq_true (by rw [e]))
          omega
        have hg5 : gs[d]? = some gs[d] := List.getElem?_eq_getElem hd
        obtain ⟨ys, l9, k1, k2, k3, k4, k5, k6, k7⟩ := fin H5 gs gs[d] s25 hf5 ga5 hg5 (hgi.add _ hg5)
        refine ⟨_, rfl, _, rfl, gl, ys, _, .ref l9, rfl, rfl, SqL.of k1, atI_nat k2, .inl ⟨rfl, _, SqL.of k3⟩, _, rfl, l9, _, _, rfl, rfl, k3, szt (by rw [List.length_map]; omega), ?_⟩
        exact ⟨k5, ⟨_, _, k6⟩, ⟨_, by rw [et]; exact hgi.add _ hg5, k7⟩, _, _, _, _, _, _, rfl⟩
    · rintro σ H4 ⟨s4, ⟨a4, b4, hf4⟩, ⟨gs, hgi, hga⟩, x4, x5, x6, x7, x8, x9, rfl⟩
      rw [List.length_map, List.take_length] at hgi
      have hgl9 : gs.length ≤ 8 := by
        have h1 := hgi.heads.length_le
        rw [List.length_map] at h1
        have := hoo.2.2
        omega
      refine ⟨szl (Nat.zero_le _), fun fl hfl => ?_⟩
      have nfp : fl ≠ p := (ne_of_none hf4.1 hfl).symm
      have hf5 := feed_new (o := .lst []) hf4 hfl
      have s5 : SameX p H4 (upd H4 fl (.lst [])) := sx_new (sx_of (Same.refl H4)) hfl
      have hfl5 : upd H4 fl (.lst []) fl = some (.lst []) := upd_same
      revert hf5 s5 hfl5
      generalize upd H4 fl (.lst []) = H5
      intro hf5 s5 hfl5
      dsimp only [gName]
      obtain ⟨gxs, hgx, hgxl⟩ := hga.len
      refine ⟨_, rfl, gl, rfl, ⟨_, SqL.of (s5 _ _ npg.symm hgx)⟩, for_list (xs := gxs) (fun j σ H' => SameX p H4 H' ∧ (∃ a b, FeedAt H' p a b) ∧ (∃ fs prs, H' fl = some (.lst fs) ∧ fs.length ≤ j ∧ prs.map (·.1) = gs.take j ∧ (∀ f ∈ prs, f.2.Sublist i) ∧ Paired (FnK H') prs fs) ∧ ∃ x4 x5 x7 x8 x9 : Option V, σ = [some (.ref p), some (.ref nl), some (.ref t1), some (.ref t2), some (.ref gl), x4, x5, some (.ref fl), x7, x8, x9]) ⟨s5, ⟨_, _, hf5⟩, ⟨[], [], hfl5, Nat.le_refl _, rfl, fun f hf => (by cases hf), .nil⟩, _, _, _, _, _, rfl⟩ (fun j σ H' _ h => SqL.of (h.1 _ _ npg.symm hgx)) ?_ ?_⟩
      · rintro j z σ H6 hz ⟨s6, ⟨a6, b6, hf6⟩, ⟨fs, prs, hfs, hfsl, hpm, hsub, hpf⟩, x4, x5, x7, x8, x9, rfl⟩
        have hjl := (List.getElem?_eq_some_iff.mp hz).1
        have hgj : gs[j]? = some gs[j] := List.getElem?_eq_getElem (by omega)
        have hga6 := hga.sx s6
        obtain ⟨ys, l9, k1, k2, k3, k4, k5, _⟩ := hga6.at hgj
        have ez : z = .ref l9 := by
          have := s6 _ _ npg.symm hgx
          rw [this] at k1
          cases k1
          rw [k2] at hz
          exact (Option.some.inj hz).symm
        subst ez
        dsimp only [gName]
        have hi6 := (knt_sx hi2 (s4.trans s6) hf2.1).sqt (K := K)
        -- needs
        refine asg (fun v H' => ∃ (nd : Addr) (ns : List Str), v = .ref nd ∧ ns.Sublist i ∧ H' nd = some (.lst (ns.map V.str)) ∧ nd ≠ p ∧ SameX p H6 H' ∧ ∃ a b, FeedAt H' p a b) (fun Q' q => ?_) ?_
        · refine ⟨_, rfl, t1, rfl, ⟨_, hi6⟩, fun D hD => lc_tup (K := K) (a := t1) (xs := i.map V.str) (fun m H' => SameX p H6 H' ∧ (∃ a b, FeedAt H' p a b) ∧ ∃ ns : List Str, ns.Sublist (i.take m) ∧ H' D = some (.lst (ns.map V.str))) ⟨sx_new (sx_of (Same.refl H6)) hD, ⟨_, _, feed_new hf6 hD⟩, [], (by rw [List.take_zero]; exact List.Sublist.slnil), upd_same⟩ (fun m H' _ h => sqt_sx h.1 hf6.1 hi6) ?_ ?_⟩
          · rintro m u H7 hu ⟨s7, ⟨a7, b7, hf7⟩, ns, hns, h7⟩
            obtain ⟨hm, e⟩ := List.getElem?_eq_some_iff.mp hu
            rw [List.length_map] at hm
            rw [List.getElem_map] at e
            subst e
            have nDp : D ≠ p := (ne_of_none hf6.1 hD).symm
            have em : i.take (m + 1) = i.take m ++ [i[m]] := by rw [List.take_add_one, List.getElem?_eq_getElem hm]; rfl
            refine ⟨rfl, ?_⟩
            refine ⟨_, rfl, p, 3, a7, b7, rfl, hf7, by decide, by decide, fun d a8 b8 h0 h1 hf8 => ⟨rfl, _, rfl, ?_⟩⟩
            have s8 : SameX p H6 (upd H7 p (.lst [.int a8, .int b8])) := sx_put s7
            have h8 : upd H7 p (.lst [.int a8, .int b8]) D = some (.lst (ns.map V.str)) := by rw [upd_ne nDp]; exact h7
            revert hf8 s8 h8
            generalize upd H7 p (.lst [.int a8, .int b8]) = H8
            intro hf8 s8 h8
            have hnl : ns.length < 1000 := by
              have h1 := hns.length_le
              rw [List.length_take] at h1
              have := hio.2.2
              omega
            refine ite2 (fun hc => ?_) (fun hc => ?_)
            · refine ⟨_, rfl, _, h8, szt (by rw [List.length_map]; omega), sx_mut s8 hD, ⟨_, _, ⟨by rw [upd_ne nDp.symm]; exact hf8.1, hf8.2⟩⟩, ns ++ [i[m]], by rw [em]; exact hns.append (List.Sublist.refl _), by rw [upd_same, List.map_append]; rfl⟩
            · exact ⟨s8, ⟨_, _, hf8⟩, ns, by rw [em]; exact hns.trans (List.sublist_append_left _ _), h8⟩
          · rintro H7 ⟨s7, hf7, ns, hns, h7⟩
            rw [List.length_map, List.take_length] at hns
            exact q _ _ ⟨D, ns, rfl, hns, h7, (ne_of_none hf6.1 hD).symm, s7, hf7⟩
        rintro _ H7 ⟨nd, ns9, rfl, hns9, hnd, nnp, s7, a7, b7, hf7⟩
        dsimp only [gName]
        have hfs7 := s7 _ _ nfp hfs
        have k37 := s7 _ _ k4 k3
        have hpf7 := paired_imp (fun _ _ z => z.sx s7 hf6.1) hpf
        refine ⟨_, rfl, .inl ⟨rfl, _, SqL.of hfs7⟩, _, rfl, .inl ⟨l9, _, rfl, SqL.of k37, fun w1 H71 t1' e1 => ⟨_, rfl, .inl ⟨nd, ns9.map V.str, rfl, SqL.of (t1' _ _ hnd), fun w2 H72 t2' e2 => ⟨szl (show 2 ≤ 100000 by decide), fun w3 H9 t3' e3 => ?_⟩⟩⟩⟩⟩
        have t13 := (t1'.trans t2').trans t3'
        have e1 := (e1.same t2').same t3'
        have e2 := e2.same t3'
        have hf9 := feed_same t13 hf7
        have hfs9 := t13 _ _ hfs7
        have hpf9 := paired_imp (fun _ _ z => FnK.same z t13) hpf7
        have s9 := s6.trans (s7.trans (sx_of t13))
        have sf : SameX fl H9 (upd H9 fl (.lst (fs ++ [.ref w3]))) := sx_put (sx_of (Same.refl H9))
        refine ⟨fl, _, _, rfl, rfl, hfs9, szt (by omega), sx_mut s9 hfl, ⟨_, _, ⟨by rw [upd_ne nfp.symm]; exact hf9.1, hf9.2⟩⟩, ⟨fs ++ [.ref w3], prs ++ [(gs[j], ns9)], upd_same, by rw [List.length_append, List.length_singleton]; omega, ?_, ?_, ?_⟩, _, _, _, _, _, rfl⟩
        · rw [List.map_append, hpm, List.take_add_one, hgj]
          rfl
        · intro f hf
          rcases List.mem_append.mp hf with hf | hf
          · exact hsub f hf
          · rw [List.mem_singleton.mp hf]
            exact hns9
        · exact paired_snoc (paired_imp (fun _ _ z => z.sx sf hfs9) hpf9) (FnK.sx (H := H9) (f := (gs[j], ns9)) ⟨w3, w1, w2, rfl, e3, e1, e2⟩ sf hfs9)
      · rintro σ H6 ⟨s6, ⟨a6, b6, hf6⟩, ⟨fs, prs, hfs, hfsl, hpm, hsub, hpf⟩, x4, x5, x7, x8, x9, rfl⟩
        rw [hgxl, List.take_length] at hpm
        have s26 := s4.trans s6
        refine ⟨_, rfl, _, rfl, _, rfl, .inl ⟨fl, _, rfl, SqL.of hfs, fun w1 H7 t1' e1 => ⟨szl (show 3 ≤ 100000 by decide), fun w2 H8 t2' e2 => ?_⟩⟩⟩
        have t12 := t1'.trans t2'
        have hi8 := (knt_sx hi2 s26 hf2.1).same t12
        have ho8 := (knt_sx ho s26 hf2.1).same t12
        have hpf8 := paired_imp (fun _ _ z => FnK.same z t12) hpf
        have hg : ∀ f ∈ prs, f.1 ∈ gs := fun f hf => by rw [← hpm]; exact List.mem_map_of_mem hf
        have hfT : ∀ f ∈ prs, (∀ x ∈ f.1, OkT 9 x) ∧ ∀ x ∈ f.2, OkT 9 x := fun f hf => ⟨fun x hx => hoT x ((flat_mem hgi (hg f hf)).2 x hx), fun x hx => hiT x ((hsub f hf).subset hx)⟩
        have hpl : prs.length = gs.length := by rw [← hpm, List.length_map]
        refine k _ _ i o prs a6 b6 ((s02.trans s26).trans (sx_of t12)) (feed_same t12 hf6) ?_ ⟨hio.2.2, hoo.2.2, by omega, fun f hf => ⟨Nat.le_trans (flat_mem hgi (hg f hf)).1 hoo.2.2, Nat.le_trans (hsub f hf).length_le hio.2.2⟩, hiT, hoT, hfT⟩
        exact both_tup e2 (both_cons (both_tx hi8 hiT) (both_cons (both_tx ho8 hoT) (both_cons (both_tup (e1.same t2') (fns_both hpf8 hfT)) both_nil)))

end
end K22

set_option maxRecDepth 100000
set_option maxHeartbeats 4000000
namespace K22
open PySem L2 Ly Od
local macro_rules | `(tactic| walk_at "nx") => `(tactic| dsimp only [tNext])
section
variable {P : Program} {w : World} {K : PySem.W.Frag} {mg : Str → Option Value} {base : Heap} {ad : Adr}
theorem sc_law_bent_tuple : FnScope ["feed", "value", "at", "way", "odd"] ["feed", "value"] (defScope s_law_bent_tuple) := ⟨rfl, rfl, rfl, by decide +kernel, rfl, by decide +kernel, by decide +kernel⟩
theorem odd_nil {p : Addr → Prop} {H : Hp} : ∀ v ∈ ([] : List V), OddV p H v := fun v hv => (by cases hv)
theorem odd_cons {p : Addr → Prop} {H : Hp} {v : V} {vs : List V} (h : OddV p H v) (k : ∀ v ∈ vs, OddV p H v) : ∀ x ∈ v :: vs, OddV p H x := fun x hx => by
  rcases List.mem_cons.mp hx with rfl | hx
  · exact h
  · exact k x hx
theorem odd_app {p : Addr → Prop} {H : Hp} {vs ws : List V} (h : ∀ v ∈ vs, OddV p H v) (k : ∀ v ∈ ws, OddV p H v) : ∀ x ∈ vs ++ ws, OddV p H x := fun x hx => by
  rcases List.mem_append.mp hx with hx | hx
  · exact h x hx
  · exact k x hx
theorem ok_bentt {f : Addr} {fd fdt fdp : FuncData} (F : Fun K "_law_bent_tuple" "_law_bent_tuple" s_law_bent_tuple f fd) (T : Txt K w mg ad) (G_law_take : FnOk P w K mg base CX0 1 ad.f_law_take fdt ["feed", "size"] spTake) (b_law_take : Binds K fdt ["feed", "size"] [])
    (G_law_pick : FnOk P w K mg base CX0 2 ad.f_law_pick fdp ["feed", "choices"] (spPick K)) (b_law_pick : Binds K fdp ["feed", "choices"] []) : FnOk P w K mg base CX0 3 f fd ["feed", "value"] spBentT := by
  refine F.ok sc_law_bent_tuple (fun vs H Q E h => ?_) (fun cdv A outer s H vs Q E hr h => ?_)
  · obtain ⟨p, t, xs, ds, n, w, a, b, rfl, _⟩ := h
    rfl
  · obtain ⟨p, t, xs, ds, n, w, a, b, rfl, hf, hX, hA, h8, hR, hn, hw, k⟩ := h
    refine ⟨_, (pss_cons (ps_set (i := 2) sc_law_bent_tuple.nd rfl (Or.inl rfl) (pe_call G_law_take (hr.mono (by decide)) rfl T.g__law_take T.k__law_take b_law_take .nil pass0 (pa_cons (pv 0) (pa_cons (pe_op op_add (pe_callB (call_lenK K) (by rfl) T.n_len (by decide +kernel) (pa_cons (pv 1) pa_nil)) pe_int) pa_nil))))
    (pss_cons (ps_set (i := 3) sc_law_bent_tuple.nd rfl (Or.inl rfl) (pe_call G_law_take (hr.mono (by decide)) rfl T.g__law_take T.k__law_take b_law_take .nil pass0 (pa_cons (pv 0) (pa_cons pe_int pa_nil))))
    (pss_cons (ps_set (i := 4) sc_law_bent_tuple.nd rfl (Or.inl rfl) (pe_lst (pa_cons pe_str (pa_cons pe_str (pa_cons pe_str (pa_cons pe_str (pa_cons pe_str (pa_cons pe_str (pa_cons pe_str (pa_cons pe_str (pa_cons pe_int (pa_cons pe_non (pa_cons pe_bl (pa_cons (pe_lst pa_nil) (pa_cons pe_dnewK pa_nil)))))))))))))))
    (pss_cons (ps_set (i := 4) sc_law_bent_tuple.nd rfl (Or.inl rfl) (pe_op op_cat (pv 4) (pe_lst (pa_cons pe_str (pa_cons pe_str (pa_cons pe_str (pa_cons pe_str (pa_cons pe_str (pa_cons pe_str (pa_cons pe_str (pa_cons (pe_lst (pa_cons pe_str pa_nil)) (pa_cons (pe_disp (pps_cons pe_str pe_int pps_nil) (by rfl) (by rfl) (fun z => by cases z) (by decide)) pa_nil))))))))))))
    (pss_cons (ps_set (i := 4) sc_law_bent_tuple.nd rfl (Or.inl rfl) (pe_op op_cat (pv 4) (pe_lst (pa_cons (pe_tupF (pa_cons pe_str pa_nil)) (pa_cons (pe_tupF pa_nil) (pa_cons pe_str (pa_cons (pe_tupF (pa_cons (pe_tupF pa_nil) (pa_cons (pe_tupF pa_nil) pa_nil))) (pa_cons (pe_tupF (pa_cons (pe_tupF (pa_cons pe_str pa_nil)) (pa_cons (pe_tupF pa_nil) pa_nil))) pa_nil))))))))
    (pss_cons (ps_if (pt_cmpR op_eq (pv 3) pe_int (nomark _)) (pss_one (ps_ret (pe_op op_catF (pe_slice sl_tupF (pv 1) po_none (po_some (pv 2))) (pe_slice sl_tupF (pv 1) (po_some (pe_op op_add (pv 2) pe_int)) po_none)))) pss_nil)
    (pss_cons (ps_if (pt_cmpR op_eq (pv 3) pe_int (nomark _)) (pss_one (ps_ret (pe_op op_catF (pe_op op_catF (pe_slice sl_tupF (pv 1) po_none (po_some (pv 2))) (pe_tupF (pa_cons (pe_call G_law_pick (hr.mono (by decide)) rfl T.g__law_pick T.k__law_pick b_law_pick .nil pass0 (pa_cons (pv 0) (pa_cons (pv 4) pa_nil))) pa_nil))) (pe_slice sl_tupF (pv 1) (po_some (pv 2)) po_none)))) pss_nil)
    (pss_cons (ps_if (pt_cmpR op_eq (pv 3) pe_int (nomark _)) (pss_one (ps_ret (pe_op op_catF (pv 1) (pe_slice sl_tupF (pv 1) po_none (po_some pe_int))))) pss_nil)
    (pss_cons (ps_if (pt_cmpR op_eq (pv 3) pe_int (nomark _)) (pss_one (ps_ret (pe_revT (pv 1)))) pss_nil)
    (pss_cons (ps_if (pt_cmpR op_eq (pv 3) pe_int (nomark _)) (pss_one (ps_ret (pe_callTy call_list_of (by rfl) T.n_list (by decide +kernel) (pa_cons (pv 1) pa_nil)))) pss_nil)
    (pss_cons (ps_if (pt_cmpR op_eq (pv 3) pe_int (nomark _)) (pss_one (ps_ret (pe_call G_law_pick (hr.mono (by decide)) rfl T.g__law_pick T.k__law_pick b_law_pick .nil pass0 (pa_cons (pv 0) (pa_cons (pe_lst (pa_cons pe_non (pa_cons pe_int (pa_cons pe_str (pa_cons pe_dnewK (pa_cons (pe_tupF pa_nil) pa_nil)))))) pa_nil))))) pss_nil)
    (pss_one (ps_ret (pe_op op_catF (pe_op op_catF (pe_slice sl_tupF (pv 1) po_none (po_some (pv 2))) (pe_tupF (pa_cons (pe_call G_law_pick (hr.mono (by decide)) rfl T.g__law_pick T.k__law_pick b_law_pick .nil pass0 (pa_cons (pv 0) (pa_cons (pv 4) pa_nil))) pa_nil))) (pe_slice sl_tupF (pv 1) (po_some (pe_op op_add (pv 2) pe_int)) po_none))))))))))))))), ?_⟩
    have hl : xs.length = ds.length := (hA (fun _ => True) true).len
    have hSp : Lsts H p := ⟨_, hf.1⟩
    -- at
    refine asg (fun v H' => ∃ d : Nat, v = .int d ∧ d ≤ xs.length ∧ SameX p H H' ∧ ∃ a b, FeedAt H' p a b) (fun Q' q => ?_) ?_
    · refine ⟨_, rfl, _, rfl, t, xs, rfl, .inr hX.sqt, _, _, rfl, rfl, p, _, a, b, rfl, hf, by omega, by omega, fun d a1 b1 h0 h1 hf1 => ?_⟩
      obtain ⟨d, rfl⟩ := Int.eq_ofNat_of_zero_le h0
      exact q _ _ ⟨d, rfl, by omega, sx_put (sx_of (Same.refl H)), _, _, hf1⟩
    rintro _ H1 ⟨at', rfl, hat, s1, a1, b1, hf1⟩
    dsimp only [gName]
    -- way
    refine asg (fun v H' => ∃ d : Int, v = .int d ∧ SameX p H1 H' ∧ ∃ a b, FeedAt H' p a b) (fun Q' q => ?_) ?_
    · refine ⟨_, rfl, p, 8, a1, b1, rfl, hf1, by decide, by decide, fun d a2 b2 h0 h1 hf2 => ?_⟩
      exact q _ _ ⟨d, rfl, sx_put (sx_of (Same.refl H1)), _, _, hf2⟩
    rintro _ H2 ⟨way, rfl, s2, a2, b2, hf2⟩
    dsimp only [gName]
    -- odd
    refine asg (fun v H' => ∃ (l : Addr) (os : List V), v = .ref l ∧ H' l = some (.lst os) ∧ l ≠ p ∧ os.length = 13 ∧ (∀ v ∈ os, OddV (Lsts H) H' v) ∧ Same H2 H') (fun Q' q => ?_) ?_
    · refine ⟨szl (Nat.zero_le _), fun l0 hl0 => ?_⟩
      intro d0 hd0
      refine ⟨szl (show 13 ≤ 100000 by decide), fun l hl => ?_⟩
      have t1 := same_new (o := .lst []) hl0
      have t2 := same_new (o := .dK []) hd0
      have t12 := t1.trans t2
      have t3 : Same _ _ := same_new (o := .lst [.str "i", .str "p", .str "q", .str "end", .str "self", .str "A", .str "", .str "abcdefghi", .int 5, .non, .bl true, .ref l0, .ref d0]) hl
      have n0 : ¬ Lsts H l0 := not_lsts (lsts_sx (s1.trans s2) hf2.1) hl0
      have nl : l ≠ p := (ne_of_none (t12 _ _ hf2.1) hl).symm
      refine q _ _ ⟨l, _, rfl, upd_same, nl, rfl, ?_, t12.trans t3⟩
      have e0 := (t2.trans t3) _ _ (upd_same (H := H2) (a := l0) (o := .lst []))
      have e1 := t3 _ _ (upd_same (a := d0) (o := .dK []))
      exact odd_cons (odd_str (by constructor <;> decide +kernel)) (odd_cons (odd_str (by constructor <;> decide +kernel)) (odd_cons (odd_str (by constructor <;> decide +kernel)) (odd_cons (odd_str (by constructor <;> decide +kernel)) (odd_cons (odd_str (by constructor <;> decide +kernel)) (odd_cons (odd_str (by constructor <;> decide +kernel)) (odd_cons (odd_str (by constructor <;> decide +kernel)) (odd_cons (odd_str (by constructor <;> decide +kernel)) (odd_cons (odd_int (by decide)) (odd_cons odd_non (odd_cons odd_bl (odd_cons (odd_l0 e0 n0) (odd_cons (odd_d0 e1) odd_nil))))))))))))
    rintro _ H3 ⟨lo1, os1, rfl, hlo1, nlo1, hol1, hod1, s3⟩
    dsimp only [gName]
    have hf3 := feed_same s3 hf2
    refine asg (fun v H' => ∃ (l : Addr) (os : List V), v = .ref l ∧ H' l = some (.lst os) ∧ l ≠ p ∧ os.length = 22 ∧ (∀ v ∈ os, OddV (Lsts H) H' v) ∧ Same H3 H') (fun Q' q => ?_) ?_
    · refine ⟨_, rfl, szl (show 1 ≤ 100000 by decide), fun l0 hl0 => ?_⟩
      intro d0 hd0
      refine ⟨upd_same, kvI, rfl, by decide, ?_⟩
      rw [upd_upd, show mergeK [] kvI = kvI from rfl]
      refine ⟨szl (show 9 ≤ 100000 by decide), fun l hl => ?_⟩
      have t1 := same_new (o := .lst [.str "i"]) hl0
      have t2 := same_new (o := .dK kvI) hd0
      have t12 := t1.trans t2
      have t3 : Same _ _ := same_new (o := .lst [.str "a1", .str "a b", .str "a.b", .str "a_b", .str "block", .str "part", .str "aB", .ref l0, .ref d0]) hl
      have t13 := t12.trans t3
      have n0 : ¬ Lsts H l0 := not_lsts (lsts_sx ((s1.trans s2).trans (sx_of s3)) hf3.1) hl0
      have e0 := (t2.trans t3) _ _ (upd_same (H := H3) (a := l0) (o := .lst [.str "i"]))
      have e1 := t3 _ _ (upd_same (a := d0) (o := .dK kvI))
      refine ⟨lo1, l, _, _, rfl, rfl, t13 _ _ hlo1, upd_same, szl (by rw [hol1]; exact (show 22 ≤ 100000 by decide)), fun l2 hl2 => ?_⟩
      have nl2 : l2 ≠ p := (ne_of_none (t13 _ _ hf3.1) hl2).symm
      have t4 := same_new (o := .lst (os1 ++ [.str "a1", .str "a b", .str "a.b", .str "a_b", .str "block", .str "part", .str "aB", .ref l0, .ref d0])) hl2
      refine q _ _ ⟨l2, _, rfl, upd_same, nl2, by rw [List.length_append, hol1]; rfl, odd_app (fun v hv => (hod1 v hv).same (t13.trans t4)) ?_, t13.trans t4⟩
      exact odd_cons (odd_str (by constructor <;> decide +kernel)) (odd_cons (odd_str (by constructor <;> decide +kernel)) (odd_cons (odd_str (by constructor <;> decide +kernel)) (odd_cons (odd_str (by constructor <;> decide +kernel)) (odd_cons (odd_str (by constructor <;> decide +kernel)) (odd_cons (odd_str (by constructor <;> decide +kernel)) (odd_cons (odd_str (by constructor <;> decide +kernel)) (odd_cons (odd_l1 (t4 _ _ e0) n0) (odd_cons (odd_d1 (t4 _ _ e1)) odd_nil))))))))
    rintro _ H4 ⟨lo2, os2, rfl, hlo2, nlo2, hol2, hod2, s4⟩
    dsimp only [gName]
    have hf4 := feed_same s4 hf3
    refine asg (fun v H' => ∃ (l : Addr) (os : List V), v = .ref l ∧ H' l = some (.lst os) ∧ l ≠ p ∧ os.length = 27 ∧ (∀ v ∈ os, OddV (Lsts H) H' v) ∧ Same H4 H') (fun Q' q => ?_) ?_
    · refine ⟨_, rfl, szl (show 1 ≤ 100000 by decide), fun c1 G1 u1 k1 => ⟨szl (Nat.zero_le _), fun c2 G2 u2 k2 => ⟨szl (Nat.zero_le _), fun c3 G3 u3 k3 => ⟨szl (Nat.zero_le _), fun c4 G4 u4 k4 => ⟨szl (show 2 ≤ 100000 by decide), fun c5 G5 u5 k5 => ⟨szl (show 1 ≤ 100000 by decide), fun c6 G6 u6 k6 => ⟨szl (Nat.zero_le _), fun c7 G7 u7 k7 => ⟨szl (show 2 ≤ 100000 by decide), fun c8 G8 u8 k8 => ⟨szl (show 5 ≤ 100000 by decide), fun l hl => ?_⟩⟩⟩⟩⟩⟩⟩⟩⟩
      have t9 : Same _ _ := same_new (o := .lst [.ref c1, .ref c2, .str "zz", .ref c5, .ref c8]) hl
      have t89 := u8.trans t9
      have t79 := u7.trans t89
      have t69 := u6.trans t79
      have t59 := u5.trans t69
      have t49 := u4.trans t59
      have t39 := u3.trans t49
      have t29 := u2.trans t39
      have t19 := u1.trans t29
      refine ⟨lo2, l, _, _, rfl, rfl, t19 _ _ hlo2, upd_same, szl (by rw [hol2]; exact (show 27 ≤ 100000 by decide)), fun l2 hl2 => ?_⟩
      have nl2 : l2 ≠ p := (ne_of_none (t19 _ _ hf4.1) hl2).symm
      have t4 := same_new (o := .lst (os2 ++ [.ref c1, .ref c2, .str "zz", .ref c5, .ref c8])) hl2
      refine q _ _ ⟨l2, _, rfl, upd_same, nl2, by rw [List.length_append, hol2]; rfl, odd_app (fun v hv => (hod2 v hv).same (t19.trans t4)) ?_, t19.trans t4⟩
      exact odd_cons (odd_t1 (k1.same (t29.trans t4))) (odd_cons (odd_t0 (k2.same (t39.trans t4))) (odd_cons (odd_str (by constructor <;> decide +kernel)) (odd_cons (odd_t2 (k5.same (t69.trans t4)) (k3.same (t49.trans t4)) (k4.same (t59.trans t4))) (odd_cons (odd_t3 (k8.same (t9.trans t4)) (k6.same (t79.trans t4)) (k7.same (t89.trans t4))) odd_nil))))
    rintro _ H5 ⟨lo, os, rfl, hlo, nlo, hol, hod, s5⟩
    dsimp only [gName]
    have hf5 := feed_same s5 hf4
    have s05 : SameX p H H5 := (s1.trans s2).trans (sx_of ((s3.trans s4).trans s5))
    have hX5 := knt_sx hX s05 hf.1
    have hA5 := hA.sx s05 hf.1
    have ea : ((at' : Nat) : Int) + 1 = ((at' + 1 : Nat) : Int) := by omega
    have fin : ∀ (c : Addr) (H' : Hp) (a' b' : Int) (bb : Bool) (ys : List V) (es : List PyData), SameX p H5 H' → FeedAt H' p a' b' → KnT H' c ys → DqAll (Lsts H) H' bb ys es → (∀ e ∈ es, Rq n w e) → es.length ≤ 9 → Q (.ref c) H' := fun c H' a' b' bb ys es s hf' hc hd hr hl =>
      k _ _ a' b' (s05.trans s) hf' (any_tup hc hd hr hl)
    -- a thing is put in
    have put : ∀ (m : Nat) (c : Addr) (H' : Hp) (a' b' : Int) (v : V), at' ≤ m → SameX p H5 H' → FeedAt H' p a' b' → OddV (Lsts H) H' v → KnT H' c (xs.take at' ++ [v] ++ xs.drop m) → Q (.ref c) H' := fun m c H' a' b' v hm s hf' ho hc => by
      obtain ⟨bb, d, hd, hq⟩ := ho
      have hA6 := hA5.sx s hf5.1 (Lsts H) bb
      refine fin c H' a' b' bb _ (ds.take at' ++ [d] ++ ds.drop m) s hf' hc (((hA6.take at').app (.cons hd (.nil _))).app (hA6.drop m)) (fun e he => ?_) ?_
      · rcases List.mem_append.mp he with he | he
        · rcases List.mem_append.mp he with he | he
          · exact hR e (List.mem_of_mem_take he)
          · rw [List.mem_singleton.mp he]
            exact hq.mono hn hw
        · exact hR e (List.mem_of_mem_drop he)
      · rw [List.length_append, List.length_append, List.length_take, List.length_drop, List.length_singleton]
        omega
    -- way 0
    refine ⟨_, rfl, rfl, _, rfl, ite2 (fun hc => ?_) (fun hc => ?_)⟩
    · refine ⟨_, rfl, _, rfl, _, rfl, t, xs, rfl, hX5, fun c1 G1 u1 k1 => ?_⟩
      refine ⟨_, rfl, _, rfl, _, _, rfl, rfl, _, rfl, t, xs, rfl, hX5.same u1, fun c2 G2 u2 k2 => ?_⟩
      rw [cut_to] at k1
      rw [ea, Od.cut_from] at k2
      refine ⟨c1, c2, _, _, rfl, rfl, k1.same u2, k2, szl (by rw [List.length_take, List.length_drop]; omega), fun c G3 u3 k3 => ?_⟩
      have u13 := (u1.trans u2).trans u3
      refine fin c G3 _ _ true _ (ds.take at' ++ ds.drop (at' + 1)) (sx_of u13) (feed_same u13 hf5) k3 (((hA5.same u13 (Lsts H) true).take at').app ((hA5.same u13 (Lsts H) true).drop (at' + 1))) (fun e he => ?_) ?_
      · rcases List.mem_append.mp he with he | he
        · exact hR e (List.mem_of_mem_take he)
        · exact hR e (List.mem_of_mem_drop he)
      · rw [List.length_append, List.length_take, List.length_drop]
        omega
    walk_at "nx"
    -- way 1
    refine ⟨_, rfl, rfl, _, rfl, ite2 (fun hc => ?_) (fun hc => ?_)⟩
    · refine ⟨_, rfl, _, rfl, _, rfl, t, xs, rfl, hX5, fun c1 G1 u1 k1 => ?_⟩
      rw [cut_to] at k1
      refine ⟨_, rfl, _, rfl, p, lo, os, _, _, rfl, feed_same u1 hf5, SqL.of (u1 _ _ hlo), nlo, by omega, by omega, fun v a6 b6 hv hf6 => ?_⟩
      have s6 : SameX p G1 (upd G1 p (.lst [.int a6, .int b6])) := sx_put (sx_of (Same.refl G1))
      have hv6 := ((hod v hv).same u1).sx s6 (u1 _ _ hf5.1) hSp
      have k1 := knt_sx k1 s6 (u1 _ _ hf5.1)
      have s56 := (sx_of u1).trans s6
      revert hf6 hv6 k1 s56
      generalize upd G1 p (.lst [.int a6, .int b6]) = G2
      intro hf6 hv6 k1 s56
      refine ⟨szl (show 1 ≤ 100000 by decide), fun c2 G3 u3 k3 => ?_⟩
      refine ⟨c1, c2, _, _, rfl, rfl, k1.same u3, k3, szl (by rw [List.length_take]; simp; omega), fun c3 G4 u4 k4 => ?_⟩
      have u34 := u3.trans u4
      refine ⟨_, rfl, _, rfl, _, rfl, t, xs, rfl, (knt_sx hX5 s56 hf5.1).same u34, fun c4 G5 u5 k5 => ?_⟩
      rw [Od.cut_from] at k5
      refine ⟨c3, c4, _, _, rfl, rfl, k4.same u5, k5, szl (by rw [List.length_append, List.length_take, List.length_drop]; simp; omega), fun c G6 u6 k6 => ?_⟩
      have u36 := (u34.trans u5).trans u6
      exact put at' c G6 _ _ v (Nat.le_refl _) (s56.trans (sx_of u36)) (feed_same u36 hf6) (hv6.same u36) k6
    walk_at "nx"
    -- way 2
    refine ⟨_, rfl, rfl, _, rfl, ite2 (fun hc => ?_) (fun hc => ?_)⟩
    · refine ⟨_, rfl, _, rfl, _, rfl, t, xs, rfl, hX5, fun c1 G1 u1 k1 => ?_⟩
      rw [show ((1 : Int)) = ((1 : Nat) : Int) from rfl, cut_to] at k1
      refine ⟨t, c1, _, _, rfl, rfl, hX5.same u1, k1, szl (by rw [List.length_take]; omega), fun c G3 u3 k3 => ?_⟩
      have u13 := u1.trans u3
      refine fin c G3 _ _ true _ (ds ++ ds.take 1) (sx_of u13) (feed_same u13 hf5) k3 ((hA5.same u13 (Lsts H) true).app ((hA5.same u13 (Lsts H) true).take 1)) (fun e he => ?_) ?_
      · rcases List.mem_append.mp he with he | he
        · exact hR e he
        · exact hR e (List.mem_of_mem_take he)
      · rw [List.length_append, List.length_take]
        omega
    walk_at "nx"
    -- way 3
    refine ⟨_, rfl, rfl, _, rfl, ite2 (fun hc => ?_) (fun hc => ?_)⟩
    · refine ⟨_, rfl, t, xs, rfl, hX5, fun c G3 u3 k3 => ?_⟩
      exact fin c G3 _ _ true _ ds.reverse (sx_of u3) (feed_same u3 hf5) k3 (hA5.same u3 (Lsts H) true).rev (fun e he => hR e (List.mem_reverse.mp he)) (by rw [List.length_reverse]; omega)
    walk_at "nx"
    -- way 4
    refine ⟨_, rfl, rfl, _, rfl, ite2 (fun hc => ?_) (fun hc => ?_)⟩
    · refine ⟨_, rfl, t, _, rfl, .inr hX5.sqt, fun l hl => ?_⟩
      have u1 := same_new (o := .lst xs) hl
      exact k _ _ _ _ (s05.trans (sx_of u1)) (feed_same u1 hf5) (any_lst upd_same (not_lsts (lsts_sx s05 hf5.1) hl) (hA5.same u1 (Lsts H) true) hR (by omega))
    walk_at "nx"
    -- way 5
    refine ⟨_, rfl, rfl, _, rfl, ite2 (fun hc => ?_) (fun hc => ?_)⟩
    · refine ⟨_, rfl, ?_⟩
      intro d0 hd0
      refine ⟨szl (Nat.zero_le _), fun c1 G1 u1 k1 => ⟨szl (show 5 ≤ 100000 by decide), fun l hl => ?_⟩⟩
      have t0 := same_new (o := .dK []) hd0
      have t2 := same_new (o := .lst [.non, .int 7, .str "", .ref d0, .ref c1]) hl
      have t02 := (t0.trans u1).trans t2
      have hf6 := feed_same t02 hf5
      have nl : l ≠ p := (ne_of_none (feed_same (t0.trans u1) hf5).1 hl).symm
      have hall : ∀ v ∈ [V.non, .int 7, .str "", .ref d0, .ref c1], OddV (Lsts H) (upd G1 l (.lst [.non, .int 7, .str "", .ref d0, .ref c1])) v :=
        odd_cons odd_non (odd_cons (odd_int (by decide)) (odd_cons (odd_str (by constructor <;> decide +kernel)) (odd_cons (odd_d0 ((u1.trans t2) _ _ upd_same)) (odd_cons (odd_t0 (k1.same t2)) odd_nil))))
      refine ⟨p, l, _, _, _, rfl, hf6, SqL.of upd_same, nl, (show 0 < 5 by decide), (show 5 ≤ 1000 by decide), fun v a6 b6 hv hf7 => ?_⟩
      have s6 : SameX p (upd G1 l (.lst [.non, .int 7, .str "", .ref d0, .ref c1])) _ := sx_put (p := p) (o := .lst [.int a6, .int b6]) (sx_of (Same.refl _))
      obtain ⟨bb, d, hd, hq⟩ := (hall v hv).sx s6 hf6.1 hSp
      refine k _ _ a6 b6 ((s05.trans (sx_of t02)).trans s6) hf7 ⟨bb, d, hd, hq.mono (by omega) ?_⟩
      have : (w + 1) * 9 = 9 * w + 9 := by omega
      omega
    walk_at "nx"
    -- else
    refine ⟨_, rfl, _, rfl, _, rfl, t, xs, rfl, hX5, fun c1 G1 u1 k1 => ?_⟩
    rw [cut_to] at k1
    refine ⟨_, rfl, _, rfl, p, lo, os, _, _, rfl, feed_same u1 hf5, SqL.of (u1 _ _ hlo), nlo, by omega, by omega, fun v a6 b6 hv hf6 => ?_⟩
    have s6 : SameX p G1 (upd G1 p (.lst [.int a6, .int b6])) := sx_put (sx_of (Same.refl G1))
    have hv6 := ((hod v hv).same u1).sx s6 (u1 _ _ hf5.1) hSp
    have k1 := knt_sx k1 s6 (u1 _ _ hf5.1)
    have s56 := (sx_of u1).trans s6
    revert hf6 hv6 k1 s56
    generalize upd G1 p (.lst [.int a6, .int b6]) = G2
    intro hf6 hv6 k1 s56
    refine ⟨szl (show 1 ≤ 100000 by decide), fun c2 G3 u3 k3 => ?_⟩
    refine ⟨c1, c2, _, _, rfl, rfl, k1.same u3, k3, szl (by rw [List.length_take]; simp; omega), fun c3 G4 u4 k4 => ?_⟩
    have u34 := u3.trans u4
    refine ⟨_, rfl, _, rfl, _, _, rfl, rfl, _, rfl, t, xs, rfl, (knt_sx hX5 s56 hf5.1).same u34, fun c4 G5 u5 k5 => ?_⟩
    rw [ea, Od.cut_from] at k5
    refine ⟨c3, c4, _, _, rfl, rfl, k4.same u5, k5, szl (by rw [List.length_append, List.length_take, List.length_drop]; simp; omega), fun c G6 u6 k6 => ?_⟩
    have u36 := (u34.trans u5).trans u6
    exact put (at' + 1) c G6 _ _ v (Nat.le_succ _) (s56.trans (sx_of u36)) (feed_same u36 hf6) (hv6.same u36) k6

end
end K22

set_option maxRecDepth 100000
set_option maxHeartbeats 4000000
namespace K22
open PySem L2 Ly Od
local macro_rules | `(tactic| walk_at "nx") => `(tactic| dsimp only [tNext])
section
variable {P : Program} {w : World} {K : PySem.W.Frag} {mg : Str → Option Value} {base : Heap} {ad : Adr}
def chs (z : Str) : List Str := z.cps.toList.map fun c => (⟨#[c]⟩ : Str)
theorem chs_map (z : Str) : (z.cps.toList.map fun c => V.str ⟨#[c]⟩) = (chs z).map V.str := by unfold chs; rw [List.map_map]; rfl
theorem key9 : ∀ l : List Str, (decide (l.length ≤ 8) && l.all fun x => decide (x.length ≤ 9) && x.cps.toList.all fun c => decide (c < 1114112)) = true → l.length ≤ 8 ∧ ∀ x ∈ l, OkT 9 x := fun l h => by
  rw [Bool.and_eq_true] at h
  refine ⟨of_decide_eq_true h.1, fun x hx => ?_⟩
  have := List.all_eq_true.mp h.2 x hx
  rw [Bool.and_eq_true] at this
  exact ⟨of_decide_eq_true this.1, this.2⟩
theorem sc_law_wide : FnScope ["feed", "inputs", "outputs", "functions", "output", "one"] ["feed"] (defScope s_law_wide) := ⟨rfl, rfl, rfl, by decide +kernel, rfl, by decide +kernel, by decide +kernel⟩
theorem ok_wide {f : Addr} {fd fdt : FuncData} (F : Fun K "_law_wide" "_law_wide" s_law_wide f fd) (T : Txt K w mg ad) (G_law_take : FnOk P w K mg base CX0 1 ad.f_law_take fdt ["feed", "size"] spTake) (b_law_take : Binds K fdt ["feed", "size"] []) : FnOk P w K mg base CX0 2 f fd ["feed"] spMade := by
  refine F.ok sc_law_wide (fun vs H Q E h => ?_) (fun cdv A outer s H vs Q E hr h => ?_)
  · obtain ⟨p, a, b, rfl, _⟩ := h
    rfl
  · obtain ⟨p, a, b, rfl, hf, k⟩ := h
    refine ⟨_, (pss_cons (ps_asg (pe_tupF (pa_cons (pe_callTy (call_tupleG K rfl) (by rfl) T.n_tuple (by decide +kernel) (pa_cons pe_str pa_nil)) (pa_cons (pe_callTy (call_tupleG K rfl) (by rfl) T.n_tuple (by decide +kernel) (pa_cons pe_str pa_nil)) pa_nil))) (pg_tup (by rfl) (pgs_cons (pg_name (i := 1) sc_law_wide.nd rfl (Or.inr rfl)) (pgs_cons (pg_name (i := 2) sc_law_wide.nd rfl (Or.inl rfl)) pgs_nil))))
    (pss_cons (ps_setLc (i := 3) (own := [("output", 4)]) rfl sc_law_wide.nd rfl rfl (sw_true rfl rfl rfl (by decide +kernel)) (pi_tupK K (pv 2)) (blkOk_by (own := [("output", 4)]) (N := ["feed", "inputs", "outputs", "functions", "output", "one"]) (sc := defScope s_law_wide) (by decide +kernel)) (fun _ _ _ _ _ => (pg_name (i := 4) sc_law_wide.nd rfl (Or.inl rfl))) (fun _ _ _ _ _ => pts_nil) (fun _ _ _ _ _ => (pe_tupF (pa_cons (pe_tupF (pa_cons (pv 4) pa_nil)) (pa_cons (pe_callTy (call_tupleG K rfl) (by rfl) T.n_tuple (by decide +kernel) (pa_cons (pe_lc (own := [("one", 5)]) rfl sc_law_wide.nd (pi_tupK K (pv 1)) (blkOk_by (own := [("one", 5)]) (N := ["feed", "inputs", "outputs", "functions", "output", "one"]) (sc := relS { kind := .function, names := [(".0", .local), ("output", .local), ("tuple", .globalImplicit), ("feed", .free), ("inputs", .free)], isGenerator := false, isCoroutine := false } (defScope s_law_wide)) (by decide +kernel)) (fun _ _ _ _ _ => (pg_name (i := 5) sc_law_wide.nd rfl (Or.inl rfl))) (fun _ _ _ _ _ => (pts_one (pt_cmpR op_eq (pe_call G_law_take (hr.mono (by decide)) rfl T.g__law_take T.k__law_take b_law_take .nil pass0 (pa_cons (pv 0) (pa_cons pe_int pa_nil))) pe_int (nomark _)))) (fun _ _ _ _ _ => (pv 5))) pa_nil)) pa_nil)))))
    (pss_one (ps_ret (pe_tupF (pa_cons (pv 1) (pa_cons (pv 2) (pa_cons (pe_callTy (call_tupleG K rfl) (by rfl) T.n_tuple (by decide +kernel) (pa_cons (pv 3) pa_nil)) pa_nil)))))))), ?_⟩
    refine .inr ⟨"abcdefgh", rfl, szl (by decide), fun t1 H1 s1 h1 => .inr ⟨"ijklmnop", rfl, szl (by decide), fun t2 H2 s2 h2 => ⟨szl (show 2 ≤ 100000 by decide), fun t3 H3 s3 h3 => ⟨t3, _, rfl, h3.sqt, rfl, _, _, rfl, _, _, rfl, rfl, ?_⟩⟩⟩⟩
    dsimp only
    rw [chs_map] at h1 h2
    have s13 := (s1.trans s2).trans s3
    have hi : KnT H3 t1 ((chs "abcdefgh").map V.str) := (h1.same s2).same s3
    have ho : KnT H3 t2 ((chs "ijklmnop").map V.str) := h2.same s3
    obtain ⟨hi8, hiT⟩ := key9 (chs "abcdefgh") (by decide +kernel)
    obtain ⟨ho8, hoT⟩ := key9 (chs "ijklmnop") (by decide +kernel)
    have hf3 := feed_same s13 hf
    revert hi ho hi8 hiT ho8 hoT
    generalize chs "abcdefgh" = i
    generalize chs "ijklmnop" = o
    intro hi ho hi8 hiT ho8 hoT
    -- functions
    refine asg (fun v H' => ∃ (l : Addr) (prs : List Fnc) (fs : List V), v = .ref l ∧ H' l = some (.lst fs) ∧ prs.length ≤ 8 ∧ (∀ f ∈ prs, (f.1.length ≤ 8 ∧ f.2.length ≤ 8) ∧ (∀ x ∈ f.1, OkT 9 x) ∧ ∀ x ∈ f.2, OkT 9 x) ∧ Paired (FnK H') prs fs ∧ SameX p H3 H' ∧ ∃ a b, FeedAt H' p a b) (fun Q' q => ?_) ?_
    · refine ⟨_, rfl, t2, rfl, ⟨_, ho.sqt⟩, fun D hD => lc_tup (K := K) (a := t2) (xs := o.map V.str) (fun j H' => SameX p H3 H' ∧ (∃ a b, FeedAt H' p a b) ∧ ∃ (prs : List Fnc) (fs : List V), H' D = some (.lst fs) ∧ prs.length ≤ j ∧ fs.length ≤ j ∧ (∀ f ∈ prs, (f.1.length ≤ 8 ∧ f.2.length ≤ 8) ∧ (∀ x ∈ f.1, OkT 9 x) ∧ ∀ x ∈ f.2, OkT 9 x) ∧ Paired (FnK H') prs fs) ⟨sx_new (sx_of (Same.refl H3)) hD, ⟨_, _, feed_new hf3 hD⟩, [], [], upd_same, Nat.le_refl _, Nat.le_refl _, fun f hf => (by cases hf), .nil⟩ (fun j H' _ h => (knt_sx ho h.1 hf3.1).sqt) ?_ ?_⟩
      · rintro j z H4 hz ⟨s4, ⟨a4, b4, hf4⟩, prs, fs, hfs, hpl, hfl, hok, hpf⟩
        obtain ⟨hj, e⟩ := List.getElem?_eq_some_iff.mp hz
        rw [List.length_map] at hj
        rw [List.getElem_map] at e
        subst e
        have nDp : D ≠ p := (ne_of_none hf3.1 hD).symm
        refine ⟨rfl, ?_⟩
        dsimp only [tYes]
        refine iteT ?_
        refine ⟨_, rfl, szl (show 1 ≤ 100000 by decide), fun w1 H5 s5 h5 => ?_⟩
        have hf5 := feed_same s5 hf4
        have hi5 : KnT H5 t1 (i.map V.str) := (knt_sx hi s4 hf3.1).same s5
        refine ⟨_, rfl, t1, rfl, ⟨_, hi5.sqt⟩, fun D2 hD2 => lc_tup (K := K) (a := t1) (xs := i.map V.str) (fun m H' => SameX p H5 H' ∧ (∃ a b, FeedAt H' p a b) ∧ ∃ ns : List Str, ns.Sublist (i.take m) ∧ H' D2 = some (.lst (ns.map V.str))) ⟨sx_new (sx_of (Same.refl H5)) hD2, ⟨_, _, feed_new hf5 hD2⟩, [], (by rw [List.take_zero]; exact List.Sublist.slnil), upd_same⟩ (fun m H' _ h => (knt_sx hi5 h.1 hf5.1).sqt) ?_ ?_⟩
        · rintro m u H7 hu ⟨s7, ⟨a7, b7, hf7⟩, ns, hns, h7⟩
          obtain ⟨hm, e⟩ := List.getElem?_eq_some_iff.mp hu
          rw [List.length_map] at hm
          rw [List.getElem_map] at e
          subst e
          have nDp : D2 ≠ p := (ne_of_none hf5.1 hD2).symm
          have em : i.take (m + 1) = i.take m ++ [i[m]] := by rw [List.take_add_one, List.getElem?_eq_getElem hm]; rfl
          refine ⟨rfl, ?_⟩
          refine ⟨_, rfl, p, 2, a7, b7, rfl, hf7, by decide, by decide, fun d a8 b8 h0 h1 hf8 => ⟨rfl, _, rfl, ?_⟩⟩
          have s8 : SameX p H5 (upd H7 p (.lst [.int a8, .int b8])) := sx_put s7
          have h8 : upd H7 p (.lst [.int a8, .int b8]) D2 = some (.lst (ns.map V.str)) := by rw [upd_ne nDp]; exact h7
          revert hf8 s8 h8
          generalize upd H7 p (.lst [.int a8, .int b8]) = H8
          intro hf8 s8 h8
          have hnl : ns.length < 1000 := by
            have h1 := hns.length_le
            rw [List.length_take] at h1
            omega
          refine ite2 (fun hc => ?_) (fun hc => ?_)
          · refine ⟨_, rfl, _, h8, szt (by rw [List.length_map]; omega), sx_mut s8 hD2, ⟨_, _, ⟨by rw [upd_ne nDp.symm]; exact hf8.1, hf8.2⟩⟩, ns ++ [i[m]], by rw [em]; exact hns.append (List.Sublist.refl _), by rw [upd_same, List.map_append]; rfl⟩
          · exact ⟨s8, ⟨_, _, hf8⟩, ns, by rw [em]; exact hns.trans (List.sublist_append_left _ _), h8⟩
        · rintro H7 ⟨s7, ⟨a7, b7, hf7⟩, ns, hns, h7⟩
          rw [List.length_map, List.take_length] at hns
          refine .inl ⟨D2, ns.map V.str, rfl, SqL.of h7, fun w2 H8 s8 h8 => ⟨szl (show 2 ≤ 100000 by decide), fun w3 H9 s9 h9 => ?_⟩⟩
          have s89 := s8.trans s9
          have s49 : SameX p H4 H9 := ((sx_of s5).trans s7).trans (sx_of s89)
          have hfs9 := s49 _ _ nDp hfs
          have hf9 := feed_same s89 hf7
          have k1 : KnT H9 w1 ([o[j]].map V.str) := (knt_sx h5 s7 hf5.1).same s89
          have k2 := h8.same s9
          have sf : SameX D H9 (upd H9 D (.lst (fs ++ [.ref w3]))) := sx_put (sx_of (Same.refl H9))
          have hpf9 := paired_imp (fun _ _ z => FnK.sx z s49 hf4.1) hpf
          refine ⟨_, hfs9, szt (by omega), sx_mut (s4.trans s49) hD, ⟨_, _, ⟨by rw [upd_ne nDp.symm]; exact hf9.1, hf9.2⟩⟩, prs ++ [([o[j]], ns)], fs ++ [.ref w3], upd_same, by rw [List.length_append, List.length_singleton]; omega, by rw [List.length_append, List.length_singleton]; omega, fun f hf => ?_, paired_snoc (paired_imp (fun _ _ z => z.sx sf hfs9) hpf9) (FnK.sx (H := H9) (f := ([o[j]], ns)) ⟨w3, w1, w2, rfl, h9, k1, k2⟩ sf hfs9)⟩
          rcases List.mem_append.mp hf with hf | hf
          · exact hok f hf
          · rw [List.mem_singleton.mp hf]
            exact ⟨⟨(show 1 ≤ 8 by decide), Nat.le_trans hns.length_le hi8⟩, fun x hx => by rw [List.mem_singleton.mp hx]; exact hoT _ (List.getElem_mem hj), fun x hx => hiT x (hns.subset hx)⟩
      · rintro H4 ⟨s4, hf4, prs, fs, hfs, hpl, hfl, hok, hpf⟩
        rw [List.length_map] at hpl
        exact q _ _ ⟨D, prs, fs, rfl, hfs, by omega, hok, hpf, s4, hf4⟩
    rintro _ H4 ⟨l, prs, fs, rfl, hfs, hpl, hok, hpf, s4, a4, b4, hf4⟩
    dsimp only [gName]
    refine ⟨_, rfl, _, rfl, _, rfl, .inl ⟨l, _, rfl, SqL.of hfs, fun w1 H7 t1' e1 => ⟨szl (show 3 ≤ 100000 by decide), fun w2 H8 t2' e2 => ?_⟩⟩⟩
    have t12 := t1'.trans t2'
    have hi8' := (knt_sx hi s4 hf3.1).same t12
    have ho8' := (knt_sx ho s4 hf3.1).same t12
    have hpf8 := paired_imp (fun _ _ z => FnK.same z t12) hpf
    have hfT : ∀ f ∈ prs, (∀ x ∈ f.1, OkT 9 x) ∧ ∀ x ∈ f.2, OkT 9 x := fun f hf => (hok f hf).2
    refine k _ _ i o prs a4 b4 (((sx_of s13).trans s4).trans (sx_of t12)) (feed_same t12 hf4) ?_ ⟨hi8, ho8, hpl, fun f hf => (hok f hf).1, hiT, hoT, hfT⟩
    exact both_tup e2 (both_cons (both_tx hi8' hiT) (both_cons (both_tx ho8' hoT) (both_cons (both_tup (e1.same t2') (fns_both hpf8 hfT)) both_nil)))

end
end K22

set_option maxRecDepth 100000
set_option maxHeartbeats 4000000
namespace K22
open PySem L2 Ly Od
local macro_rules | `(tactic| walk_at "nx") => `(tactic| dsimp only [tNext])
section
variable {P : Program} {w : World} {K : PySem.W.Frag} {mg : Str → Option Value} {base : Heap} {ad : Adr}
theorem any_weak {S S' : Addr → Prop} {H : Hp} {n w : Nat} {v : V} (h : AnyV S H n w v) (f : ∀ q, S' q → S q) : AnyV S' H n w v := let ⟨b, d, h1, h2⟩ := h; ⟨b, d, h1.weak f, h2⟩
theorem lsts_mono {p : Addr} {H H' : Hp} {bs : List V} (s : SameX p H H') (hp : H' p = some (.lst bs)) : ∀ q, Lsts H q → Lsts H' q := fun q ⟨cs, e⟩ => by
  by_cases h : q = p
  · exact ⟨bs, by rw [h]; exact hp⟩
  · exact ⟨cs, s _ _ h e⟩
theorem lsts_same {H H' : Hp} (s : Same H H') : ∀ q, Lsts H q → Lsts H' q := fun q ⟨cs, e⟩ => ⟨cs, s _ _ e⟩
theorem both_any {S : Addr → Prop} {H : Hp} {n w : Nat} {v : V} {d : PyData} (h : Both H v d) (k : Rq n w d) : AnyV S H n w v := ⟨true, d, h S true, k⟩
theorem any_two {S : Addr → Prop} {H : Hp} {n w j : Nat} {c : Addr} {a b v : V} {da db : PyData} (hc : KnT H c ([a, b].set j v)) (ha : Both H a da) (hb : Both H b db) (qa : Rq n w da) (qb : Rq n w db) (hv : AnyV S H n w v) : AnyV S H (n + 1) ((w + 1) * 2) (.ref c) := by
  obtain ⟨bb, d, hd, hq⟩ := hv
  have h2 : DqAll S H bb [a, b] [da, db] := .cons (ha S bb) (.cons (hb S bb) (.nil _))
  refine any_tup (n := n) (w := w) (m := 2) hc (h2.set j hd) (fun e he => ?_) (by rw [List.length_set]; exact Nat.le_refl _)
  rcases List.mem_or_eq_of_mem_set he with he | he
  · rcases List.mem_cons.mp he with rfl | he
    · exact qa
    · rw [List.mem_singleton.mp he]
      exact qb
  · rw [he]
    exact hq
theorem tup2 {α : Type} : ∀ {l : List α}, l.length = 2 → ∃ a b, l = [a, b]
  | [a, b], _ => ⟨a, b, rfl⟩
  | [], h => (by cases h)
  | [_], h => (by simp at h)
  | _ :: _ :: _ :: _, h => (by simp at h)
theorem put_any {S : Addr → Prop} {H : Hp} {n w d : Nat} {c : Addr} {v : V} {xs : List V} {ds : List PyData} (hB : BothAll H xs ds) (hv : AnyV S H n w v) (hc : KnT H c (xs.take d ++ [v] ++ xs.drop (d + 1))) (hq : ∀ e ∈ ds, Rq n w e) (hl : ds.length ≤ 8) : AnyV S H (n + 1) ((w + 1) * 9) (.ref c) := by
  obtain ⟨bb, e, he, hr⟩ := hv
  have hA := hB S bb
  refine any_tup (m := 9) hc (((hA.take d).app (.cons he (.nil _))).app (hA.drop (d + 1))) (fun x hx => ?_) ?_
  · rcases List.mem_append.mp hx with hx | hx
    · rcases List.mem_append.mp hx with hx | hx
      · exact hq x (List.mem_of_mem_take hx)
      · rw [List.mem_singleton.mp hx]
        exact hr
    · exact hq x (List.mem_of_mem_drop hx)
  · rw [List.length_append, List.length_append, List.length_take, List.length_drop, List.length_singleton]
    omega
theorem sc_law_bent : FnScope ["feed", "value", "parts", "at", "k", "function", "side"] ["feed", "value"] (defScope s_law_bent) := ⟨rfl, rfl, rfl, by decide +kernel, rfl, by decide +kernel, by decide +kernel⟩
theorem ok_bent {f : Addr} {fd fdt fdp fdb : FuncData} (F : Fun K "_law_bent" "_law_bent" s_law_bent f fd) (T : Txt K w mg ad) (G_law_take : FnOk P w K mg base CX0 1 ad.f_law_take fdt ["feed", "size"] spTake) (b_law_take : Binds K fdt ["feed", "size"] [])
    (G_law_pick : FnOk P w K mg base CX0 2 ad.f_law_pick fdp ["feed", "choices"] (spPick K)) (b_law_pick : Binds K fdp ["feed", "choices"] [])
    (G_law_bent_tuple : FnOk P w K mg base CX0 3 ad.f_law_bent_tuple fdb ["feed", "value"] spBentT) (b_law_bent_tuple : Binds K fdb ["feed", "value"] []) : FnOk P w K mg base CX0 4 f fd ["feed", "value"] spBent := by
  refine F.ok sc_law_bent (fun vs H Q E h => ?_) (fun cdv A outer s H vs Q E hr h => ?_)
  · obtain ⟨p, v, i, o, fs, a, b, rfl, _⟩ := h
    rfl
  · obtain ⟨p, v, i, o, fs, a, b, rfl, hf, hv, hm, k⟩ := h
    refine ⟨_, (pss_cons (ps_set (i := 2) sc_law_bent.nd rfl (Or.inl rfl) (pe_callTy call_list_of (by rfl) T.n_list (by decide +kernel) (pa_cons (pv 1) pa_nil)))
    (pss_cons (ps_set (i := 3) sc_law_bent.nd rfl (Or.inl rfl) (pe_call G_law_take (hr.mono (by decide)) rfl T.g__law_take T.k__law_take b_law_take .nil pass0 (pa_cons (pv 0) (pa_cons pe_int pa_nil))))
    (pss_cons (ps_if (PW.pt (pw_and (pt_cmpR op_lt (pv 3) pe_int (nomark _)) (pw_and1 (pt_val (pe_callB (call_isiK K) (by rfl) T.n_isinstance (by decide +kernel) (pa_cons (pe_ix (ix_listK K) (pv 2) (pv 3) (fun _ _ => rfl)) (pa_cons (pe_bltn (v := .ty "tuple") rfl T.n_tuple (by decide +kernel) rfl) pa_nil))))))) (pss_one (ps_asg (pe_call G_law_bent_tuple (hr.mono (by decide)) rfl T.g__law_bent_tuple T.k__law_bent_tuple b_law_bent_tuple .nil pass0 (pa_cons (pv 0) (pa_cons (pe_ix (ix_listK K) (pv 2) (pv 3) (fun _ _ => rfl)) pa_nil))) (pg_sub (pv 2) (pv 3) set_list))) (pss_one (ps_if (PW.pt (pw_and (pt_cmpR op_eq (pv 3) pe_int (nomark _)) (pw_and (pt_val (pe_callB (call_isiK K) (by rfl) T.n_isinstance (by decide +kernel) (pa_cons (pe_ix (ix_listK K) (pv 2) pe_int (fun _ _ => rfl)) (pa_cons (pe_bltn (v := .ty "tuple") rfl T.n_tuple (by decide +kernel) rfl) pa_nil)))) (pw_and1 (pt_cmpR (op_neDK K hr.units) (pe_ix (ix_listK K) (pv 2) pe_int (fun _ _ => rfl)) (pe_tupF pa_nil) (nomark _)))))) (pss_cons (ps_set (i := 4) sc_law_bent.nd rfl (Or.inl rfl) (pe_call G_law_take (hr.mono (by decide)) rfl T.g__law_take T.k__law_take b_law_take .nil pass0 (pa_cons (pv 0) (pa_cons (pe_callB (call_lenK K) (by rfl) T.n_len (by decide +kernel) (pa_cons (pe_ix (ix_listK K) (pv 2) pe_int (fun _ _ => rfl)) pa_nil)) pa_nil))))
    (pss_cons (ps_set (i := 5) sc_law_bent.nd rfl (Or.inl rfl) (pe_callTy call_list_of (by rfl) T.n_list (by decide +kernel) (pa_cons (pe_ix (ix_tupK K) (pe_ix (ix_listK K) (pv 2) pe_int (fun _ _ => rfl)) (pv 4) (fun _ _ => rfl)) pa_nil)))
    (pss_cons (ps_set (i := 6) sc_law_bent.nd rfl (Or.inl rfl) (pe_call G_law_take (hr.mono (by decide)) rfl T.g__law_take T.k__law_take b_law_take .nil pass0 (pa_cons (pv 0) (pa_cons pe_int pa_nil))))
    (pss_cons (ps_if (pt_cmpR op_lt (pv 6) pe_int (nomark _)) (pss_one (ps_asg (pe_call G_law_bent_tuple (hr.mono (by decide)) rfl T.g__law_bent_tuple T.k__law_bent_tuple b_law_bent_tuple .nil pass0 (pa_cons (pv 0) (pa_cons (pe_ix (ix_listK K) (pv 5) (pv 6) (fun _ _ => rfl)) pa_nil))) (pg_sub (pv 5) (pv 6) set_list))) pss_nil)
    (pss_cons (ps_set (i := 5) sc_law_bent.nd rfl (Or.inl rfl) (pe_callTy (call_tupleG K rfl) (by rfl) T.n_tuple (by decide +kernel) (pa_cons (pv 5) pa_nil)))
    (pss_cons (ps_if (pt_cmpR op_eq (pv 6) pe_int (nomark _)) (pss_one (ps_set (i := 5) sc_law_bent.nd rfl (Or.inl rfl) (pe_call G_law_pick (hr.mono (by decide)) rfl T.g__law_pick T.k__law_pick b_law_pick .nil pass0 (pa_cons (pv 0) (pa_cons (pe_lst (pa_cons (pe_op op_catF (pv 5) (pe_tupF (pa_cons pe_int pa_nil))) (pa_cons (pe_callTy call_list_of (by rfl) T.n_list (by decide +kernel) (pa_cons (pv 5) pa_nil)) (pa_cons (pe_slice sl_tupF (pv 5) po_none (po_some pe_int)) (pa_cons (pe_op op_catF (pv 5) (pv 5)) pa_nil))))) pa_nil))))) pss_nil)
    (pss_one (ps_asg (pe_op op_catF (pe_op op_catF (pe_slice sl_tupF (pe_ix (ix_listK K) (pv 2) pe_int (fun _ _ => rfl)) po_none (po_some (pv 4))) (pe_tupF (pa_cons (pv 5) pa_nil))) (pe_slice sl_tupF (pe_ix (ix_listK K) (pv 2) pe_int (fun _ _ => rfl)) (po_some (pe_op op_add (pv 4) pe_int)) po_none)) (pg_sub (pv 2) pe_int set_list))))))))) (pss_one (ps_ret (pe_call G_law_bent_tuple (hr.mono (by decide)) rfl T.g__law_bent_tuple T.k__law_bent_tuple b_law_bent_tuple .nil pass0 (pa_cons (pv 0) (pa_cons (pe_callTy (call_tupleG K rfl) (by rfl) T.n_tuple (by decide +kernel) (pa_cons (pv 2) pa_nil)) pa_nil))))))))
    (pss_one (ps_ret (pe_callTy (call_tupleG K rfl) (by rfl) T.n_tuple (by decide +kernel) (pa_cons (pv 2) pa_nil))))))), ?_⟩
    obtain ⟨t, xs, rfl, hX, hA⟩ := hv.tup_inv
    have hxl : xs.length = 3 := (hA (fun _ => True) true).len
    obtain ⟨va, vb, vc, rfl⟩ := tup3 hxl
    obtain ⟨_, e0, hva⟩ := hA.get (i := 0) (v := va) rfl
    obtain ⟨_, e1, hvb⟩ := hA.get (i := 1) (v := vb) rfl
    obtain ⟨_, e2, hvc⟩ := hA.get (i := 2) (v := vc) rfl
    cases e0
    cases e1
    cases e2
    obtain ⟨ta, ixs, rfl, hKa, hBa⟩ := hva.tup_inv
    obtain ⟨tb, oxs, rfl, hKb, hBb⟩ := hvb.tup_inv
    obtain ⟨tc, cxs, rfl, hKc, hBc⟩ := hvc.tup_inv
    have hcl : cxs.length = fs.length := by rw [(hBc (fun _ => True) true).len, List.length_map]
    -- parts
    refine ⟨_, rfl, t, _, rfl, .inr hX.sqt, fun l hl => ?_⟩
    have nlp : l ≠ p := (ne_of_none hf.1 hl).symm
    have t1 := same_new (o := .lst [V.ref ta, .ref tb, .ref tc]) hl
    have hl1 : upd H l (.lst [V.ref ta, .ref tb, .ref tc]) l = some (.lst [V.ref ta, .ref tb, .ref tc]) := upd_same
    dsimp only [gName]
    have hf1 := feed_same t1 hf
    revert hf1 hl1 t1
    generalize upd H l (.lst [V.ref ta, .ref tb, .ref tc]) = H1
    intro t1 hl1 hf1
    -- the end: parts with one thing changed
    have fin : ∀ (j : Nat) (v' : V) (H' : Hp) (a' b' : Int), SameX p H H' → FeedAt H' p a' b' → AnyV (Lsts H) H' 5 3429 v' → H' l = some (.lst ([V.ref ta, .ref tb, .ref tc].set j v')) →
        ∃ p_1 ys, [V.ref l] = [V.ref p_1] ∧ SqL K H' p_1 ys ∧ NewT H' ys Q := fun j v' H' a' b' s hf' hav hlj => by
      refine ⟨l, _, rfl, SqL.of hlj, fun c H'' u hc => ?_⟩
      obtain ⟨bb, d, hd, hq⟩ := hav
      have hA' := (hA.sx s hf.1 (Lsts H) bb).set j hd
      refine k _ _ a' b' (s.trans (sx_of u)) (feed_same u hf') ((any_tup (n := 5) (w := 3429) (m := 3) hc (DqAll.same u hA') (fun e he => ?_) (by rw [List.length_set]; exact Nat.le_refl _)).mono (by decide) (by decide))
      rcases List.mem_or_eq_of_mem_set he with he | he
      · rcases List.mem_cons.mp he with rfl | he
        · exact (rq_tx hm.i8 hm.ni).mono (by decide) (by decide)
        · rcases List.mem_cons.mp he with rfl | he
          · exact (rq_tx hm.o8 hm.no).mono (by decide) (by decide)
          · rw [List.mem_singleton.mp he]
            exact hm.pf.mono (by decide) (by decide)
      · rw [he]
        exact hq
    -- the whole bent
    have whole : ∀ (H2 : Hp) (a2 b2 : Int), SameX p H H2 → FeedAt H2 p a2 b2 → H2 l = some (.lst [V.ref ta, .ref tb, .ref tc]) →
        ∃ p_1 ys, [V.ref l] = [V.ref p_1] ∧ SqL K H2 p_1 ys ∧ NewT H2 ys (fun v H3 => spBentT [.ref p, v] H3 Q E0) := fun H2 a2 b2 s hf2 hl2 => by
      refine ⟨l, _, rfl, SqL.of hl2, fun c H3 u hc => ?_⟩
      refine ⟨p, c, _, [dTx i, dTx o, .tuple (fs.map dFn)], 3, 1304, a2, b2, rfl, feed_same u hf2, hc, (hA.sx s hf.1).same u, (show 3 ≤ 8 by decide), fun d hd => ?_, by decide, by decide, fun v' H' a' b' s' hf' hav => k _ _ a' b' ((s.trans (sx_of u)).trans s') hf' ((any_weak hav (fun q z => lsts_same u q (lsts_mono s hf2.1 q z))).mono (by decide) (by decide))⟩
      rcases List.mem_cons.mp hd with rfl | hd
      · exact (rq_tx hm.i8 hm.ni).mono (by decide) (by decide)
      · rcases List.mem_cons.mp hd with rfl | hd
        · exact (rq_tx hm.o8 hm.no).mono (by decide) (by decide)
        · rw [List.mem_singleton.mp hd]
          exact hm.pf
    -- at
    refine asg (fun v H' => ∃ d : Int, v = .int d ∧ 0 ≤ d ∧ d < 5 ∧ SameX p H1 H' ∧ ∃ a b, FeedAt H' p a b) (fun Q' q => ?_) ?_
    · refine ⟨_, rfl, p, 5, a, b, rfl, hf1, by decide, by decide, fun d a1 b1 h0 h1 hf2 => ?_⟩
      exact q _ _ ⟨d, rfl, h0, h1, sx_put (sx_of (Same.refl H1)), _, _, hf2⟩
    rintro _ H2 ⟨d, rfl, hd0, hd5, s2, a2, b2, hf2⟩
    dsimp only [gName]
    have s02 := (sx_of t1).trans s2
    have hl2 := s2 _ _ nlp hl1
    -- a tuple of parts bent
    have three : ∀ (tj : Addr) (ys : List V) (ds : List PyData) (n w : Nat), KnT H tj ys → BothAll H ys ds → ds.length ≤ 8 → (∀ d ∈ ds, Rq n w d) → 2 ≤ n → 20 ≤ w → n + 1 ≤ 5 → (w + 1) * 9 ≤ 3429 → (R : V → Hp → Prop) → (∀ v' H3 a3 b3, SameX p H H3 → FeedAt H3 p a3 b3 → H3 l = some (.lst [V.ref ta, .ref tb, .ref tc]) → (∀ xs, AnyV (Lsts H) (upd H3 l (.lst xs)) 5 3429 v') → R v' H3) →
        spBentT [.ref p, .ref tj] H2 R E0 := fun tj ys ds n w h1 h2 h3 h4 h5 h6 h7 h8 R hR => by
      refine ⟨p, tj, ys, ds, n, w, a2, b2, rfl, hf2, knt_sx h1 s02 hf.1, h2.sx s02 hf.1, h3, h4, h5, h6, fun v' H3 a3 b3 s3 hf3 hav => hR v' H3 a3 b3 (s02.trans s3) hf3 (s3 _ _ nlp hl2) fun xs => ?_⟩
      have s4 : SameX l H3 (upd H3 l (.lst xs)) := sx_put (sx_of (Same.refl H3))
      exact (any_weak (hav.sx s4 (s3 _ _ nlp hl2) ⟨_, hl2⟩) (lsts_mono s02 hf2.1)).mono h7 h8
    have cs : d = 0 ∨ d = 1 ∨ d = 2 ∨ d = 3 ∨ d = 4 := by omega
    rcases cs with rfl | rfl | rfl | rfl | rfl
    · refine ⟨_, rfl, _, _, rfl, rfl, _, rfl, iteT ?_⟩
      refine ⟨_, rfl, _, rfl, l, _, _, _, rfl, rfl, SqL.of hl2, atI_nat (j := 0) rfl, .ref ta, .ty "tuple", .type "tuple", .type "tuple", true, rfl, .ty _, (knt_sx hKa s02 hf.1).ty, kit_tup, _, rfl, iteT ?_⟩
      refine ⟨_, rfl, _, rfl, _, rfl, l, _, _, _, rfl, rfl, SqL.of hl2, atI_nat (j := 0) rfl, ?_⟩
      refine three ta ixs _ 2 20 hKa hBa (by rw [List.length_map]; exact hm.i8) (fun d hd => ?_) (by decide) (by decide) (by decide) (by decide) _ fun v' H3 a3 b3 s3 hf3 hl3 hav => ?_
      · obtain ⟨x, hx, rfl⟩ := List.mem_map.mp hd
        exact (rq_s (m := 2) (hm.ni x hx)).mono (by decide) (by decide)
      refine ⟨_, rfl, _, rfl, l, _, _, 0, rfl, rfl, hl3, rfl, ?_⟩
      walk_at "nx"
      exact ⟨_, rfl, .inl (fin 0 v' _ a3 b3 (sx_mut s3 hl) ⟨by rw [upd_ne nlp.symm]; exact hf3.1, hf3.2⟩ (hav _) upd_same)⟩
    · refine ⟨_, rfl, _, _, rfl, rfl, _, rfl, iteT ?_⟩
      refine ⟨_, rfl, _, rfl, l, _, _, _, rfl, rfl, SqL.of hl2, atI_nat (j := 1) rfl, .ref tb, .ty "tuple", .type "tuple", .type "tuple", true, rfl, .ty _, (knt_sx hKb s02 hf.1).ty, kit_tup, _, rfl, iteT ?_⟩
      refine ⟨_, rfl, _, rfl, _, rfl, l, _, _, _, rfl, rfl, SqL.of hl2, atI_nat (j := 1) rfl, ?_⟩
      refine three tb oxs _ 2 20 hKb hBb (by rw [List.length_map]; exact hm.o8) (fun d hd => ?_) (by decide) (by decide) (by decide) (by decide) _ fun v' H3 a3 b3 s3 hf3 hl3 hav => ?_
      · obtain ⟨x, hx, rfl⟩ := List.mem_map.mp hd
        exact (rq_s (m := 2) (hm.no x hx)).mono (by decide) (by decide)
      refine ⟨_, rfl, _, rfl, l, _, _, 1, rfl, rfl, hl3, rfl, ?_⟩
      walk_at "nx"
      exact ⟨_, rfl, .inl (fin 1 v' _ a3 b3 (sx_mut s3 hl) ⟨by rw [upd_ne nlp.symm]; exact hf3.1, hf3.2⟩ (hav _) upd_same)⟩
    · refine ⟨_, rfl, _, _, rfl, rfl, _, rfl, iteT ?_⟩
      refine ⟨_, rfl, _, rfl, l, _, _, _, rfl, rfl, SqL.of hl2, atI_nat (j := 2) rfl, .ref tc, .ty "tuple", .type "tuple", .type "tuple", true, rfl, .ty _, (knt_sx hKc s02 hf.1).ty, kit_tup, _, rfl, iteT ?_⟩
      refine ⟨_, rfl, _, rfl, _, rfl, l, _, _, _, rfl, rfl, SqL.of hl2, atI_nat (j := 2) rfl, ?_⟩
      refine three tc cxs _ 2 162 hKc hBc (by rw [List.length_map]; exact hm.f8) hm.fn (by decide) (by decide) (by decide) (by decide) _ fun v' H3 a3 b3 s3 hf3 hl3 hav => ?_
      refine ⟨_, rfl, _, rfl, l, _, _, 2, rfl, rfl, hl3, rfl, ?_⟩
      walk_at "nx"
      exact ⟨_, rfl, .inl (fin 2 v' _ a3 b3 (sx_mut s3 hl) ⟨by rw [upd_ne nlp.symm]; exact hf3.1, hf3.2⟩ (hav _) upd_same)⟩
    · -- within the profile
      refine ⟨_, rfl, _, _, rfl, rfl, _, rfl, iteF (iteF ?_)⟩
      refine ⟨_, rfl, rfl, _, rfl, iteT ?_⟩
      have hKc2 := knt_sx hKc s02 hf.1
      refine ⟨_, rfl, l, _, _, _, rfl, rfl, SqL.of hl2, atI_nat (j := 2) rfl, .ref tc, .ty "tuple", .type "tuple", .type "tuple", true, rfl, .ty _, hKc2.ty, kit_tup, _, rfl, iteT ?_⟩
      refine ⟨_, rfl, l, _, _, _, rfl, rfl, SqL.of hl2, atI_nat (j := 2) rfl, szl (Nat.zero_le _), fun e H3 u3 he => ?_⟩
      refine ⟨.tuple (fs.map dFn), .tuple [], ((hvc.sx s02 hf.1).same u3 (fun _ => True) true).dp, .tup he.sqt .nil, hm.shp, rfl, _, rfl, ?_⟩
      rw [eqv_nilT]
      have s03 := s02.trans (sx_of u3)
      have hf3 := feed_same u3 hf2
      have hl3 := u3 _ _ hl2
      by_cases hn : fs.map dFn = []
      · rw [decide_eq_true hn]
        refine iteF ?_
        exact ⟨_, rfl, _, rfl, .inl (whole H3 _ _ s03 hf3 hl3)⟩
      rw [decide_eq_false hn]
      refine iteT ?_
      have hfp : 0 < fs.length := by
        cases fs with
        | nil => exact absurd rfl hn
        | cons f r => exact Nat.succ_pos _
      have hf8' := hm.f8
      -- k
      refine asg (fun v H' => ∃ d : Nat, v = .int d ∧ d < fs.length ∧ SameX p H3 H' ∧ ∃ a b, FeedAt H' p a b) (fun Q' q => ?_) ?_
      · refine ⟨_, rfl, _, rfl, l, _, _, _, rfl, rfl, SqL.of hl3, atI_nat (j := 2) rfl, tc, cxs, rfl, .inr (knt_sx hKc s03 hf.1).sqt, p, _, _, _, rfl, hf3, by omega, by omega, fun d a4 b4 h0 h1 hf4 => ?_⟩
        obtain ⟨d, rfl⟩ := Int.eq_ofNat_of_zero_le h0
        exact q _ _ ⟨d, rfl, by omega, sx_put (sx_of (Same.refl H3)), _, _, hf4⟩
      rintro _ H4 ⟨kk, rfl, hkk, s4, a4, b4, hf4⟩
      dsimp only [gName]
      have s04 := s03.trans s4
      have hl4 := s4 _ _ nlp hl3
      have ek : ((kk : Nat) : Int) + 1 = ((kk + 1 : Nat) : Int) := by omega
      -- the function
      obtain ⟨z, hz⟩ : ∃ z, cxs[kk]? = some z := ⟨_, List.getElem?_eq_getElem (by omega)⟩
      obtain ⟨df, hdf, hzB⟩ := hBc.get hz
      rw [List.getElem?_map] at hdf
      obtain ⟨fn, hfn, rfl⟩ := Option.map_eq_some_iff.mp hdf
      have hfnm := List.mem_of_getElem? hfn
      obtain ⟨q, qs, rfl, hKq, hBq⟩ := hzB.tup_inv
      have hql : qs.length = 2 := (hBq (fun _ => True) true).len
      obtain ⟨va, vb, rfl⟩ := tup2 hql
      obtain ⟨_, e0, hQa⟩ := hBq.get (i := 0) (v := va) rfl
      obtain ⟨_, e1, hQb⟩ := hBq.get (i := 1) (v := vb) rfl
      cases e0
      cases e1
      obtain ⟨qa, as, rfl, hKqa, hBqa⟩ := hQa.tup_inv
      obtain ⟨qb, bs, rfl, hKqb, hBqb⟩ := hQb.tup_inv
      have rqA : Rq 1 80 (dTx fn.1) := rq_tx (hm.fl fn hfnm).1 (hm.nf fn hfnm).1
      have rqB : Rq 1 80 (dTx fn.2) := rq_tx (hm.fl fn hfnm).2 (hm.nf fn hfnm).2
      have s05 := s04
      refine ⟨_, rfl, l, _, _, _, rfl, rfl, SqL.of hl4, atI_nat (j := 2) rfl, _, rfl, tc, _, _, _, rfl, rfl, (knt_sx hKc s04 hf.1).sqt, atI_nat (j := kk) hz, q, _, rfl, .inr (knt_sx hKq s04 hf.1).sqt, fun fl hfl => ?_⟩
      dsimp only [gName]
      have t6 := same_new (o := .lst [V.ref qa, .ref qb]) hfl
      have nfp : fl ≠ p := (ne_of_none hf4.1 hfl).symm
      have nlf : l ≠ fl := ne_of_none hl4 hfl
      have hf6 := feed_same t6 hf4
      have hl6 := t6 _ _ hl4
      have hfl6 : upd H4 fl (.lst [V.ref qa, .ref qb]) fl = some (.lst [V.ref qa, .ref qb]) := upd_same
      have hflH : H fl = none := by
        cases e : H fl with
        | none => rfl
        | some u => rw [s04 _ _ nfp e] at hfl; cases hfl
      revert hf6 hl6 hfl6 t6
      generalize upd H4 fl (.lst [V.ref qa, .ref qb]) = H6
      intro t6 hf6 hl6 hfl6
      have s06 := s05.trans (sx_of t6)
      have hS6l : Lsts H6 l := ⟨_, hl6⟩
      have mono6 : ∀ q, Lsts H q → Lsts H6 q := lsts_mono s06 hf6.1
      -- side
      refine asg (fun v H' => ∃ d : Int, v = .int d ∧ 0 ≤ d ∧ d < 3 ∧ SameX p H6 H' ∧ ∃ a b, FeedAt H' p a b) (fun Q' q => ?_) ?_
      · refine ⟨_, rfl, p, 3, _, _, rfl, hf6, by decide, by decide, fun d a1 b1 h0 h1 hf7 => ?_⟩
        exact q _ _ ⟨d, rfl, h0, h1, sx_put (sx_of (Same.refl H6)), _, _, hf7⟩
      rintro _ H7 ⟨d, rfl, hd0, hd3, s7, a7, b7, hf7⟩
      dsimp only [gName]
      have hfl7 := s7 _ _ nfp hfl6
      have cs : d = 0 ∨ d = 1 ∨ d = 2 := by omega
      rcases cs with rfl | rfl | rfl
      · refine ⟨_, rfl, _, _, rfl, rfl, _, rfl, iteT ?_⟩
        refine ⟨_, rfl, _, rfl, _, rfl, fl, _, _, _, rfl, rfl, SqL.of hfl7, atI_nat (j := 0) rfl, ?_⟩
        refine ⟨p, qa, _, _, 2, 20, _, _, rfl, hf7, knt_sx (hKqa) (s06.trans s7) hf.1, hBqa.sx (s06.trans s7) hf.1, by rw [List.length_map]; exact (hm.fl fn hfnm).1, fun d hd => ?_, by decide, by decide, fun v' H8 a8 b8 s8 hf8 hav => ?_⟩
        · obtain ⟨x, hx, rfl⟩ := List.mem_map.mp hd
          exact (rq_s (m := 2) ((hm.nf fn hfnm).1 x hx)).mono (by decide) (by decide)
        have hfl8 := s8 _ _ nfp hfl7
        refine ⟨_, rfl, _, rfl, fl, _, _, 0, rfl, rfl, hfl8, rfl, ?_⟩
        walk_at "nx"
        have s67 := s7.trans s8
        have hav := any_weak (hav.sx (p := fl) (sx_put (o := .lst ([V.ref qa, .ref qb].set 0 v')) (sx_of (Same.refl H8))) hfl8 ⟨_, hfl7⟩) (lsts_mono s7 hf7.1)
        have sP : SameX p H (upd H8 fl (.lst ([V.ref qa, .ref qb].set 0 v'))) := sx_mut ((s05.trans (sx_of t6)).trans s67) hflH
        have hlP : upd H8 fl (.lst ([V.ref qa, .ref qb].set 0 v')) l = some (.lst [V.ref ta, .ref tb, .ref tc]) := by rw [upd_ne nlf]; exact s67 _ _ nlp hl6
        have hfP : FeedAt (upd H8 fl (.lst ([V.ref qa, .ref qb].set 0 v'))) p a8 b8 := ⟨by rw [upd_ne nfp.symm]; exact hf8.1, hf8.2⟩
        have hflP : upd H8 fl (.lst ([V.ref qa, .ref qb].set 0 v')) fl = some (.lst ([V.ref qa, .ref qb].set 0 v')) := upd_same
        revert hav sP hlP hfP hflP
        generalize upd H8 fl (.lst ([V.ref qa, .ref qb].set 0 v')) = H9
        intro hav sP hlP hfP hflP
        refine ⟨_, rfl, .inl ⟨fl, _, rfl, SqL.of hflP, fun cf G uG kG => ?_⟩⟩
        dsimp only [gName]
        have sG := sP.trans (sx_of uG)
        have hlG := uG _ _ hlP
        have hfG := feed_same uG hfP
        have hKcG := knt_sx hKc sG hf.1
        have havG : AnyV (Lsts H6) G 4 380 (.ref cf) := (any_two (n := 3) (w := 189) (j := 0) kG (hQa.sx sG hf.1) (hQb.sx sG hf.1) (rqA.mono (by decide) (by decide)) (rqB.mono (by decide) (by decide)) (hav.same uG)).mono (by decide) (by decide)
        refine ⟨_, rfl, rfl, _, rfl, iteF ?_⟩
        walk_at "nx"

        -- put into the profile
        refine ⟨_, rfl, l, _, _, _, rfl, rfl, SqL.of hlG, atI_nat (j := 2) rfl, _, rfl, _, rfl, tc, cxs, rfl, hKcG, fun c1 G1 u1 k1 => ?_⟩
        rw [cut_to] at k1
        refine ⟨_, rfl, szl (show 1 ≤ 100000 by decide), fun c2 G2 u2 k2 => ⟨c1, c2, _, _, rfl, rfl, k1.same u2, k2, szl (by rw [List.length_take]; simp; omega), fun c3 G3 u3 k3 => ?_⟩⟩
        have u13 := (u1.trans u2).trans u3
        refine ⟨_, rfl, l, _, _, _, rfl, rfl, SqL.of (u13 _ _ hlG), atI_nat (j := 2) rfl, _, rfl, _, _, rfl, rfl, _, rfl, tc, cxs, rfl, hKcG.same u13, fun c4 G4 u4 k4 => ?_⟩
        rw [ek, Od.cut_from] at k4
        refine ⟨c3, c4, _, _, rfl, rfl, k3.same u4, k4, szl (by rw [List.length_append, List.length_take, List.length_drop]; simp; omega), fun c5 G5 u5 k5 => ?_⟩
        have u15 := (u13.trans u4).trans u5
        have hl5 := u15 _ _ hlG
        refine ⟨_, rfl, l, _, _, 2, rfl, rfl, hl5, rfl, ?_⟩
        walk_at "nx"
        have av5 := put_any (S := Lsts H6) (hBc.sx (sG.trans (sx_of u15)) hf.1) (havG.same u15) k5 (fun d hd => (hm.fn d hd).mono (by decide) (by decide)) (by rw [List.length_map]; exact hm.f8)
        have av6 := any_weak (av5.sx (p := l) (sx_put (o := .lst ([V.ref ta, .ref tb, .ref tc].set 2 (.ref c5))) (sx_of (Same.refl G5))) hl5 hS6l) mono6
        have hf5 := feed_same u15 hfG
        exact ⟨_, rfl, .inl (fin 2 (.ref c5) _ _ _ (sx_mut (sG.trans (sx_of u15)) hl) ⟨by rw [upd_ne nlp.symm]; exact hf5.1, hf5.2⟩ av6 upd_same)⟩
      · refine ⟨_, rfl, _, _, rfl, rfl, _, rfl, iteT ?_⟩
        refine ⟨_, rfl, _, rfl, _, rfl, fl, _, _, _, rfl, rfl, SqL.of hfl7, atI_nat (j := 1) rfl, ?_⟩
        refine ⟨p, qb, _, _, 2, 20, _, _, rfl, hf7, knt_sx (hKqb) (s06.trans s7) hf.1, hBqb.sx (s06.trans s7) hf.1, by rw [List.length_map]; exact (hm.fl fn hfnm).2, fun d hd => ?_, by decide, by decide, fun v' H8 a8 b8 s8 hf8 hav => ?_⟩
        · obtain ⟨x, hx, rfl⟩ := List.mem_map.mp hd
          exact (rq_s (m := 2) ((hm.nf fn hfnm).2 x hx)).mono (by decide) (by decide)
        have hfl8 := s8 _ _ nfp hfl7
        refine ⟨_, rfl, _, rfl, fl, _, _, 1, rfl, rfl, hfl8, rfl, ?_⟩
        walk_at "nx"
        have s67 := s7.trans s8
        have hav := any_weak (hav.sx (p := fl) (sx_put (o := .lst ([V.ref qa, .ref qb].set 1 v')) (sx_of (Same.refl H8))) hfl8 ⟨_, hfl7⟩) (lsts_mono s7 hf7.1)
        have sP : SameX p H (upd H8 fl (.lst ([V.ref qa, .ref qb].set 1 v'))) := sx_mut ((s05.trans (sx_of t6)).trans s67) hflH
        have hlP : upd H8 fl (.lst ([V.ref qa, .ref qb].set 1 v')) l = some (.lst [V.ref ta, .ref tb, .ref tc]) := by rw [upd_ne nlf]; exact s67 _ _ nlp hl6
        have hfP : FeedAt (upd H8 fl (.lst ([V.ref qa, .ref qb].set 1 v'))) p a8 b8 := ⟨by rw [upd_ne nfp.symm]; exact hf8.1, hf8.2⟩
        have hflP : upd H8 fl (.lst ([V.ref qa, .ref qb].set 1 v')) fl = some (.lst ([V.ref qa, .ref qb].set 1 v')) := upd_same
        revert hav sP hlP hfP hflP
        generalize upd H8 fl (.lst ([V.ref qa, .ref qb].set 1 v')) = H9
        intro hav sP hlP hfP hflP
        refine ⟨_, rfl, .inl ⟨fl, _, rfl, SqL.of hflP, fun cf G uG kG => ?_⟩⟩
        dsimp only [gName]
        have sG := sP.trans (sx_of uG)
        have hlG := uG _ _ hlP
        have hfG := feed_same uG hfP
        have hKcG := knt_sx hKc sG hf.1
        have havG : AnyV (Lsts H6) G 4 380 (.ref cf) := (any_two (n := 3) (w := 189) (j := 1) kG (hQa.sx sG hf.1) (hQb.sx sG hf.1) (rqA.mono (by decide) (by decide)) (rqB.mono (by decide) (by decide)) (hav.same uG)).mono (by decide) (by decide)
        refine ⟨_, rfl, rfl, _, rfl, iteF ?_⟩
        walk_at "nx"

        -- put into the profile
        refine ⟨_, rfl, l, _, _, _, rfl, rfl, SqL.of hlG, atI_nat (j := 2) rfl, _, rfl, _, rfl, tc, cxs, rfl, hKcG, fun c1 G1 u1 k1 => ?_⟩
        rw [cut_to] at k1
        refine ⟨_, rfl, szl (show 1 ≤ 100000 by decide), fun c2 G2 u2 k2 => ⟨c1, c2, _, _, rfl, rfl, k1.same u2, k2, szl (by rw [List.length_take]; simp; omega), fun c3 G3 u3 k3 => ?_⟩⟩
        have u13 := (u1.trans u2).trans u3
        refine ⟨_, rfl, l, _, _, _, rfl, rfl, SqL.of (u13 _ _ hlG), atI_nat (j := 2) rfl, _, rfl, _, _, rfl, rfl, _, rfl, tc, cxs, rfl, hKcG.same u13, fun c4 G4 u4 k4 => ?_⟩
        rw [ek, Od.cut_from] at k4
        refine ⟨c3, c4, _, _, rfl, rfl, k3.same u4, k4, szl (by rw [List.length_append, List.length_take, List.length_drop]; simp; omega), fun c5 G5 u5 k5 => ?_⟩
        have u15 := (u13.trans u4).trans u5
        have hl5 := u15 _ _ hlG
        refine ⟨_, rfl, l, _, _, 2, rfl, rfl, hl5, rfl, ?_⟩
        walk_at "nx"
        have av5 := put_any (S := Lsts H6) (hBc.sx (sG.trans (sx_of u15)) hf.1) (havG.same u15) k5 (fun d hd => (hm.fn d hd).mono (by decide) (by decide)) (by rw [List.length_map]; exact hm.f8)
        have av6 := any_weak (av5.sx (p := l) (sx_put (o := .lst ([V.ref ta, .ref tb, .ref tc].set 2 (.ref c5))) (sx_of (Same.refl G5))) hl5 hS6l) mono6
        have hf5 := feed_same u15 hfG
        exact ⟨_, rfl, .inl (fin 2 (.ref c5) _ _ _ (sx_mut (sG.trans (sx_of u15)) hl) ⟨by rw [upd_ne nlp.symm]; exact hf5.1, hf5.2⟩ av6 upd_same)⟩
      · refine ⟨_, rfl, _, _, rfl, rfl, _, rfl, iteF ?_⟩
        walk_at "nx"
        refine ⟨_, rfl, .inl ⟨fl, _, rfl, SqL.of hfl7, fun cf H8 u8 k8 => ?_⟩⟩
        dsimp only [gName]
        have s08 := (s06.trans s7).trans (sx_of u8)
        have hf8 := feed_same u8 hf7
        refine ⟨_, rfl, rfl, _, rfl, iteT ?_⟩
        refine ⟨_, rfl, _, rfl, szl (show 1 ≤ 100000 by decide), fun d1 G1 v1 w1 => ⟨cf, d1, _, _, rfl, rfl, k8.same v1, w1, szl (show 3 ≤ 100000 by decide), fun c1 G2 v2 w2 => ?_⟩⟩
        refine ⟨_, rfl, cf, _, rfl, .inr ((k8.same v1).same v2).sqt, fun l5 hl5 => ?_⟩
        have v3 := same_new (o := .lst [V.ref qa, .ref qb]) hl5
        have v13 := (v1.trans v2).trans v3
        refine ⟨_, rfl, _, rfl, cf, _, rfl, k8.same v13, fun c2 G4 v4 w4 => ?_⟩
        rw [show ((1 : Int)) = ((1 : Nat) : Int) from rfl, cut_to] at w4
        have v14 := v13.trans v4
        refine ⟨_, rfl, _, rfl, cf, cf, _, _, rfl, rfl, k8.same v14, k8.same v14, szl (show 4 ≤ 100000 by decide), fun c3 G5 v5 w5 => ⟨szl (show 4 ≤ 100000 by decide), fun L hL => ?_⟩⟩
        have v15 := v14.trans v5
        have v6 := same_new (o := .lst [V.ref c1, .ref l5, .ref c2, .ref c3]) hL
        have v16 := v15.trans v6
        have nL : L ≠ p := (ne_of_none (feed_same v15 hf8).1 hL).symm
        have hf9 := feed_same v16 hf8
        have s09 := s08.trans (sx_of v16)
        have bA := hQa.sx s09 hf.1
        have bB := hQb.sx s09 hf.1
        have nl5 : ¬ Lsts H6 l5 := not_lsts (lsts_sx (s7.trans (sx_of (u8.trans (v1.trans v2)))) (feed_same (v1.trans v2) hf8).1) hl5
        have e5 := ((v4.trans v5).trans v6) _ _ (upd_same (H := G2) (a := l5) (o := .lst [V.ref qa, .ref qb]))
        have mm : ∀ d, d ∈ [dTx fn.1, dTx fn.2, .int 5] → Rq 1 80 d := fun d hd => by
          rcases List.mem_cons.mp hd with rfl | hd
          · exact rqA
          · rcases List.mem_cons.mp hd with rfl | hd
            · exact rqB
            · rw [List.mem_singleton.mp hd]
              constructor <;> decide +kernel
        have S6 := Lsts H6
        have all : ∀ v ∈ [V.ref c1, .ref l5, .ref c2, .ref c3], AnyV (Lsts H6) (upd G5 L (.lst [V.ref c1, .ref l5, .ref c2, .ref c3])) 4 380 v := fun v hv => by
          rcases List.mem_cons.mp hv with rfl | hv
          · exact (any_tup (n := 1) (w := 80) (m := 3) (w2.same ((v3.trans (v4.trans v5)).trans v6)) (.cons (bA (Lsts H6) true) (.cons (bB (Lsts H6) true) (.cons (.int true 5) (.nil true)))) mm (Nat.le_refl _)).mono (by decide) (by decide)
          rcases List.mem_cons.mp hv with rfl | hv
          · exact (any_lst (n := 1) (w := 80) (m := 2) e5 nl5 (.cons (bA (Lsts H6) true) (.cons (bB (Lsts H6) true) (.nil true))) (fun d hd => mm d (by rcases List.mem_cons.mp hd with rfl | hd; exact List.mem_cons_self; rw [List.mem_singleton.mp hd]; exact List.mem_cons_of_mem _ List.mem_cons_self)) (Nat.le_refl _)).mono (by decide) (by decide)
          rcases List.mem_cons.mp hv with rfl | hv
          · exact (any_tup (n := 1) (w := 80) (m := 1) (ds := [dTx fn.1]) (w4.same (v5.trans v6)) (.cons (bA (Lsts H6) true) (.nil true)) (fun d hd => mm d (by rw [List.mem_singleton.mp hd]; exact List.mem_cons_self)) (Nat.le_refl _)).mono (by decide) (by decide)
          · rw [List.mem_singleton.mp hv]
            exact (any_tup (n := 1) (w := 80) (m := 4) (ds := [dTx fn.1, dTx fn.2, dTx fn.1, dTx fn.2]) (w5.same v6) (.cons (bA (Lsts H6) true) (.cons (bB (Lsts H6) true) (.cons (bA (Lsts H6) true) (.cons (bB (Lsts H6) true) (.nil true))))) (fun d hd => by
              rcases List.mem_cons.mp hd with rfl | hd
              · exact rqA
              rcases List.mem_cons.mp hd with rfl | hd
              · exact rqB
              rcases List.mem_cons.mp hd with rfl | hd
              · exact rqA
              · rw [List.mem_singleton.mp hd]; exact rqB) (Nat.le_refl _)).mono (by decide) (by decide)
        refine ⟨p, L, _, _, _, rfl, hf9, SqL.of upd_same, nL, (show 0 < 4 by decide), (show 4 ≤ 1000 by decide), fun vf a9 b9 hv hfG => ?_⟩
        have sl : SameX p (upd G5 L (.lst [V.ref c1, .ref l5, .ref c2, .ref c3])) (upd (upd G5 L (.lst [V.ref c1, .ref l5, .ref c2, .ref c3])) p (.lst [.int a9, .int b9])) := sx_put (sx_of (Same.refl _))
        have havG := (all vf hv).sx sl hf9.1 ⟨_, hf6.1⟩
        have sG := s09.trans sl
        have hlG := sl _ _ nlp (v16 _ _ (u8 _ _ (s7 _ _ nlp hl6)))
        revert hfG havG sG hlG
        generalize upd (upd G5 L (.lst [V.ref c1, .ref l5, .ref c2, .ref c3])) p (.lst [.int a9, .int b9]) = G
        intro hfG havG sG hlG
        have hKcG := knt_sx hKc sG hf.1
        dsimp only [gName]

        -- put into the profile
        refine ⟨_, rfl, l, _, _, _, rfl, rfl, SqL.of hlG, atI_nat (j := 2) rfl, _, rfl, _, rfl, tc, cxs, rfl, hKcG, fun c1 G1 u1 k1 => ?_⟩
        rw [cut_to] at k1
        refine ⟨_, rfl, szl (show 1 ≤ 100000 by decide), fun c2 G2 u2 k2 => ⟨c1, c2, _, _, rfl, rfl, k1.same u2, k2, szl (by rw [List.length_take]; simp; omega), fun c3 G3 u3 k3 => ?_⟩⟩
        have u13 := (u1.trans u2).trans u3
        refine ⟨_, rfl, l, _, _, _, rfl, rfl, SqL.of (u13 _ _ hlG), atI_nat (j := 2) rfl, _, rfl, _, _, rfl, rfl, _, rfl, tc, cxs, rfl, hKcG.same u13, fun c4 G4 u4 k4 => ?_⟩
        rw [ek, Od.cut_from] at k4
        refine ⟨c3, c4, _, _, rfl, rfl, k3.same u4, k4, szl (by rw [List.length_append, List.length_take, List.length_drop]; simp; omega), fun c5 G5 u5 k5 => ?_⟩
        have u15 := (u13.trans u4).trans u5
        have hl5 := u15 _ _ hlG
        refine ⟨_, rfl, l, _, _, 2, rfl, rfl, hl5, rfl, ?_⟩
        walk_at "nx"
        have av5 := put_any (S := Lsts H6) (hBc.sx (sG.trans (sx_of u15)) hf.1) (havG.same u15) k5 (fun d hd => (hm.fn d hd).mono (by decide) (by decide)) (by rw [List.length_map]; exact hm.f8)
        have av6 := any_weak (av5.sx (p := l) (sx_put (o := .lst ([V.ref ta, .ref tb, .ref tc].set 2 (.ref c5))) (sx_of (Same.refl G5))) hl5 hS6l) mono6
        have hf5 := feed_same u15 hfG
        exact ⟨_, rfl, .inl (fin 2 (.ref c5) _ _ _ (sx_mut (sG.trans (sx_of u15)) hl) ⟨by rw [upd_ne nlp.symm]; exact hf5.1, hf5.2⟩ av6 upd_same)⟩
    · refine ⟨_, rfl, _, _, rfl, rfl, _, rfl, iteF (iteF ?_)⟩
      refine ⟨_, rfl, rfl, _, rfl, iteF (iteF ?_)⟩
      exact ⟨_, rfl, _, rfl, .inl (whole H2 a2 b2 s02 hf2 hl2)⟩

end
end K22

set_option maxRecDepth 100000
set_option maxHeartbeats 4000000
namespace K22
open PySem L2 Ly Od
local macro_rules | `(tactic| walk_at "nx") => `(tactic| dsimp only [tNext])
section
variable {P : Program} {w : World} {K : PySem.W.Frag} {mg : Str → Option Value} {base : Heap} {ad : Adr}
def prsB : List (Nat × Nat) := [(8, 8), (9, 1), (1, 9), (8, 0), (0, 8), (9, 0), (0, 9), (0, 0)]
def ltrB : Str := "abcdefghijklmnopqrstuvwxyz"
def fA (a : Nat) : List Str := chs (cutS ltrB none (some (a : Nat)))
def gB (b : Nat) : List Str := chs (cutS ltrB (some 10) (some (10 + (b : Nat))))
def dB (f g : List Str) (m : Nat) : PyData := dIf f g (g.map fun x => ([x], f.take m))
def okB22 (q : Nat × Nat) : Bool := decide ((fA q.1).length = q.1 ∧ (gB q.2).length = q.2 ∧ q.1 ≤ 9 ∧ q.2 ≤ 9) && (fA q.1 ++ gB q.2).all (fun x => decide (x.length ≤ 9) && x.cps.toList.all fun c => decide (c < 1114112)) &&
  ((List.range (q.1 + 1)).all fun m => ifcB (dB (fA q.1) (gB q.2) m) == decide (max q.1 q.2 < 9))
theorem all_okB : prsB.all okB22 = true := by decide +kernel
theorem rq_t9 {xs : List Str} (hl : xs.length ≤ 9) (h : ∀ x ∈ xs, OkT 9 x) : Rq 1 90 (dTx xs) :=
  (rq_row (k := 0) (w := 9) (m := 9) (ds := xs.map .str) (fun d hd => by
    obtain ⟨x, hx, rfl⟩ := List.mem_map.mp hd
    exact rq_s (h x hx)) (by rw [List.length_map]; exact hl)).mono (Nat.le_refl _) (by decide)
theorem rq_dB {f g : List Str} {m : Nat} (hf : f.length ≤ 9) (hg : g.length ≤ 9) (kf : ∀ x ∈ f, OkT 9 x) (kg : ∀ x ∈ g, OkT 9 x) : RQ (dB f g m) := by
  have h1 : ∀ d ∈ (g.map fun x => (([x], f.take m) : Fnc)).map dFn, Rq 2 182 d := fun d hd => by
    obtain ⟨q, hq, rfl⟩ := List.mem_map.mp hd
    obtain ⟨x, hx, rfl⟩ := List.mem_map.mp hq
    have a1 : Rq 1 90 (dTx [x]) := rq_t9 (show 1 ≤ 9 by decide) fun y hy => by rw [List.mem_singleton.mp hy]; exact kg x hx
    have a2 : Rq 1 90 (dTx (f.take m)) := rq_t9 (by rw [List.length_take]; omega) fun y hy => kf y (List.mem_of_mem_take hy)
    exact rq_tup (rqs_cons (w2 := 91) a1 (rqs_cons (w2 := 0) a2 rqs_nil (by decide)) (by decide))
  have h2 : Rq 3 1647 (.tuple ((g.map fun x => (([x], f.take m) : Fnc)).map dFn)) := (rq_row (m := 9) h1 (by rw [List.length_map, List.length_map]; exact hg)).mono (Nat.le_refl _) (by decide)
  exact (rq3 ((rq_t9 hf kf).mono (by decide) (Nat.le_refl _)) ((rq_t9 hg kg).mono (by decide) (Nat.le_refl _)) h2).mono (by decide) (by decide)
theorem kit_bl {K : PySem.W.Frag} : PySem.W.kitOne K (.type "bool") (.type "bool") = some true := kit_ty (by decide +kernel)
theorem sc_law_bounds_are_right : FnScope ["feed", "letters", "inputs", "outputs", "first", "second", "needs", "value", "found", "one"] ["feed"] (defScope s_law_bounds_are_right) := ⟨rfl, rfl, rfl, by decide +kernel, rfl, by decide +kernel, by decide +kernel⟩
theorem ok_bounds {f : Addr} {fd fdt fdi : FuncData} (F : Fun K "_law_bounds_are_right" "_law_bounds_are_right" s_law_bounds_are_right f fd) (T : Txt K w mg ad) (G_law_take : FnOk P w K mg base CX0 1 ad.f_law_take fdt ["feed", "size"] spTake) (b_law_take : Binds K fdt ["feed", "size"] [])
    (G_is_interface : FnOk P w K mg base CX0 5 ad.f_is_interface fdi ["value"] spIfQ) (b_is_interface : Binds K fdi ["value"] []) : FnOk P w K mg base CX0 6 f fd ["feed"] spBounds := by
  refine F.ok sc_law_bounds_are_right (fun vs H Q E h => ?_) (fun cdv A outer s H vs Q E hr h => ?_)
  · obtain ⟨p, a, b, rfl, _⟩ := h
    rfl
  · obtain ⟨p, a, b, rfl, hf, k⟩ := h
    refine ⟨_, (pss_cons (ps_set (i := 1) sc_law_bounds_are_right.nd rfl (Or.inl rfl) pe_str)
    (pss_cons (ps_for PassesOwn.never rfl (pi_listK K (pe_lst (pa_cons (pe_tupF (pa_cons pe_int (pa_cons pe_int pa_nil))) (pa_cons (pe_tupF (pa_cons pe_int (pa_cons pe_int pa_nil))) (pa_cons (pe_tupF (pa_cons pe_int (pa_cons pe_int pa_nil))) (pa_cons (pe_tupF (pa_cons pe_int (pa_cons pe_int pa_nil))) (pa_cons (pe_tupF (pa_cons pe_int (pa_cons pe_int pa_nil))) (pa_cons (pe_tupF (pa_cons pe_int (pa_cons pe_int pa_nil))) (pa_cons (pe_tupF (pa_cons pe_int (pa_cons pe_int pa_nil))) (pa_cons (pe_tupF (pa_cons pe_int (pa_cons pe_int pa_nil))) pa_nil)))))))))) (pg_tup (by rfl) (pgs_cons (pg_name (i := 2) sc_law_bounds_are_right.nd rfl (Or.inl rfl)) (pgs_cons (pg_name (i := 3) sc_law_bounds_are_right.nd rfl (Or.inl rfl)) pgs_nil)))
    (pss_cons (ps_par (i := 4) (j := 5) (by rfl) sc_law_bounds_are_right.nd rfl rfl (by decide) rfl rfl (pa_cons (pe_callTy (call_tupleG K rfl) (by rfl) T.n_tuple (by decide +kernel) (pa_cons (pe_slice sl_str (pv 1) po_none (po_some (pv 2))) pa_nil)) (pa_cons (pe_callTy (call_tupleG K rfl) (by rfl) T.n_tuple (by decide +kernel) (pa_cons (pe_slice sl_str (pv 1) (po_some pe_int) (po_some (pe_op op_add pe_int (pv 3)))) pa_nil)) pa_nil)) (by rfl))
    (pss_cons (ps_set (i := 6) sc_law_bounds_are_right.nd rfl (Or.inr rfl) (pe_slice sl_tupF (pv 4) po_none (po_some (pe_call G_law_take (hr.mono (by decide)) rfl T.g__law_take T.k__law_take b_law_take .nil pass0 (pa_cons (pv 0) (pa_cons (pe_op op_add (pv 2) pe_int) pa_nil))))))
    (pss_cons (ps_set (i := 7) sc_law_bounds_are_right.nd rfl (Or.inl rfl) (pe_tupF (pa_cons (pv 4) (pa_cons (pv 5) (pa_cons (pe_callTy (call_tupleG K rfl) (by rfl) T.n_tuple (by decide +kernel) (pa_cons (pe_lc (own := [("one", 9)]) rfl sc_law_bounds_are_right.nd (pi_tupK K (pv 5)) (blkOk_by (own := [("one", 9)]) (N := ["feed", "letters", "inputs", "outputs", "first", "second", "needs", "value", "found", "one"]) (sc := defScope s_law_bounds_are_right) (by decide +kernel)) (fun _ _ _ _ _ => (pg_name (i := 9) sc_law_bounds_are_right.nd rfl (Or.inl rfl))) (fun _ _ _ _ _ => pts_nil) (fun _ _ _ _ _ => (pe_tupF (pa_cons (pe_tupF (pa_cons (pv 9) pa_nil)) (pa_cons (pv 6) pa_nil))))) pa_nil)) pa_nil)))))
    (pss_cons (ps_set (i := 8) sc_law_bounds_are_right.nd rfl (Or.inl rfl) (pe_call G_is_interface (hr.mono (by decide)) rfl T.g_is_interface T.k_is_interface b_is_interface .nil pass0 (pa_cons (pv 7) pa_nil)))
    (pss_one (ps_if (PW.pt (pw_or (pt_not (pt_val (pe_callB (call_isiK K) (by rfl) T.n_isinstance (by decide +kernel) (pa_cons (pv 8) (pa_cons (pe_bltn (v := .ty "bool") rfl T.n_bool (by decide +kernel) rfl) pa_nil))))) (pw_or1 (pt_cmpR op_ne (pv 8) (pe_cmpR op_lt (pe_callB (call_max2 rfl) (by rfl) T.n_max (by decide +kernel) (pa_cons (pv 2) (pa_cons (pv 3) pa_nil))) pe_int (nomark _)) (nomark _))))) (pss_one (ps_ret pe_bl)) pss_nil)))))))
    (pss_one (ps_ret pe_bl)))), ?_⟩
    dsimp only [gName]
    refine ⟨szl (show 2 ≤ 100000 by decide), fun c1 G1 u1 k1 => ⟨szl (show 2 ≤ 100000 by decide), fun c2 G2 u2 k2 => ⟨szl (show 2 ≤ 100000 by decide), fun c3 G3 u3 k3 => ⟨szl (show 2 ≤ 100000 by decide), fun c4 G4 u4 k4 => ⟨szl (show 2 ≤ 100000 by decide), fun c5 G5 u5 k5 => ⟨szl (show 2 ≤ 100000 by decide), fun c6 G6 u6 k6 => ⟨szl (show 2 ≤ 100000 by decide), fun c7 G7 u7 k7 => ⟨szl (show 2 ≤ 100000 by decide), fun c8 G8 u8 k8 => ⟨szl (show 8 ≤ 100000 by decide), fun L hL => ?_⟩⟩⟩⟩⟩⟩⟩⟩⟩
    have t9 : Same _ _ := same_new (o := .lst [.ref c1, .ref c2, .ref c3, .ref c4, .ref c5, .ref c6, .ref c7, .ref c8]) hL
    have t89 := u8.trans t9
    have t79 := u7.trans t89
    have t69 := u6.trans t79
    have t59 := u5.trans t69
    have t49 := u4.trans t59
    have t39 := u3.trans t49
    have t29 := u2.trans t39
    have t19 := u1.trans t29
    have nL : L ≠ p := by
      have h1 : G8 p = some _ := (((((((u1.trans u2).trans u3).trans u4).trans u5).trans u6).trans u7).trans u8) _ _ hf.1
      exact (ne_of_none h1 hL).symm
    have hf9 := feed_same t19 hf
    have hL9 : upd G8 L (.lst [.ref c1, .ref c2, .ref c3, .ref c4, .ref c5, .ref c6, .ref c7, .ref c8]) L = some (.lst [.ref c1, .ref c2, .ref c3, .ref c4, .ref c5, .ref c6, .ref c7, .ref c8]) := upd_same
    have all : ∀ z ∈ [V.ref c1, .ref c2, .ref c3, .ref c4, .ref c5, .ref c6, .ref c7, .ref c8], ∃ (q : Nat × Nat) (c : Addr), q ∈ prsB ∧ z = .ref c ∧ KnT (upd G8 L (.lst [.ref c1, .ref c2, .ref c3, .ref c4, .ref c5, .ref c6, .ref c7, .ref c8])) c [.int (q.1 : Nat), .int (q.2 : Nat)] := fun z hz => by
      rcases List.mem_cons.mp hz with rfl | hz
      · exact ⟨(8, 8), _, by decide, rfl, k1.same t29⟩
      rcases List.mem_cons.mp hz with rfl | hz
      · exact ⟨(9, 1), _, by decide, rfl, k2.same t39⟩
      rcases List.mem_cons.mp hz with rfl | hz
      · exact ⟨(1, 9), _, by decide, rfl, k3.same t49⟩
      rcases List.mem_cons.mp hz with rfl | hz
      · exact ⟨(8, 0), _, by decide, rfl, k4.same t59⟩
      rcases List.mem_cons.mp hz with rfl | hz
      · exact ⟨(0, 8), _, by decide, rfl, k5.same t69⟩
      rcases List.mem_cons.mp hz with rfl | hz
      · exact ⟨(9, 0), _, by decide, rfl, k6.same t79⟩
      rcases List.mem_cons.mp hz with rfl | hz
      · exact ⟨(0, 9), _, by decide, rfl, k7.same t89⟩
      · rw [List.mem_singleton.mp hz]
        exact ⟨(0, 0), _, by decide, rfl, k8.same t9⟩
    revert t19 hf9 hL9 all
    generalize upd G8 L (.lst [.ref c1, .ref c2, .ref c3, .ref c4, .ref c5, .ref c6, .ref c7, .ref c8]) = H1
    generalize [V.ref c1, .ref c2, .ref c3, .ref c4, .ref c5, .ref c6, .ref c7, .ref c8] = zs
    intro t19 hf9 hL9 all
    refine ⟨L, rfl, ⟨_, SqL.of hL9⟩, for_list (K := K) (a := L) (xs := zs) (fun j σ H' => SameX p H1 H' ∧ (∃ a b, FeedAt H' p a b) ∧ ∃ x2 x3 x4 x5 x6 x7 x8 x9 : Option V, σ = [some (.ref p), some (.str ltrB), x2, x3, x4, x5, x6, x7, x8, x9]) ⟨sx_of (Same.refl H1), ⟨_, _, hf9⟩, _, _, _, _, _, _, _, _, rfl⟩ (fun j σ H' _ h => SqL.of (h.1 _ _ nL hL9)) ?_ ?_⟩
    · rintro j z σ H2 hz ⟨s2, ⟨a2, b2, hf2⟩, x2, x3, x4, x5, x6, x7, x8, x9, rfl⟩
      obtain ⟨⟨na, nb⟩, c, hq, rfl, hK⟩ := all z (List.mem_of_getElem? hz)
      have hK := knt_sx hK s2 hf9.1
      have hok := List.all_eq_true.mp all_okB _ hq
      unfold okB22 at hok
      rw [Bool.and_eq_true, Bool.and_eq_true, decide_eq_true_iff] at hok
      obtain ⟨⟨⟨hfl, hgl, hna, hnb⟩, htx⟩, hif⟩ := hok
      have hT : ∀ x ∈ fA na ++ gB nb, OkT 9 x := fun x hx => by
        have := List.all_eq_true.mp htx x hx
        rw [Bool.and_eq_true] at this
        exact ⟨of_decide_eq_true this.1, this.2⟩
      have hTf : ∀ x ∈ fA na, OkT 9 x := fun x hx => hT x (List.mem_append_left _ hx)
      have hTg : ∀ x ∈ gB nb, OkT 9 x := fun x hx => hT x (List.mem_append_right _ hx)
      refine ⟨c, _, rfl, hK.sqt, rfl, _, _, rfl, _, _, rfl, rfl, ?_⟩
      dsimp only [gName]
      refine ⟨_, rfl, _, rfl, _, rfl, ltrB, rfl, szl (by decide), ?_⟩
      have lenA : (cutS ltrB none (some (na : Nat))).length = (fA na).length := by unfold fA chs; rw [List.length_map, Array.length_toList]; rfl
      have lenB : (cutS ltrB (some 10) (some (10 + (nb : Nat)))).length = (gB nb).length := by unfold gB chs; rw [List.length_map, Array.length_toList]; rfl
      have hna : na ≤ 9 := hna
      have hnb : nb ≤ 9 := hnb
      have hfl : (fA na).length = na := hfl
      have hgl : (gB nb).length = nb := hgl
      refine .inr ⟨_, rfl, szl (by rw [lenA]; omega), fun t1 H3 u3 k3 => ?_⟩
      refine ⟨_, rfl, _, rfl, _, rfl, _, _, rfl, rfl, _, rfl, ltrB, rfl, szl (by decide), .inr ⟨_, rfl, szl (by rw [lenB]; omega), fun t2 H4 u4 k4 => ⟨_, _, rfl, ?_⟩⟩⟩
      rw [chs_map] at k3 k4
      have k3 : KnT H3 t1 ((fA na).map V.str) := k3
      have k4 : KnT H4 t2 ((gB nb).map V.str) := k4
      have u34 := u3.trans u4
      have hf4 := feed_same u34 hf2
      have k3 := k3.same u4
      -- needs
      dsimp only
      refine asg (fun v H' => ∃ (t : Addr) (m : Nat), v = .ref t ∧ m ≤ na ∧ KnT H' t (((fA na).take m).map V.str) ∧ SameX p H4 H' ∧ ∃ a b, FeedAt H' p a b) (fun Q' q => ?_) ?_
      · refine ⟨_, rfl, _, rfl, _, rfl, _, _, rfl, rfl, p, _, _, _, rfl, hf4, by omega, by omega, fun d a5 b5 h0 h1 hf5 => ?_⟩
        obtain ⟨d, rfl⟩ := Int.eq_ofNat_of_zero_le h0
        have s5 : SameX p H4 (upd H4 p (.lst [.int a5, .int b5])) := sx_put (sx_of (Same.refl H4))
        refine ⟨_, rfl, t1, _, rfl, knt_sx k3 s5 hf4.1, fun t3 H6 u6 k6 => ?_⟩
        rw [cut_any V.str (fA na) d] at k6
        exact q _ _ ⟨t3, d, rfl, by omega, k6, s5.trans (sx_of u6), _, _, feed_same u6 hf5⟩
      rintro _ H5 ⟨t3, m, rfl, hm, k5, s5, a5, b5, hf5⟩
      dsimp only [gName]
      have k35 := knt_sx k3 s5 hf4.1
      have k45 := knt_sx k4 s5 hf4.1
      -- value
      refine ⟨_, rfl, _, rfl, _, rfl, t2, rfl, ⟨_, k45.sqt⟩, fun D hD => lc_tup (K := K) (a := t2) (xs := (gB nb).map V.str) (fun j H' => Same H5 H' ∧ ∃ fs, H' D = some (.lst fs) ∧ fs.length ≤ j ∧ Paired (FnK H') (((gB nb).take j).map fun x => (([x], (fA na).take m) : Fnc)) fs) ⟨same_new hD, [], upd_same, Nat.le_refl _, .nil⟩ (fun j H' _ h => (k45.same h.1).sqt) ?_ ?_⟩
      · rintro j y H6 hy ⟨s6, fs, hfs, hfl6, hpf⟩
        obtain ⟨hj, e⟩ := List.getElem?_eq_some_iff.mp hy
        rw [List.length_map] at hj
        rw [List.getElem_map] at e
        subst e
        refine ⟨rfl, ?_⟩
        dsimp only [tYes]
        refine iteT ⟨_, rfl, szl (show 1 ≤ 100000 by decide), fun w1 H7 v7 e7 => ⟨_, rfl, szl (show 2 ≤ 100000 by decide), fun w2 H8 v8 e8 => ?_⟩⟩
        have v78 := v7.trans v8
        have hfs8 := v78 _ _ hfs
        have sf : SameX D H8 (upd H8 D (.lst (fs ++ [.ref w2]))) := sx_put (sx_of (Same.refl H8))
        have hpf8 := paired_imp (fun _ _ z => FnK.same z v78) hpf
        refine ⟨_, hfs8, szt (by omega), same_mut (s6.trans v78) hD, fs ++ [.ref w2], upd_same, by rw [List.length_append, List.length_singleton]; omega, ?_⟩
        rw [List.take_add_one, List.getElem?_eq_getElem hj, List.map_append]
        exact paired_snoc (paired_imp (fun _ _ z => z.sx sf hfs8) hpf8) (FnK.sx (H := H8) (f := ([(gB nb)[j]], (fA na).take m)) ⟨w2, w1, t3, rfl, e8, e7.same v8, k5.same (s6.trans v78)⟩ sf hfs8)
      rintro H6 ⟨s6, fs, hfs, hfl6, hpf⟩
      rw [List.length_map, List.take_length] at hpf
      refine .inl ⟨D, fs, rfl, SqL.of hfs, fun w3 H7 v7 e7 => ⟨szl (show 3 ≤ 100000 by decide), fun tv H8 v8 e8 => ?_⟩⟩
      dsimp only [gName]
      have v78 := v7.trans v8
      have s58 := s6.trans v78
      have hpf8 := paired_imp (fun _ _ z => FnK.same z v78) hpf
      have hfT : ∀ f ∈ (gB nb).map (fun x => (([x], (fA na).take m) : Fnc)), (∀ x ∈ f.1, OkT 9 x) ∧ ∀ x ∈ f.2, OkT 9 x := fun f hf => by
        obtain ⟨x, hx, rfl⟩ := List.mem_map.mp hf
        exact ⟨fun y hy => by rw [List.mem_singleton.mp hy]; exact hTg x hx, fun y hy => hTf y (List.mem_of_mem_take hy)⟩
      have bv : Both H8 (.ref tv) (dB (fA na) (gB nb) m) := both_tup e8 (both_cons (both_tx (k35.same s58) hTf) (both_cons (both_tx (k45.same s58) hTg) (both_cons (both_tup (e7.same v8) (fns_both hpf8 hfT)) both_nil)))
      refine ⟨_, rfl, (fun _ => True), true, _, _, rfl, bv _ true, rq_dB (by omega) (by omega) hTf hTg, fun H9 s9 => ?_⟩
      dsimp only [gName]
      have hval : ifcB (dB (fA na) (gB nb) m) = decide (max na nb < 9) := by
        have := List.all_eq_true.mp hif m (List.mem_range.mpr (by show m < na + 1; omega))
        exact eq_of_beq this
      refine ⟨_, rfl, .bl _, .ty "bool", .type "bool", .type "bool", true, rfl, .ty _, .base (.bl _), kit_bl, _, rfl, iteF ?_⟩
      refine ⟨_, rfl, _, rfl, _, rfl, _, _, rfl, _, _, rfl, rfl, rfl, _, rfl, ?_⟩
      refine ite2 (fun hc => ?_) (fun _ => ?_)
      · exfalso
        have e : V.bl (ifcB (dB (fA na) (gB nb) m)) = V.bl (decide ((if ((nb : Nat) : Int) > ((na : Nat) : Int) then ((nb : Nat) : Int) else ((na : Nat) : Int)) < 9)) := by
          rw [hval]
          congr 1
          rw [Bool.eq_iff_iff, decide_eq_true_iff, decide_eq_true_iff]
          split <;> omega
        rw [decide_eq_true e] at hc
        cases hc
      · exact ⟨((s2.trans (sx_of u34)).trans s5).trans (sx_of (s58.trans s9)), ⟨_, _, feed_same (s58.trans s9) hf5⟩, _, _, _, _, _, _, _, _, rfl⟩
    · rintro σ H2 ⟨s2, ⟨a2, b2, hf2⟩, x2, x3, x4, x5, x6, x7, x8, x9, rfl⟩
      exact k _ a2 b2 ((sx_of t19).trans s2) hf2

end
end K22

set_option maxRecDepth 100000
set_option maxHeartbeats 4000000
namespace K22
open PySem L2 Ly Od
local macro_rules | `(tactic| walk_at "nx") => `(tactic| dsimp only [tNext])
section
variable {P : Program} {w : World} {K : PySem.W.Frag} {mg : Str → Option Value} {base : Heap} {ad : Adr}
theorem sc_law : FnScope ["script", "k", "feed", "turn", "value", "before", "found"] ["script"] (defScope s_law) := ⟨rfl, rfl, rfl, by decide +kernel, rfl, by decide +kernel, by decide +kernel⟩
def spLaw (K : PySem.W.Frag) : Sp := fun vs H Q _ => ∃ (a : Addr) (ns : List Int), vs = [.ref a] ∧ SqL K H a (ns.map V.int) ∧ ns.length ≤ 63 ∧ ∀ H', Q (.bl true) H'
theorem ok_law {f : Addr} {fd fd1 fdt fdm fdw fdb fdr fdi fdl : FuncData} (F : Fun K "law" "law" s_law f fd) (T : Txt K w mg ad)
    (G_law_feed : FnOk P w K mg base CX0 1 ad.f_law_feed fd1 ["script", "k"] (spFeedS K)) (b_law_feed : Binds K fd1 ["script", "k"] [])
    (G_law_take : FnOk P w K mg base CX0 1 ad.f_law_take fdt ["feed", "size"] spTake) (b_law_take : Binds K fdt ["feed", "size"] [])
    (G_law_made_up : FnOk P w K mg base CX0 3 ad.f_law_made_up fdm ["feed"] spMade) (b_law_made_up : Binds K fdm ["feed"] [])
    (G_law_wide : FnOk P w K mg base CX0 2 ad.f_law_wide fdw ["feed"] spMade) (b_law_wide : Binds K fdw ["feed"] [])
    (G_law_bent : FnOk P w K mg base CX0 4 ad.f_law_bent fdb ["feed", "value"] spBent) (b_law_bent : Binds K fdb ["feed", "value"] [])
    (G_law_bounds_are_right : FnOk P w K mg base CX0 6 ad.f_law_bounds_are_right fdr ["feed"] spBounds) (b_law_bounds_are_right : Binds K fdr ["feed"] [])
    (G_is_interface : FnOk P w K mg base CX0 5 ad.f_is_interface fdi ["value"] spIfQ) (b_is_interface : Binds K fdi ["value"] [])
    (G_law_is_interface : FnOk P w K mg base CX0 3 ad.f_law_is_interface fdl ["value"] spIfQ) (b_law_is_interface : Binds K fdl ["value"] []) :
    FnG P w K mg base CX0 9 f fd ["script"] (spLaw K) := by
  refine Ly.Fun.okG F sc_law (fun vs H Q E h => ?_) (fun cdv A outer s H vs Q E hg hr h => ?_)
  · obtain ⟨a, ns, rfl, _⟩ := h
    rfl
  · obtain ⟨sa, ns, rfl, hS, hl, k⟩ := h
    refine ⟨_, (pss_cons (ps_for PassesOwn.never rfl (pi_range1 (by rfl) T.n_range (pa_cons (pe_callB (call_max2 rfl) (by rfl) T.n_max (by decide +kernel) (pa_cons pe_int (pa_cons (pe_callB (call_min2 rfl) (by rfl) T.n_min (by decide +kernel) (pa_cons pe_int (pa_cons (pe_callB (call_lenK K) (by rfl) T.n_len (by decide +kernel) (pa_cons (pv 0) pa_nil)) pa_nil))) pa_nil))) pa_nil)) (pg_name (i := 1) sc_law.nd rfl (Or.inl rfl))
    (pss_cons (ps_set (i := 2) sc_law.nd rfl (Or.inl rfl) (pe_call G_law_feed (hr.mono (by decide)) rfl T.g__law_feed T.k__law_feed b_law_feed .nil pass0 (pa_cons (pv 0) (pa_cons (pv 1) pa_nil))))
    (pss_cons (ps_if (pt_not (pt_val (pe_call G_law_bounds_are_right (hr.mono (by decide)) rfl T.g__law_bounds_are_right T.k__law_bounds_are_right b_law_bounds_are_right .nil pass0 (pa_cons (pv 2) pa_nil)))) (pss_one (ps_ret pe_bl)) pss_nil)
    (pss_one (ps_for PassesOwn.never rfl (pi_range1 (by rfl) T.n_range (pa_cons pe_int pa_nil)) (pg_name (i := 3) sc_law.nd rfl (Or.inl rfl))
    (pss_cons (ps_set (i := 4) sc_law.nd rfl (Or.inl rfl) (pe_ifExp (pt_cmpR op_gt (pe_call G_law_take (hr.mono (by decide)) rfl T.g__law_take T.k__law_take b_law_take .nil pass0 (pa_cons (pv 2) (pa_cons pe_int pa_nil))) pe_int (nomark _)) (pe_call G_law_made_up (hr.mono (by decide)) rfl T.g__law_made_up T.k__law_made_up b_law_made_up .nil pass0 (pa_cons (pv 2) pa_nil)) (pe_call G_law_wide (hr.mono (by decide)) rfl T.g__law_wide T.k__law_wide b_law_wide .nil pass0 (pa_cons (pv 2) pa_nil))))
    (pss_cons (ps_if (pt_cmpR op_gt (pv 3) pe_int (nomark _)) (pss_one (ps_set (i := 4) sc_law.nd rfl (Or.inl rfl) (pe_call G_law_bent (hr.mono (by decide)) rfl T.g__law_bent T.k__law_bent b_law_bent .nil pass0 (pa_cons (pv 2) (pa_cons (pv 4) pa_nil))))) pss_nil)
    (pss_cons (ps_set (i := 5) sc_law.nd rfl (Or.inl rfl) (pe_callB (call_reprQ hg hr.units) (by rfl) T.n_repr (by decide +kernel) (pa_cons (pv 4) pa_nil)))
    (pss_cons (ps_set (i := 6) sc_law.nd rfl (Or.inl rfl) (pe_call G_is_interface (hr.mono (by decide)) rfl T.g_is_interface T.k_is_interface b_is_interface .nil pass0 (pa_cons (pv 4) pa_nil)))
    (pss_one (ps_if (PW.pt (pw_or (pt_not (pt_val (pe_callB (call_isiK K) (by rfl) T.n_isinstance (by decide +kernel) (pa_cons (pv 6) (pa_cons (pe_bltn (v := .ty "bool") rfl T.n_bool (by decide +kernel) rfl) pa_nil))))) (pw_or (pt_cmpR op_ne (pv 6) (pe_call G_law_is_interface (hr.mono (by decide)) rfl T.g__law_is_interface T.k__law_is_interface b_law_is_interface .nil pass0 (pa_cons (pv 4) pa_nil)) (nomark _)) (pw_or1 (pt_cmpR op_ne (pe_callB (call_reprQ hg hr.units) (by rfl) T.n_repr (by decide +kernel) (pa_cons (pv 4) pa_nil)) (pv 5) (nomark _)))))) (pss_one (ps_ret pe_bl)) pss_nil)))))))))))
    (pss_one (ps_ret pe_bl))), ?_⟩
    refine ⟨_, rfl, sa, _, rfl, .inl hS, _, _, rfl, _, _, rfl, ?_⟩
    have hlen : (ns.map V.int).length ≤ 63 := by rw [List.length_map]; exact hl
    generalize hm : (if (if ((ns.map V.int).length : Int) < 6 then ((ns.map V.int).length : Int) else 6) > 2 then (if ((ns.map V.int).length : Int) < 6 then ((ns.map V.int).length : Int) else 6) else 2) = m
    have hm6 : 2 ≤ m ∧ m ≤ 6 := by
      rw [← hm]
      split <;> (try split) <;> omega
    refine ⟨m, rfl, by omega, by omega, for_range (lo := 0) (n := m.toNat) (fun i σ H' => Same H H' ∧ ∃ x1 x2 x3 x4 x5 x6 : Option V, σ = [some (.ref sa), x1, x2, x3, x4, x5, x6]) ⟨Same.refl H, _, _, _, _, _, _, rfl⟩ ?_ ?_⟩
    · rintro i σ H1 hi ⟨s1, x1, x2, x3, x4, x5, x6, rfl⟩
      have hS1 : SqL K H1 sa (ns.map V.int) := by
        rcases hS with (e | ⟨o, e⟩) | e
        · exact .inl (.inl (s1 _ _ e))
        · exact .inl (.inr ⟨o, s1 _ _ e⟩)
        · exact .inr e
      refine ⟨_, rfl, _, rfl, sa, ns, i, by simp, hS1, by omega, fun p a b H2 s2 hp hf => ?_⟩
      have hpH : H p = none := by
        cases e : H p with
        | none => rfl
        | some u => rw [s1 _ _ e] at hp; cases hp
      have s02 := s1.trans s2
      dsimp only [gName]
      refine ⟨_, rfl, p, a, b, rfl, hf, fun H3 a3 b3 s3 hf3 => ⟨_, rfl, iteF ?_⟩⟩
      walk_at "nx"
      have s03 := same_sx s02 s3 hpH
      refine ⟨12, rfl, by decide, by decide, for_range (lo := 0) (n := 12) (fun j σ H' => SameX p H3 H' ∧ (∃ a b, FeedAt H' p a b) ∧ ∃ x1 x3 x4 x5 x6 : Option V, σ = [some (.ref sa), x1, some (.ref p), x3, x4, x5, x6]) ⟨sx_of (Same.refl H3), ⟨_, _, hf3⟩, _, _, _, _, _, rfl⟩ ?_ ?_⟩
      · rintro j σ H4 hj ⟨s4, ⟨a4, b4, hf4⟩, x1, x3, x4, x5, x6, rfl⟩
        dsimp only [gName]
        -- value
        refine asg (fun v H' => SameX p H4 H' ∧ (∃ a b, FeedAt H' p a b) ∧ ∃ i o fs, Both H' v (dIf i o fs) ∧ IfSm i o fs) (fun Q' q => ?_) ?_
        · refine ⟨_, rfl, p, 5, a4, b4, rfl, hf4, by decide, by decide, fun d a5 b5 h0 h1 hf5 => ⟨_, _, rfl, rfl, _, rfl, ?_⟩⟩
          have s5 : SameX p H4 (upd H4 p (.lst [.int a5, .int b5])) := sx_put (sx_of (Same.refl H4))
          refine ite2 (fun hc => ?_) (fun hc => ?_)
          · exact ⟨_, rfl, p, a5, b5, rfl, hf5, fun v H' i o fs a' b' s' hf' hb hm => q _ _ ⟨s5.trans s', ⟨_, _, hf'⟩, i, o, fs, hb, hm⟩⟩
          · exact ⟨_, rfl, p, a5, b5, rfl, hf5, fun v H' i o fs a' b' s' hf' hb hm => q _ _ ⟨s5.trans s', ⟨_, _, hf'⟩, i, o, fs, hb, hm⟩⟩
        rintro v H5 ⟨s5, ⟨a5, b5, hf5⟩, i0, o0, fs0, hb, hm⟩
        dsimp only [gName]
        refine ⟨_, rfl, _, _, rfl, rfl, _, rfl, ite2 (fun hc => ?_) (fun hc => ?_)⟩
        · refine ⟨_, rfl, _, rfl, p, v, i0, o0, fs0, a5, b5, rfl, hf5, hb, hm, fun v' H6 a6 b6 s6 hf6 ⟨bb, d, hd, hq⟩ => ?_⟩
          have s46 := s5.trans s6
          dsimp only [gName]
          refine ⟨_, rfl, _, _, _, d, rfl, hd, (RQ.big hq), ?_⟩
          dsimp only [gName]
          refine ⟨_, rfl, _, _, _, d, rfl, hd, hq, fun H7 s7 => ?_⟩
          dsimp only [gName]
          refine ⟨_, rfl, .bl _, .ty "bool", .type "bool", .type "bool", true, rfl, .ty _, .base (.bl _), kit_bl, _, rfl, iteF ?_⟩
          refine ⟨_, rfl, _, rfl, _, _, _, d, rfl, hd.same s7, hq, fun H8 s8 => ⟨rfl, _, rfl, ?_⟩⟩
          have hne : (!decide (V.bl (ifcB d) = V.bl (ifcB d))) = false := by rw [decide_eq_true rfl]; rfl
          rw [hne]
          refine iteF ?_
          refine ⟨_, rfl, _, _, _, d, rfl, hd.same (s7.trans s8), (RQ.big hq), _, rfl, rfl, _, rfl, ?_⟩
          have hne2 : (!decide (V.str d.shown = V.str d.shown)) = false := by rw [decide_eq_true rfl]; rfl
          rw [hne2]
          refine iteF ?_
          exact ⟨(s4.trans s46).trans (sx_of (s7.trans s8)), ⟨_, _, feed_same (s7.trans s8) hf6⟩, _, _, _, _, _, rfl⟩
        · have s46 := s5
          have hf6 := hf5
          have hd := hb (fun _ => True) true
          have hq : RQ (dIf i0 o0 fs0) := hm.rq.mono (by decide) (by decide)
          revert s46 hf6 hd hq
          generalize dIf i0 o0 fs0 = d
          intro s46 hf6 hd hq
          walk_at "nx"
          refine ⟨_, rfl, _, _, _, d, rfl, hd, (RQ.big hq), ?_⟩
          dsimp only [gName]
          refine ⟨_, rfl, _, _, _, d, rfl, hd, hq, fun H7 s7 => ?_⟩
          dsimp only [gName]
          refine ⟨_, rfl, .bl _, .ty "bool", .type "bool", .type "bool", true, rfl, .ty _, .base (.bl _), kit_bl, _, rfl, iteF ?_⟩
          refine ⟨_, rfl, _, rfl, _, _, _, d, rfl, hd.same s7, hq, fun H8 s8 => ⟨rfl, _, rfl, ?_⟩⟩
          have hne : (!decide (V.bl (ifcB d) = V.bl (ifcB d))) = false := by rw [decide_eq_true rfl]; rfl
          rw [hne]
          refine iteF ?_
          refine ⟨_, rfl, _, _, _, d, rfl, hd.same (s7.trans s8), (RQ.big hq), _, rfl, rfl, _, rfl, ?_⟩
          have hne2 : (!decide (V.str d.shown = V.str d.shown)) = false := by rw [decide_eq_true rfl]; rfl
          rw [hne2]
          refine iteF ?_
          exact ⟨(s4.trans s46).trans (sx_of (s7.trans s8)), ⟨_, _, feed_same (s7.trans s8) hf6⟩, _, _, _, _, _, rfl⟩
      · rintro σ H4 ⟨s4, hf4, x1, x3, x4, x5, x6, rfl⟩
        exact ⟨same_sx s03 s4 hpH, _, _, _, _, _, _, rfl⟩
    · rintro σ H1 ⟨s1, x1, x2, x3, x4, x5, x6, rfl⟩
      exact k _

end
theorem all_mk {l : PySem.W.OpenLaw} {w : World} {K : PySem.W.Frag} {h : Heap} {mg : Str → Option Value} {fa : Addr} (X : K.In h) (G : h.Ns mainGlobals mg) (hfa : mg "law" = some (.ref fa))
    {t_MAX_NAME : Tok}
    {t_MAX_PORTS : Tok}
    {t_LETTERS : Tok}
    {f_is_name : Addr}
    {od_is_name an_is_name : Option Addr} {sl_is_name : Array (Option Value)} {oc_is_name kV_is_name dc_is_name pm_is_name cd_is_name ct_is_name : Value}
    {f_are_ports : Addr}
    {od_are_ports an_are_ports : Option Addr} {sl_are_ports : Array (Option Value)} {oc_are_ports kV_are_ports dc_are_ports pm_are_ports cd_are_ports ct_are_ports : Value}
    {f_is_part_of : Addr}
    {od_is_part_of an_is_part_of : Option Addr} {sl_is_part_of : Array (Option Value)} {oc_is_part_of kV_is_part_of dc_is_part_of pm_is_part_of cd_is_part_of ct_is_part_of : Value}
    {f_is_profile : Addr}
    {od_is_profile an_is_profile : Option Addr} {sl_is_profile : Array (Option Value)} {oc_is_profile kV_is_profile dc_is_profile pm_is_profile cd_is_profile ct_is_profile : Value}
    {f_is_interface : Addr}
    {od_is_interface an_is_interface : Option Addr} {sl_is_interface : Array (Option Value)} {oc_is_interface kV_is_interface dc_is_interface pm_is_interface cd_is_interface ct_is_interface : Value}
    {f_law_feed : Addr}
    {od_law_feed an_law_feed : Option Addr} {sl_law_feed : Array (Option Value)} {oc_law_feed kV_law_feed dc_law_feed pm_law_feed cd_law_feed ct_law_feed : Value}
    {f_law_take : Addr}
    {od_law_take an_law_take : Option Addr} {sl_law_take : Array (Option Value)} {oc_law_take kV_law_take dc_law_take pm_law_take cd_law_take ct_law_take : Value}
    {f_law_pick : Addr}
    {od_law_pick an_law_pick : Option Addr} {sl_law_pick : Array (Option Value)} {oc_law_pick kV_law_pick dc_law_pick pm_law_pick cd_law_pick ct_law_pick : Value}
    {f_law_made_up : Addr}
    {od_law_made_up an_law_made_up : Option Addr} {sl_law_made_up : Array (Option Value)} {oc_law_made_up kV_law_made_up dc_law_made_up pm_law_made_up cd_law_made_up ct_law_made_up : Value}
    {f_law_is_name : Addr}
    {od_law_is_name an_law_is_name : Option Addr} {sl_law_is_name : Array (Option Value)} {oc_law_is_name kV_law_is_name dc_law_is_name pm_law_is_name cd_law_is_name ct_law_is_name : Value}
    {f_law_are_ports : Addr}
    {od_law_are_ports an_law_are_ports : Option Addr} {sl_law_are_ports : Array (Option Value)} {oc_law_are_ports kV_law_are_ports dc_law_are_ports pm_law_are_ports cd_law_are_ports ct_law_are_ports : Value}
    {f_law_is_interface : Addr}
    {od_law_is_interface an_law_is_interface : Option Addr} {sl_law_is_interface : Array (Option Value)} {oc_law_is_interface kV_law_is_interface dc_law_is_interface pm_law_is_interface cd_law_is_interface ct_law_is_interface : Value}
    {f_law_wide : Addr}
    {od_law_wide an_law_wide : Option Addr} {sl_law_wide : Array (Option Value)} {oc_law_wide kV_law_wide dc_law_wide pm_law_wide cd_law_wide ct_law_wide : Value}
    {f_law_bent_tuple : Addr}
    {od_law_bent_tuple an_law_bent_tuple : Option Addr} {sl_law_bent_tuple : Array (Option Value)} {oc_law_bent_tuple kV_law_bent_tuple dc_law_bent_tuple pm_law_bent_tuple cd_law_bent_tuple ct_law_bent_tuple : Value}
    {f_law_bent : Addr}
    {od_law_bent an_law_bent : Option Addr} {sl_law_bent : Array (Option Value)} {oc_law_bent kV_law_bent dc_law_bent pm_law_bent cd_law_bent ct_law_bent : Value}
    {f_law_bounds_are_right : Addr}
    {od_law_bounds_are_right an_law_bounds_are_right : Option Addr} {sl_law_bounds_are_right : Array (Option Value)} {oc_law_bounds_are_right kV_law_bounds_are_right dc_law_bounds_are_right pm_law_bounds_are_right cd_law_bounds_are_right ct_law_bounds_are_right : Value}
    {f_law : Addr}
    {od_law an_law : Option Addr} {sl_law : Array (Option Value)} {oc_law kV_law dc_law pm_law cd_law ct_law : Value}
    {u_RESERVED : Addr} {uc_RESERVED : Option Addr} {un_RESERVED : Nat} {us_RESERVED : Array (Option Value)} {ut_RESERVED_0 : Tok} {ut_RESERVED_1 : Tok} {ut_RESERVED_2 : Tok} {ut_RESERVED_3 : Tok}
    (z_len : PySem.W.nsIn K mainGlobals "len" = some none)
    (z_abs : PySem.W.nsIn K mainGlobals "abs" = some none)
    (z_max : PySem.W.nsIn K mainGlobals "max" = some none)
    (z_min : PySem.W.nsIn K mainGlobals "min" = some none)
    (z_range : PySem.W.nsIn K mainGlobals "range" = some none)
    (z_isinstance : PySem.W.nsIn K mainGlobals "isinstance" = some none)
    (z_str : PySem.W.nsIn K mainGlobals "str" = some none)
    (z_tuple : PySem.W.nsIn K mainGlobals "tuple" = some none)
    (z_list : PySem.W.nsIn K mainGlobals "list" = some none)
    (z_set : PySem.W.nsIn K mainGlobals "set" = some none)
    (z_all : PySem.W.nsIn K mainGlobals "all" = some none)
    (z_sorted : PySem.W.nsIn K mainGlobals "sorted" = some none)
    (z_repr : PySem.W.nsIn K mainGlobals "repr" = some none)
    (z_bool : PySem.W.nsIn K mainGlobals "bool" = some none)
    (a_MAX_NAME : PySem.W.nsIn K mainGlobals "MAX_NAME" = some (some (.int 8 t_MAX_NAME)))
    (a_MAX_PORTS : PySem.W.nsIn K mainGlobals "MAX_PORTS" = some (some (.int 8 t_MAX_PORTS)))
    (a_LETTERS : PySem.W.nsIn K mainGlobals "LETTERS" = some (some (.str "abcdefghijklmnopqrstuvwxyz" t_LETTERS)))
    (a_is_name : PySem.W.nsIn K mainGlobals "is_name" = some (some (.ref f_is_name)))
    (l_is_name : K.lookup f_is_name = some ⟨oc_is_name, od_is_name, .func (PySem.W.fnOf "is_name" "is_name" (defArgs s_is_name) (defBody s_is_name) (defScope s_is_name) .none kV_is_name dc_is_name pm_is_name an_is_name cd_is_name ct_is_name), sl_is_name⟩)
    (c_is_name : PySem.W.codeIn K cd_is_name "is_name" = true)
    (k_is_name : PySem.W.keepIn K (.ref f_is_name) = true)
    (a_are_ports : PySem.W.nsIn K mainGlobals "are_ports" = some (some (.ref f_are_ports)))
    (l_are_ports : K.lookup f_are_ports = some ⟨oc_are_ports, od_are_ports, .func (PySem.W.fnOf "are_ports" "are_ports" (defArgs s_are_ports) (defBody s_are_ports) (defScope s_are_ports) .none kV_are_ports dc_are_ports pm_are_ports an_are_ports cd_are_ports ct_are_ports), sl_are_ports⟩)
    (c_are_ports : PySem.W.codeIn K cd_are_ports "are_ports" = true)
    (k_are_ports : PySem.W.keepIn K (.ref f_are_ports) = true)
    (a_is_part_of : PySem.W.nsIn K mainGlobals "is_part_of" = some (some (.ref f_is_part_of)))
    (l_is_part_of : K.lookup f_is_part_of = some ⟨oc_is_part_of, od_is_part_of, .func (PySem.W.fnOf "is_part_of" "is_part_of" (defArgs s_is_part_of) (defBody s_is_part_of) (defScope s_is_part_of) .none kV_is_part_of dc_is_part_of pm_is_part_of an_is_part_of cd_is_part_of ct_is_part_of), sl_is_part_of⟩)
    (c_is_part_of : PySem.W.codeIn K cd_is_part_of "is_part_of" = true)
    (k_is_part_of : PySem.W.keepIn K (.ref f_is_part_of) = true)
    (a_is_profile : PySem.W.nsIn K mainGlobals "is_profile" = some (some (.ref f_is_profile)))
    (l_is_profile : K.lookup f_is_profile = some ⟨oc_is_profile, od_is_profile, .func (PySem.W.fnOf "is_profile" "is_profile" (defArgs s_is_profile) (defBody s_is_profile) (defScope s_is_profile) .none kV_is_profile dc_is_profile pm_is_profile an_is_profile cd_is_profile ct_is_profile), sl_is_profile⟩)
    (c_is_profile : PySem.W.codeIn K cd_is_profile "is_profile" = true)
    (k_is_profile : PySem.W.keepIn K (.ref f_is_profile) = true)
    (a_is_interface : PySem.W.nsIn K mainGlobals "is_interface" = some (some (.ref f_is_interface)))
    (l_is_interface : K.lookup f_is_interface = some ⟨oc_is_interface, od_is_interface, .func (PySem.W.fnOf "is_interface" "is_interface" (defArgs s_is_interface) (defBody s_is_interface) (defScope s_is_interface) .none kV_is_interface dc_is_interface pm_is_interface an_is_interface cd_is_interface ct_is_interface), sl_is_interface⟩)
    (c_is_interface : PySem.W.codeIn K cd_is_interface "is_interface" = true)
    (k_is_interface : PySem.W.keepIn K (.ref f_is_interface) = true)
    (a_law_feed : PySem.W.nsIn K mainGlobals "_law_feed" = some (some (.ref f_law_feed)))
    (l_law_feed : K.lookup f_law_feed = some ⟨oc_law_feed, od_law_feed, .func (PySem.W.fnOf "_law_feed" "_law_feed" (defArgs s_law_feed) (defBody s_law_feed) (defScope s_law_feed) .none kV_law_feed dc_law_feed pm_law_feed an_law_feed cd_law_feed ct_law_feed), sl_law_feed⟩)
    (c_law_feed : PySem.W.codeIn K cd_law_feed "_law_feed" = true)
    (k_law_feed : PySem.W.keepIn K (.ref f_law_feed) = true)
    (a_law_take : PySem.W.nsIn K mainGlobals "_law_take" = some (some (.ref f_law_take)))
    (l_law_take : K.lookup f_law_take = some ⟨oc_law_take, od_law_take, .func (PySem.W.fnOf "_law_take" "_law_take" (defArgs s_law_take) (defBody s_law_take) (defScope s_law_take) .none kV_law_take dc_law_take pm_law_take an_law_take cd_law_take ct_law_take), sl_law_take⟩)
    (c_law_take : PySem.W.codeIn K cd_law_take "_law_take" = true)
    (k_law_take : PySem.W.keepIn K (.ref f_law_take) = true)
    (a_law_pick : PySem.W.nsIn K mainGlobals "_law_pick" = some (some (.ref f_law_pick)))
    (l_law_pick : K.lookup f_law_pick = some ⟨oc_law_pick, od_law_pick, .func (PySem.W.fnOf "_law_pick" "_law_pick" (defArgs s_law_pick) (defBody s_law_pick) (defScope s_law_pick) .none kV_law_pick dc_law_pick pm_law_pick an_law_pick cd_law_pick ct_law_pick), sl_law_pick⟩)
    (c_law_pick : PySem.W.codeIn K cd_law_pick "_law_pick" = true)
    (k_law_pick : PySem.W.keepIn K (.ref f_law_pick) = true)
    (a_law_made_up : PySem.W.nsIn K mainGlobals "_law_made_up" = some (some (.ref f_law_made_up)))
    (l_law_made_up : K.lookup f_law_made_up = some ⟨oc_law_made_up, od_law_made_up, .func (PySem.W.fnOf "_law_made_up" "_law_made_up" (defArgs s_law_made_up) (defBody s_law_made_up) (defScope s_law_made_up) .none kV_law_made_up dc_law_made_up pm_law_made_up an_law_made_up cd_law_made_up ct_law_made_up), sl_law_made_up⟩)
    (c_law_made_up : PySem.W.codeIn K cd_law_made_up "_law_made_up" = true)
    (k_law_made_up : PySem.W.keepIn K (.ref f_law_made_up) = true)
    (a_law_is_name : PySem.W.nsIn K mainGlobals "_law_is_name" = some (some (.ref f_law_is_name)))
    (l_law_is_name : K.lookup f_law_is_name = some ⟨oc_law_is_name, od_law_is_name, .func (PySem.W.fnOf "_law_is_name" "_law_is_name" (defArgs s_law_is_name) (defBody s_law_is_name) (defScope s_law_is_name) .none kV_law_is_name dc_law_is_name pm_law_is_name an_law_is_name cd_law_is_name ct_law_is_name), sl_law_is_name⟩)
    (c_law_is_name : PySem.W.codeIn K cd_law_is_name "_law_is_name" = true)
    (k_law_is_name : PySem.W.keepIn K (.ref f_law_is_name) = true)
    (a_law_are_ports : PySem.W.nsIn K mainGlobals "_law_are_ports" = some (some (.ref f_law_are_ports)))
    (l_law_are_ports : K.lookup f_law_are_ports = some ⟨oc_law_are_ports, od_law_are_ports, .func (PySem.W.fnOf "_law_are_ports" "_law_are_ports" (defArgs s_law_are_ports) (defBody s_law_are_ports) (defScope s_law_are_ports) .none kV_law_are_ports dc_law_are_ports pm_law_are_ports an_law_are_ports cd_law_are_ports ct_law_are_ports), sl_law_are_ports⟩)
    (c_law_are_ports : PySem.W.codeIn K cd_law_are_ports "_law_are_ports" = true)
    (k_law_are_ports : PySem.W.keepIn K (.ref f_law_are_ports) = true)
    (a_law_is_interface : PySem.W.nsIn K mainGlobals "_law_is_interface" = some (some (.ref f_law_is_interface)))
    (l_law_is_interface : K.lookup f_law_is_interface = some ⟨oc_law_is_interface, od_law_is_interface, .func (PySem.W.fnOf "_law_is_interface" "_law_is_interface" (defArgs s_law_is_interface) (defBody s_law_is_interface) (defScope s_law_is_interface) .none kV_law_is_interface dc_law_is_interface pm_law_is_interface an_law_is_interface cd_law_is_interface ct_law_is_interface), sl_law_is_interface⟩)
    (c_law_is_interface : PySem.W.codeIn K cd_law_is_interface "_law_is_interface" = true)
    (k_law_is_interface : PySem.W.keepIn K (.ref f_law_is_interface) = true)
    (a_law_wide : PySem.W.nsIn K mainGlobals "_law_wide" = some (some (.ref f_law_wide)))
    (l_law_wide : K.lookup f_law_wide = some ⟨oc_law_wide, od_law_wide, .func (PySem.W.fnOf "_law_wide" "_law_wide" (defArgs s_law_wide) (defBody s_law_wide) (defScope s_law_wide) .none kV_law_wide dc_law_wide pm_law_wide an_law_wide cd_law_wide ct_law_wide), sl_law_wide⟩)
    (c_law_wide : PySem.W.codeIn K cd_law_wide "_law_wide" = true)
    (k_law_wide : PySem.W.keepIn K (.ref f_law_wide) = true)
    (a_law_bent_tuple : PySem.W.nsIn K mainGlobals "_law_bent_tuple" = some (some (.ref f_law_bent_tuple)))
    (l_law_bent_tuple : K.lookup f_law_bent_tuple = some ⟨oc_law_bent_tuple, od_law_bent_tuple, .func (PySem.W.fnOf "_law_bent_tuple" "_law_bent_tuple" (defArgs s_law_bent_tuple) (defBody s_law_bent_tuple) (defScope s_law_bent_tuple) .none kV_law_bent_tuple dc_law_bent_tuple pm_law_bent_tuple an_law_bent_tuple cd_law_bent_tuple ct_law_bent_tuple), sl_law_bent_tuple⟩)
    (c_law_bent_tuple : PySem.W.codeIn K cd_law_bent_tuple "_law_bent_tuple" = true)
    (k_law_bent_tuple : PySem.W.keepIn K (.ref f_law_bent_tuple) = true)
    (a_law_bent : PySem.W.nsIn K mainGlobals "_law_bent" = some (some (.ref f_law_bent)))
    (l_law_bent : K.lookup f_law_bent = some ⟨oc_law_bent, od_law_bent, .func (PySem.W.fnOf "_law_bent" "_law_bent" (defArgs s_law_bent) (defBody s_law_bent) (defScope s_law_bent) .none kV_law_bent dc_law_bent pm_law_bent an_law_bent cd_law_bent ct_law_bent), sl_law_bent⟩)
    (c_law_bent : PySem.W.codeIn K cd_law_bent "_law_bent" = true)
    (k_law_bent : PySem.W.keepIn K (.ref f_law_bent) = true)
    (a_law_bounds_are_right : PySem.W.nsIn K mainGlobals "_law_bounds_are_right" = some (some (.ref f_law_bounds_are_right)))
    (l_law_bounds_are_right : K.lookup f_law_bounds_are_right = some ⟨oc_law_bounds_are_right, od_law_bounds_are_right, .func (PySem.W.fnOf "_law_bounds_are_right" "_law_bounds_are_right" (defArgs s_law_bounds_are_right) (defBody s_law_bounds_are_right) (defScope s_law_bounds_are_right) .none kV_law_bounds_are_right dc_law_bounds_are_right pm_law_bounds_are_right an_law_bounds_are_right cd_law_bounds_are_right ct_law_bounds_are_right), sl_law_bounds_are_right⟩)
    (c_law_bounds_are_right : PySem.W.codeIn K cd_law_bounds_are_right "_law_bounds_are_right" = true)
    (k_law_bounds_are_right : PySem.W.keepIn K (.ref f_law_bounds_are_right) = true)
    (a_law : PySem.W.nsIn K mainGlobals "law" = some (some (.ref f_law)))
    (l_law : K.lookup f_law = some ⟨oc_law, od_law, .func (PySem.W.fnOf "law" "law" (defArgs s_law) (defBody s_law) (defScope s_law) .none kV_law dc_law pm_law an_law cd_law ct_law), sl_law⟩)
    (c_law : PySem.W.codeIn K cd_law "law" = true)
    (k_law : PySem.W.keepIn K (.ref f_law) = true)
    (a_RESERVED : PySem.W.nsIn K mainGlobals "RESERVED" = some (some (.ref u_RESERVED)))
    (l_RESERVED : K.lookup u_RESERVED = some ⟨.type "tuple", uc_RESERVED, .seq #[.str "block" ut_RESERVED_0, .str "part" ut_RESERVED_1, .str "end" ut_RESERVED_2, .str "self" ut_RESERVED_3] un_RESERVED, us_RESERVED⟩) :
    ∃ fd : FuncData, (∀ (s : Shared) (v : Value), BindsTo s fd ⟨[v], []⟩ [("script", v)]) ∧ ∀ base : Heap, K.In base → base.Ns mainGlobals mg → FnG l.prog w K mg base CX0 9 fa fd ["script"] (spLaw K) := by
  have e := hfa.symm.trans (PySem.W.mg_of X G a_law)
  cases e
  let ad : Adr := { t_MAX_NAME := t_MAX_NAME, t_MAX_PORTS := t_MAX_PORTS, t_LETTERS := t_LETTERS, f_is_name := f_is_name, f_are_ports := f_are_ports, f_is_part_of := f_is_part_of, f_is_profile := f_is_profile, f_is_interface := f_is_interface, f_law_feed := f_law_feed, f_law_take := f_law_take, f_law_pick := f_law_pick, f_law_made_up := f_law_made_up, f_law_is_name := f_law_is_name, f_law_are_ports := f_law_are_ports, f_law_is_interface := f_law_is_interface, f_law_wide := f_law_wide, f_law_bent_tuple := f_law_bent_tuple, f_law_bent := f_law_bent, f_law_bounds_are_right := f_law_bounds_are_right, f_law := fa, u_RESERVED := u_RESERVED }
  have F_is_name := fun_mk (st := s_is_name) l_is_name c_is_name k_is_name
  have b_is_name := F_is_name.binds (ps := ["word"]) fun _ _ _ _ _ _ us hl => match us, hl with | [_], _ => rfl
  have F_are_ports := fun_mk (st := s_are_ports) l_are_ports c_are_ports k_are_ports
  have b_are_ports := F_are_ports.binds (ps := ["value"]) fun _ _ _ _ _ _ us hl => match us, hl with | [_], _ => rfl
  have F_is_part_of := fun_mk (st := s_is_part_of) l_is_part_of c_is_part_of k_is_part_of
  have b_is_part_of := F_is_part_of.binds (ps := ["value", "names"]) fun _ _ _ _ _ _ us hl => match us, hl with | [_, _], _ => rfl
  have F_is_profile := fun_mk (st := s_is_profile) l_is_profile c_is_profile k_is_profile
  have b_is_profile := F_is_profile.binds (ps := ["value", "inputs", "outputs"]) fun _ _ _ _ _ _ us hl => match us, hl with | [_, _, _], _ => rfl
  have F_is_interface := fun_mk (st := s_is_interface) l_is_interface c_is_interface k_is_interface
  have b_is_interface := F_is_interface.binds (ps := ["value"]) fun _ _ _ _ _ _ us hl => match us, hl with | [_], _ => rfl
  have F_law_feed := fun_mk (st := s_law_feed) l_law_feed c_law_feed k_law_feed
  have b_law_feed := F_law_feed.binds (ps := ["script", "k"]) fun _ _ _ _ _ _ us hl => match us, hl with | [_, _], _ => rfl
  have F_law_take := fun_mk (st := s_law_take) l_law_take c_law_take k_law_take
  have b_law_take := F_law_take.binds (ps := ["feed", "size"]) fun _ _ _ _ _ _ us hl => match us, hl with | [_, _], _ => rfl
  have F_law_pick := fun_mk (st := s_law_pick) l_law_pick c_law_pick k_law_pick
  have b_law_pick := F_law_pick.binds (ps := ["feed", "choices"]) fun _ _ _ _ _ _ us hl => match us, hl with | [_, _], _ => rfl
  have F_law_made_up := fun_mk (st := s_law_made_up) l_law_made_up c_law_made_up k_law_made_up
  have b_law_made_up := F_law_made_up.binds (ps := ["feed"]) fun _ _ _ _ _ _ us hl => match us, hl with | [_], _ => rfl
  have F_law_is_name := fun_mk (st := s_law_is_name) l_law_is_name c_law_is_name k_law_is_name
  have b_law_is_name := F_law_is_name.binds (ps := ["value"]) fun _ _ _ _ _ _ us hl => match us, hl with | [_], _ => rfl
  have F_law_are_ports := fun_mk (st := s_law_are_ports) l_law_are_ports c_law_are_ports k_law_are_ports
  have b_law_are_ports := F_law_are_ports.binds (ps := ["value"]) fun _ _ _ _ _ _ us hl => match us, hl with | [_], _ => rfl
  have F_law_is_interface := fun_mk (st := s_law_is_interface) l_law_is_interface c_law_is_interface k_law_is_interface
  have b_law_is_interface := F_law_is_interface.binds (ps := ["value"]) fun _ _ _ _ _ _ us hl => match us, hl with | [_], _ => rfl
  have F_law_wide := fun_mk (st := s_law_wide) l_law_wide c_law_wide k_law_wide
  have b_law_wide := F_law_wide.binds (ps := ["feed"]) fun _ _ _ _ _ _ us hl => match us, hl with | [_], _ => rfl
  have F_law_bent_tuple := fun_mk (st := s_law_bent_tuple) l_law_bent_tuple c_law_bent_tuple k_law_bent_tuple
  have b_law_bent_tuple := F_law_bent_tuple.binds (ps := ["feed", "value"]) fun _ _ _ _ _ _ us hl => match us, hl with | [_, _], _ => rfl
  have F_law_bent := fun_mk (st := s_law_bent) l_law_bent c_law_bent k_law_bent
  have b_law_bent := F_law_bent.binds (ps := ["feed", "value"]) fun _ _ _ _ _ _ us hl => match us, hl with | [_, _], _ => rfl
  have F_law_bounds_are_right := fun_mk (st := s_law_bounds_are_right) l_law_bounds_are_right c_law_bounds_are_right k_law_bounds_are_right
  have b_law_bounds_are_right := F_law_bounds_are_right.binds (ps := ["feed"]) fun _ _ _ _ _ _ us hl => match us, hl with | [_], _ => rfl
  have F_law := fun_mk (st := s_law) l_law c_law k_law
  have b_law := F_law.binds (ps := ["script"]) fun _ _ _ _ _ _ us hl => match us, hl with | [_], _ => rfl
  have T : Txt K w mg ad := { n_len := PySem.W.mg_none_of X G z_len, n_abs := PySem.W.mg_none_of X G z_abs, n_max := PySem.W.mg_none_of X G z_max, n_min := PySem.W.mg_none_of X G z_min, n_range := PySem.W.mg_none_of X G z_range, n_isinstance := PySem.W.mg_none_of X G z_isinstance, n_str := PySem.W.mg_none_of X G z_str, n_tuple := PySem.W.mg_none_of X G z_tuple, n_list := PySem.W.mg_none_of X G z_list, n_set := PySem.W.mg_none_of X G z_set, n_all := PySem.W.mg_none_of X G z_all, n_sorted := PySem.W.mg_none_of X G z_sorted, n_repr := PySem.W.mg_none_of X G z_repr, n_bool := PySem.W.mg_none_of X G z_bool, g_MAX_NAME := PySem.W.mg_of X G a_MAX_NAME, g_MAX_PORTS := PySem.W.mg_of X G a_MAX_PORTS, g_LETTERS := PySem.W.mg_of X G a_LETTERS, g_is_name := PySem.W.mg_of X G a_is_name, k_is_name := k_is_name, g_are_ports := PySem.W.mg_of X G a_are_ports, k_are_ports := k_are_ports, g_is_part_of := PySem.W.mg_of X G a_is_part_of, k_is_part_of := k_is_part_of, g_is_profile := PySem.W.mg_of X G a_is_profile, k_is_profile := k_is_profile, g_is_interface := PySem.W.mg_of X G a_is_interface, k_is_interface := k_is_interface, g__law_feed := PySem.W.mg_of X G a_law_feed, k__law_feed := k_law_feed, g__law_take := PySem.W.mg_of X G a_law_take, k__law_take := k_law_take, g__law_pick := PySem.W.mg_of X G a_law_pick, k__law_pick := k_law_pick, g__law_made_up := PySem.W.mg_of X G a_law_made_up, k__law_made_up := k_law_made_up, g__law_is_name := PySem.W.mg_of X G a_law_is_name, k__law_is_name := k_law_is_name, g__law_are_ports := PySem.W.mg_of X G a_law_are_ports, k__law_are_ports := k_law_are_ports, g__law_is_interface := PySem.W.mg_of X G a_law_is_interface, k__law_is_interface := k_law_is_interface, g__law_wide := PySem.W.mg_of X G a_law_wide, k__law_wide := k_law_wide, g__law_bent_tuple := PySem.W.mg_of X G a_law_bent_tuple, k__law_bent_tuple := k_law_bent_tuple, g__law_bent := PySem.W.mg_of X G a_law_bent, k__law_bent := k_law_bent, g__law_bounds_are_right := PySem.W.mg_of X G a_law_bounds_are_right, k__law_bounds_are_right := k_law_bounds_are_right, g_law := PySem.W.mg_of X G a_law, k_law := k_law, g_RESERVED := PySem.W.mg_of X G a_RESERVED, u_RESERVED := sqt_K l_RESERVED (szl (show 4 ≤ 100000 by decide)) (.cons ⟨_, rfl⟩ (.cons ⟨_, rfl⟩ (.cons ⟨_, rfl⟩ (.cons ⟨_, rfl⟩ .nil)))) }
  refine ⟨PySem.W.fnOf "law" "law" (defArgs s_law) (defBody s_law) (defScope s_law) .none kV_law dc_law pm_law an_law cd_law ct_law, fun s v => .of_eq rfl, fun base _ _ => ?_⟩
  have G_is_name : FnOk l.prog w K mg base CX0 1 f_is_name _ ["word"] spNameQ := ok_name (ad := ad) F_is_name T
  have G_are_ports : FnOk l.prog w K mg base CX0 2 f_are_ports _ ["value"] spPortsQ := ok_ports (ad := ad) F_are_ports T G_is_name b_is_name
  have G_is_part_of : FnOk l.prog w K mg base CX0 3 f_is_part_of _ ["value", "names"] spPartQ := ok_part (ad := ad) F_is_part_of T G_are_ports b_are_ports
  have G_is_profile : FnOk l.prog w K mg base CX0 4 f_is_profile _ ["value", "inputs", "outputs"] spProfQ := ok_prof (ad := ad) F_is_profile T G_is_part_of b_is_part_of
  have G_is_interface : FnOk l.prog w K mg base CX0 5 f_is_interface _ ["value"] spIfQ := ok_isif (ad := ad) F_is_interface T G_are_ports b_are_ports G_is_profile b_is_profile
  have G_law_is_name : FnOk l.prog w K mg base CX0 1 f_law_is_name _ ["value"] spNameQ := ok_lname (ad := ad) F_law_is_name T
  have G_law_are_ports : FnOk l.prog w K mg base CX0 2 f_law_are_ports _ ["value"] spPortsQ := ok_lports (ad := ad) F_law_are_ports T G_law_is_name b_law_is_name
  have G_law_is_interface : FnOk l.prog w K mg base CX0 3 f_law_is_interface _ ["value"] spIfQ := ok_lisif (ad := ad) F_law_is_interface T G_law_are_ports b_law_are_ports
  have G_law_feed : FnOk l.prog w K mg base CX0 1 f_law_feed _ ["script", "k"] (spFeedS K) := ok_feed (ad := ad) F_law_feed T
  have G_law_take : FnOk l.prog w K mg base CX0 1 f_law_take _ ["feed", "size"] spTake := ok_take F_law_take
  have G_law_pick : FnOk l.prog w K mg base CX0 2 f_law_pick _ ["feed", "choices"] (spPick K) := ok_pick (ad := ad) F_law_pick T G_law_take b_law_take
  have G_law_made_up : FnOk l.prog w K mg base CX0 3 f_law_made_up _ ["feed"] spMade := ok_made (ad := ad) F_law_made_up T G_law_take b_law_take G_law_pick b_law_pick
  have G_law_wide : FnOk l.prog w K mg base CX0 2 f_law_wide _ ["feed"] spMade := ok_wide (ad := ad) F_law_wide T G_law_take b_law_take
  have G_law_bent_tuple : FnOk l.prog w K mg base CX0 3 f_law_bent_tuple _ ["feed", "value"] spBentT := ok_bentt (ad := ad) F_law_bent_tuple T G_law_take b_law_take G_law_pick b_law_pick
  have G_law_bent : FnOk l.prog w K mg base CX0 4 f_law_bent _ ["feed", "value"] spBent := ok_bent (ad := ad) F_law_bent T G_law_take b_law_take G_law_pick b_law_pick G_law_bent_tuple b_law_bent_tuple
  have G_law_bounds_are_right : FnOk l.prog w K mg base CX0 6 f_law_bounds_are_right _ ["feed"] spBounds := ok_bounds (ad := ad) F_law_bounds_are_right T G_law_take b_law_take G_is_interface b_is_interface
  exact ok_law (ad := ad) F_law T G_law_feed b_law_feed G_law_take b_law_take G_law_made_up b_law_made_up G_law_wide b_law_wide G_law_bent b_law_bent G_law_bounds_are_right b_law_bounds_are_right G_is_interface b_is_interface G_law_is_interface b_law_is_interface
theorem walk {l : PySem.W.OpenLaw} {q : Program} {loose : List Str} {XP : (Str → Option Value) → Heap → Prop} {YP : World → Heap → Prop} {d : DefRec} {K : Params → PySem.W.Frag} (hn : l.most = some 63) (hdf : d.params.defaults = [])
    (hY : ∀ (w : World) (h : Heap), YP w h → (K w.params).In h)
    (F : ∀ (w : World) (mg : Str → Option Value) (fa : Addr) (h : Heap), (K w.params).In h → h.Ns mainGlobals mg → mg d.name = some (.ref fa) →
      ∃ fd : FuncData, (∀ (s : Shared) (u : Value), BindsTo s fd ⟨[u], []⟩ [("script", u)]) ∧ ∀ base : Heap, (K w.params).In base → base.Ns mainGlobals mg → FnG l.prog w (K w.params) mg base CX0 9 fa fd ["script"] (spLaw (K w.params))) :
    PySem.W.WalkO q loose XP YP l.row.toRowW d [] (fun f vs => PySem.call f vs) :=
  walk_ofG (n := 63) (k := 9) (x := "script") (sp := fun w => spLaw (K w.params)) hn (by decide) hdf ⟨rfl, by decide, by decide⟩ hY F fun _ _ a ns hl hS => ⟨a, ns, rfl, hS, hl, fun _ => rfl⟩
end K22

set_option maxRecDepth 100000
open PySem PySem.W PyProof.Rows

open PySem PySem.W PyProof.Rows in
set_option maxRecDepth 100000 in
set_option maxHeartbeats 0 in
theorem PySem.Challenge.cw_stepblocks_k22_interfaces_judged_holds : PySem.Challenge.rw_stepblocks_k22_interfaces_judged.Holds := by
  w_on; o_law; k_head; (case hw => w_witness2)
  k_fill
  refine K22.walk (l := PySem.Challenge.rw_stepblocks_k22_interfaces_judged) rfl rfl (fun w h Y => PySem.W.kIn_of Y) ?F
  case F =>
    intro w mg fa h KX G hmg
    refine' K22.all_mk KX G hmg ?z_len ?z_abs ?z_max ?z_min ?z_range ?z_isinstance ?z_str ?z_tuple ?z_list ?z_set ?z_all ?z_sorted ?z_repr ?z_bool ?a_MAX_NAME ?a_MAX_PORTS ?a_LETTERS ?a_is_name ?l_is_name ?c_is_name ?k_is_name ?a_are_ports ?l_are_ports ?c_are_ports ?k_are_ports ?a_is_part_of ?l_is_part_of ?c_is_part_of ?k_is_part_of ?a_is_profile ?l_is_profile ?c_is_profile ?k_is_profile ?a_is_interface ?l_is_interface ?c_is_interface ?k_is_interface ?a_law_feed ?l_law_feed ?c_law_feed ?k_law_feed ?a_law_take ?l_law_take ?c_law_take ?k_law_take ?a_law_pick ?l_law_pick ?c_law_pick ?k_law_pick ?a_law_made_up ?l_law_made_up ?c_law_made_up ?k_law_made_up ?a_law_is_name ?l_law_is_name ?c_law_is_name ?k_law_is_name ?a_law_are_ports ?l_law_are_ports ?c_law_are_ports ?k_law_are_ports ?a_law_is_interface ?l_law_is_interface ?c_law_is_interface ?k_law_is_interface ?a_law_wide ?l_law_wide ?c_law_wide ?k_law_wide ?a_law_bent_tuple ?l_law_bent_tuple ?c_law_bent_tuple ?k_law_bent_tuple ?a_law_bent ?l_law_bent ?c_law_bent ?k_law_bent ?a_law_bounds_are_right ?l_law_bounds_are_right ?c_law_bounds_are_right ?k_law_bounds_are_right ?a_law ?l_law ?c_law ?k_law ?a_RESERVED ?l_RESERVED
    (case z_len => k_is)
    (case z_abs => k_is)
    (case z_max => k_is)
    (case z_min => k_is)
    (case z_range => k_is)
    (case z_isinstance => k_is)
    (case z_str => k_is)
    (case z_tuple => k_is)
    (case z_list => k_is)
    (case z_set => k_is)
    (case z_all => k_is)
    (case z_sorted => k_is)
    (case z_repr => k_is)
    (case z_bool => k_is)
    (case a_MAX_NAME => k_is)
    (case a_MAX_PORTS => k_is)
    (case a_LETTERS => k_is)
    (case a_is_name => k_is)
    (case l_is_name => k_is)
    (case c_is_name => k_is)
    (case k_is_name => k_is)
    (case a_are_ports => k_is)
    (case l_are_ports => k_is)
    (case c_are_ports => k_is)
    (case k_are_ports => k_is)
    (case a_is_part_of => k_is)
    (case l_is_part_of => k_is)
    (case c_is_part_of => k_is)
    (case k_is_part_of => k_is)
    (case a_is_profile => k_is)
    (case l_is_profile => k_is)
    (case c_is_profile => k_is)
    (case k_is_profile => k_is)
    (case a_is_interface => k_is)
    (case l_is_interface => k_is)
    (case c_is_interface => k_is)
    (case k_is_interface => k_is)
    (case a_law_feed => k_is)
    (case l_law_feed => k_is)
    (case c_law_feed => k_is)
    (case k_law_feed => k_is)
    (case a_law_take => k_is)
    (case l_law_take => k_is)
    (case c_law_take => k_is)
    (case k_law_take => k_is)
    (case a_law_pick => k_is)
    (case l_law_pick => k_is)
    (case c_law_pick => k_is)
    (case k_law_pick => k_is)
    (case a_law_made_up => k_is)
    (case l_law_made_up => k_is)
    (case c_law_made_up => k_is)
    (case k_law_made_up => k_is)
    (case a_law_is_name => k_is)
    (case l_law_is_name => k_is)
    (case c_law_is_name => k_is)
    (case k_law_is_name => k_is)
    (case a_law_are_ports => k_is)
    (case l_law_are_ports => k_is)
    (case c_law_are_ports => k_is)
    (case k_law_are_ports => k_is)
    (case a_law_is_interface => k_is)
    (case l_law_is_interface => k_is)
    (case c_law_is_interface => k_is)
    (case k_law_is_interface => k_is)
    (case a_law_wide => k_is)
    (case l_law_wide => k_is)
    (case c_law_wide => k_is)
    (case k_law_wide => k_is)
    (case a_law_bent_tuple => k_is)
    (case l_law_bent_tuple => k_is)
    (case c_law_bent_tuple => k_is)
    (case k_law_bent_tuple => k_is)
    (case a_law_bent => k_is)
    (case l_law_bent => k_is)
    (case c_law_bent => k_is)
    (case k_law_bent => k_is)
    (case a_law_bounds_are_right => k_is)
    (case l_law_bounds_are_right => k_is)
    (case c_law_bounds_are_right => k_is)
    (case k_law_bounds_are_right => k_is)
    (case a_law => k_is)
    (case l_law => k_is)
    (case c_law => k_is)
    (case k_law => k_is)
    (case a_RESERVED => k_is)
    (case l_RESERVED => k_is)
#print axioms PySem.Challenge.cw_stepblocks_k22_interfaces_judged_holds
