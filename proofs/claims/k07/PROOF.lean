import PyProof.Rows.All
import Wide.All
import OpenK.AllK
import Wide.FinOn
import HandS.ForMost
import KE.KSuper
import HandS.Wide
import HandS.IsInst
import HandS.ClsMeth
import HandS.FStr
import HandS.RaiseMore
import KE.KCallOwn
import PyProof.ReprRoads
import HandS.Walk
import HandS.Codes
import KE.KIntText
import KE.IntTextLaws
import KE.KxText
import KE.KxLen
import PyProof.ReprLen
import PyProof.StrLawsChain
import PyProof.StrBlock2
import HandS.Exc
import HandS.ExcOwn
import HandS.ExcValue
import HandS.ExcInit
import HandS.ExcField
import KE.KExcIs
import HandS.Style
import HandS.Sort
import HandS.SortOrd
import HandS.SortRule
import KE.KSortTup
import KE.KSortTupAny
import HandS.Dict
import HandS.DictEq
import KE.KEqDict
import PyProof.Rows.SetFrom
import PyProof.Rows.SortShellAny
import HandS.Set
import HandS.SetFor
import HandS.Strs
import KE.KAssignIn
import PyProof.Rows.RegReprOcc
import PyProof.EnumMake
import PyProof.EnumFor
import KE.GoesMore
import KE.GoesEnum
import HandS.Iter
import HandS.DictComp
import PyProof.ListStr
import PyProof.Rows.StrJoinStr
import HandS.More
import HandS.NoneIn
import HandS.WordsExc
import HandS.ExcIs
import PySem.Challenge.RW_stepblocks_k07_wrong_rows
set_option Elab.async false
set_option linter.all false
set_option maxRecDepth 100000
set_option maxHeartbeats 2000000
/-! a def of a class whose first statement is super().__init__(..): its promise by the rest of its body -/
namespace SupX
open PySem PySem.W PyProof.Rows L2

theorem cellsFrom_app : ∀ (names : List (Str × NameKind)) (n : Nat) (a b : List (Str × Addr)), cellsFrom n names (a ++ b) = cellsFrom n names a ++ b
  | [], _, _, _ => rfl
  | (name, kind) :: r, n, a, b => by
    unfold cellsFrom
    split
    · exact cellsFrom_app r (n + 1) ((name, n) :: a) b
    · exact cellsFrom_app r n a b
theorem look_app {l r : List (Str × Addr)} {x : Str} {c : Addr} (h : l.lookup x = some c) : (l ++ r).lookup x = some c := by
  rw [List.lookup_append, h] <;> rfl

section
variable {M : Model} {A : Around} {E : Value → Shared → Prop} {s₀ s : Shared} {m cm : Str → Option Value} {env : Env} {cs : List (Str × Addr)}
theorem stLX {n : Str} {v : Value} {Q : Unit → Shared → Prop} (x : InCallC s₀ env.locals m cs cm s) (hk : env.scope.kind = .function) (hl : env.kindOf n = some .local)
    (h : ∀ s', InCallC s₀ env.locals (fun y => if y = n then some v else m y) cs cm s' → Q () s') : wpAny M A (storeName env n v) Q E s := by
  refine wpAny_storeName_local hl x.toInCall.ns (fun h' hn' hs' => h _ ⟨⟨?_, hn', fun b o e => ?_, x.toInCall.fresh⟩, fun k c hc => ?_, x.apart, x.above⟩) (by rw [hk]; rfl)
  · obtain ⟨h₁, tk, rfl⟩ := x.toInCall.same
    exact ⟨h', _, rfl⟩
  · exact hs'.extBut b o (Nat.ne_of_lt (Nat.lt_of_lt_of_le (Heap.lt_size e) x.toInCall.fresh)) (x.toInCall.keep b o e)
  · exact (x.cell k c hc).sameBut hs' (Nat.ne_of_gt (x.above k c (PySem.mem_of_lookup hc)))
theorem stCX {n : Str} {c : Addr} {v : Value} {Q : Unit → Shared → Prop} (x : InCallC s₀ env.locals m cs cm s) (hk : env.scope.kind = .function) (hl : env.kindOf n = some .cell)
    (hc0 : cs.lookup n = some c) (hc : env.cells.lookup n = some c)
    (h : ∀ s', InCallC s₀ env.locals m cs (fun y => if y = n then some v else cm y) s' → Q () s') : wpAny M A (storeName env n v) Q E s := by
  have hLc := x.above n c (PySem.mem_of_lookup hc0)
  refine wpAny_storeName_cell hk hl hc (x.cell n c hc0) fun h' hc' hs' => h _ ⟨⟨?_, x.toInCall.ns.sameBut hs' (Nat.ne_of_lt hLc), fun b o e => ?_, x.toInCall.fresh⟩, fun k c' hk' => ?_, x.apart, x.above⟩
  · obtain ⟨h₁, tk, rfl⟩ := x.toInCall.same
    exact ⟨h', _, rfl⟩
  · exact hs'.extBut b o (Nat.ne_of_lt (Nat.lt_trans (Nat.lt_of_lt_of_le (Heap.lt_size e) x.toInCall.fresh) hLc)) (x.toInCall.keep b o e)
  · by_cases hkn : k = n
    · subst hkn
      rw [hc0] at hk'; cases hk'
      simpa using hc'
    · rw [if_neg hkn]
      exact (x.cell k c' hk').sameBut hs' fun e => hkn (name_of_addr x.apart (PySem.mem_of_lookup hk') (e ▸ PySem.mem_of_lookup hc0))
theorem bindX (f : Str × Value → PUnit → Sem (ForInStep PUnit)) (hf : ∀ n v u, f (n, v) u = (do storeName env n v; pure (.yield ⟨⟩))) (hk : env.scope.kind = .function) (hcs : ∀ n c, cs.lookup n = some c → env.cells.lookup n = some c) :
    ∀ (binds : List (Str × Value)) (m cm : Str → Option Value) (s : Shared) (Q : PUnit → Shared → Prop), InCallC s₀ env.locals m cs cm s →
      (∀ x ∈ binds, env.kindOf x.1 = some .local ∨ (env.kindOf x.1 = some .cell ∧ (cs.lookup x.1).isSome = true)) →
      (∀ s', InCallC s₀ env.locals (bindL env.kindOf binds m) cs (bindC env.kindOf binds cm) s' → Q ⟨⟩ s') → wpAny M A (forIn binds ⟨⟩ f) Q E s
  | [], m, cm, s, Q, x, _, h => by rw [List.forIn_nil]; exact wpAny_pure (h s x)
  | (n, v) :: r, m, cm, s, Q, x, hkind, h => by
    rw [List.forIn_cons, hf]
    have hr : ∀ y ∈ r, env.kindOf y.1 = some .local ∨ (env.kindOf y.1 = some .cell ∧ (cs.lookup y.1).isSome = true) := fun y hy => hkind y (List.mem_cons_of_mem _ hy)
    rcases hkind (n, v) List.mem_cons_self with hl | ⟨hl, hc⟩
    · refine wpAny_bind (wpAny_bind (stLX x hk hl fun s' x' => wpAny_pure (bindX f hf hk hcs r _ _ s' Q x' hr fun s'' x'' => h s'' ?_)))
      unfold bindL bindC; rw [if_pos hl, if_pos hl]; exact x''
    · obtain ⟨c, hc⟩ := Option.isSome_iff_exists.mp hc
      have hnl : ¬ env.kindOf n = some .local := by rw [hl]; decide
      refine wpAny_bind (wpAny_bind (stCX x hk hl hc (hcs _ _ hc) fun s' x' => wpAny_pure (bindX f hf hk hcs r _ _ s' Q x' hr fun s'' x'' => h s'' ?_)))
      unfold bindL bindC; rw [if_neg hnl, if_neg hnl]; exact x''
theorem newEnvX {scope : Scope} {globals : Addr} {clo : List (Str × Addr)} {binds : List (Str × Value)} {qual : Str} {func : Option Addr} {code : Value} {builtins : Addr} {Q : Env → Shared → Prop}
    (hk : scope.kind = .function)
    (hkind : ∀ x ∈ binds, scope.names.lookup x.1 = some .local ∨ (scope.names.lookup x.1 = some .cell ∧ ((cellsFrom (s.heap.objs.size + 1) scope.names []).lookup x.1).isSome = true))
    (hQ : ∀ env, env = newEnv scope s.heap.objs.size globals (cellsFrom (s.heap.objs.size + 1) scope.names clo) qual func code none builtins →
      ∀ s', InCallC s env.locals (bindL env.kindOf binds fun _ => none) (cellsFrom (s.heap.objs.size + 1) scope.names []) (bindC env.kindOf binds fun _ => none) s' → Q env s') :
    wpAny M A (newFunctionEnv scope globals clo binds qual func code none builtins) Q E s := by
  simp only [newFunctionEnv, Option.isSome_none, Bool.false_eq_true, if_false]
  refine wpAny_bind (wpAny_alloc ?_)
  refine wpAny_bind (wpAny_layCells _ (fun name kind cells => by cases hkc : kind == NameKind.cell <;> simp [hkc]) _ _ _ _ ?_)
  have ok := cellsFrom_ok scope.names (s.heap.push { cls := .type "frame", data := .dict #[] }) (s.heap.objs.size + 1) [] ⟨fun _ _ hm => (nomatch hm), List.Pairwise.nil⟩ (by rw [Heap.size_push]; exact Nat.le_refl _)
  rw [Heap.size_push] at ok
  rw [show ({ s with heap := s.heap.push { cls := .type "frame", data := .dict #[] } } : Shared).heap.objs.size = s.heap.objs.size + 1 from Heap.size_push ..]
  refine wpAny_bind (bindX (s₀ := s) (cs := cellsFrom (s.heap.objs.size + 1) scope.names []) (env := newEnv scope s.heap.objs.size globals (cellsFrom (s.heap.objs.size + 1) scope.names clo) qual func code none builtins)
    _ (fun _ _ _ => rfl) hk (fun n c h => ?_) binds (fun _ => none) (fun _ => none) _ _
    ⟨⟨⟨_, _, rfl⟩, (Heap.Ns.new s.heap (.type "frame")).keeps (pushCells_keeps _ _), fun b o e => pushCells_keeps _ _ b o (Heap.get?_push_of_some _ e), Nat.le_refl _⟩,
      fun n c hc => (ok.empty n c (PySem.mem_of_lookup hc)).1, ok.apart, fun n c hm => (ok.empty n c hm).2⟩
    hkind fun s' x => wpAny_pure (hQ _ rfl s' x))
  show (cellsFrom (s.heap.objs.size + 1) scope.names clo).lookup n = some c
  rw [show clo = [] ++ clo from rfl, cellsFrom_app]
  exact look_app h
end

/-! ### the frame of such a def -/
abbrev envS (qual : Str) (scope : Scope) (L a : Addr) (cd : Value) (cc : Addr) : Env :=
  { scope := scope, locals := L, globals := mainGlobals, cells := cellsFrom (L + 1) scope.names [("__class__", cc)], qual := qual ++ ".<locals>.", func := some a, code := cd, frame := some L, builtins := builtinsNs }
structure SScope (N ps : List Str) (sc : Scope) : Prop where
  kind : sc.kind = .function
  co : sc.isCoroutine = false
  gen : sc.isGenerator = false
  nd : N.Nodup
  pre : N.take ps.length = ps
  par : ∀ x ∈ ps, sc.names.lookup x = some .local ∨ sc.names.lookup x = some .cell
  free : ∀ y ∈ sc.names, y.2 = NameKind.free → y.1 = ("__class__" : Str)
  cls : sc.names.lookup ("__class__" : Str) = some NameKind.free
  nocls : (("__class__" : Str), NameKind.cell) ∉ sc.names
  sup : sc.names.lookup ("super" : Str) = some NameKind.globalImplicit
def cxS (CX : CXT) (P : Program) (w : World) (K : PySem.W.Frag) (mg : Str → Option Value) (base : Heap) (N : List Str) (qual : Str) (scope : Scope) (f : Addr) (cd : Value) (cc : Addr) (A : Around) (outer : List Env) (s : Shared) (H : Hp) (E : XK) : Cx where
  prog := P
  w := w
  K := K
  mg := mg
  base := base
  A := A.deeper (envS qual scope s.heap.objs.size f cd cc)
  N := N
  s_0 := s
  H_0 := H
  env := envS qual scope s.heap.objs.size f cd cc
  outer := outer
  stack := envS qual scope s.heap.objs.size f cd cc :: outer
  ex := []
  calm := true
  fn := fun y => !(y == "__class__")
  pn := []
  xe := fun e s' => wpAny (model P w) (A.deeper (envS qual scope s.heap.objs.size f cd cc)) (leaving (envS qual scope s.heap.objs.size f cd cc) e) (fun _ s'' => CX outer H s E e s'') (fun e' s'' => CX outer H s E e' s'') s'

theorem cells_eq (n : Nat) (names : List (Str × NameKind)) (cc : Addr) : cellsFrom n names [(("__class__" : Str), cc)] = cellsFrom n names [] ++ [(("__class__" : Str), cc)] := cellsFrom_app names n [] _
theorem names_of_cells : ∀ {names : List (Str × NameKind)} {n : Nat} {acc : List (Str × Addr)} {x : Str} {c : Addr}, (x, c) ∈ cellsFrom n names acc → (x, c) ∈ acc ∨ (x, NameKind.cell) ∈ names
  | [], _, _, _, _, h => .inl h
  | (name, kind) :: r, n, acc, x, c, h => by
    unfold cellsFrom at h
    split at h
    · rename_i hk
      rcases names_of_cells h with q | q
      · rcases List.mem_cons.mp q with e | q
        · cases e
          exact .inr (by rw [beq_iff_eq.mp hk]; exact List.mem_cons_self)
        · exact .inl q
      · exact .inr (List.mem_cons_of_mem _ q)
    · rcases names_of_cells h with q | q
      · exact .inl q
      · exact .inr (List.mem_cons_of_mem _ q)
/-- a name's cell: one of the frame's own, or the class's -/
theorem cell_cases {n : Nat} {names : List (Str × NameKind)} {cc : Addr} {x : Str} {c : Addr} (h : (cellsFrom n names [(("__class__" : Str), cc)]).lookup x = some c) :
    (cellsFrom n names []).lookup x = some c ∨ ((cellsFrom n names []).lookup x = none ∧ x = "__class__" ∧ c = cc) := by
  rw [cells_eq, List.lookup_append] at h
  cases e : (cellsFrom n names []).lookup x with
  | some d => rw [e] at h; exact .inl h
  | none =>
    rw [e] at h
    have h2 : List.lookup x [(("__class__" : Str), cc)] = some c := h
    rw [List.lookup_cons] at h2
    split at h2
    · rename_i hx
      exact .inr ⟨rfl, beq_iff_eq.mp hx, (Option.some.inj h2).symm⟩
    · cases h2

theorem inv_startS {CX : CXT} {P : Program} {w : World} {K : PySem.W.Frag} {mg : Str → Option Value} {base : Heap} {N ps : List Str} {qual : Str} {scope : Scope} {f : Addr} {cd : Value} {cc : Addr} {A : Around} {outer : List Env} {s s1 : Shared} {H : Hp} {E : XK} {us : List Value} {vs : List V} {cv : Option Value}
    (S : SScope N ps scope) (hd : A.handled = none) (e0 : Env0 P w K mg base A outer s H) (hl : vs.length = ps.length) (r : Vals vs us) (hcc : base.IsCell cc cv)
    (x : InCallC s s.heap.objs.size (bindL (envS qual scope s.heap.objs.size f cd cc).kindOf (ps.zip us) fun _ => none) (cellsFrom (s.heap.objs.size + 1) scope.names []) (bindC (envS qual scope s.heap.objs.size f cd cc).kindOf (ps.zip us) fun _ => none) s1) :
    Inv (cxS CX P w K mg base N qual scope f cd cc A outer s H E) [] (L2.start N vs) H s1 := by
  have hpl : ps.length ≤ N.length := by have := congrArg List.length S.pre; rw [List.length_take] at this; omega
  obtain ⟨oc, hoc, hocd⟩ := hcc
  have hcs : s.heap.get? cc = some oc ∧ H cc = none := e0.bs cc oc hoc
  have hlt : cc < s.heap.objs.size := Heap.lt_size hcs.1
  obtain ⟨h1, tk, rfl, hk⟩ := x.done
  have noA : ∀ b : Addr, b ∉ (cxS CX P w K mg base N qual scope f cd cc A outer s H E).ex := fun b z => absurd (show b ∈ ([] : List Addr) from z) (by simp)
  have own : ∀ {y : Str} {c : Addr}, (cellsFrom (s.heap.objs.size + 1) scope.names []).lookup y = some c → s.heap.objs.size < c := fun h => x.above _ _ (PySem.mem_of_lookup h)
  refine ⟨⟨e0.mod, S.kind, rfl, rfl, Nat.le_refl _, fun y z c h1 h2 => ?_, fun y hy => ?_, fun y c hf h => ?_, fun _ => hd, Around.frames_deeper e0.frames, .inr ⟨rfl, rfl⟩, fun b z => absurd z (noA b), e0.bs, e0.bsz, fun b _ _ => noA b, fun b z => absurd z (noA b), e0.funs, e0.frf⟩,
    rfl, e0.bare, Un.kept hk, ⟨_, x.toInCall.ns, fun i y v h1 h2 h3 => ?_⟩, fun y c h => ?_, e0.hok.fresh (Nat.le_refl _), fun y c h => ?_, fun p hp => absurd (show p ∈ ([] : List (Addr × Obj)) from hp) (by simp), e0.hok.kept hk, ?_⟩
  · rcases cell_cases h1 with q1 | ⟨_, q1, e1⟩
    · rcases cell_cases h2 with q2 | ⟨_, q2, e2⟩
      · exact name_of_addr x.apart (PySem.mem_of_lookup q1) (PySem.mem_of_lookup q2)
      · have z := own q1
        rw [e2] at z
        exact absurd (Nat.lt_trans z hlt) (Nat.lt_irrefl _)
    · rcases cell_cases h2 with q2 | ⟨_, q2, e2⟩
      · have z := own q2
        rw [e1] at z
        exact absurd (Nat.lt_trans z hlt) (Nat.lt_irrefl _)
      · rw [q1, q2]
  · have hy : scope.names.lookup y = some .cell ∨ scope.names.lookup y = some .free := hy
    rcases hy with hy | hy
    · obtain ⟨c, e⟩ := cell_has (n := s.heap.objs.size + 1) hy
      refine ⟨c, ?_⟩
      show (cellsFrom (s.heap.objs.size + 1) scope.names [("__class__", cc)]).lookup y = some c
      rw [cells_eq]
      exact look_app e
    · have e := S.free _ (PySem.mem_of_lookup hy) rfl
      have e : y = "__class__" := e
      subst e
      cases q : (cellsFrom (s.heap.objs.size + 1) scope.names []).lookup ("__class__" : Str) with
      | some c =>
        refine ⟨c, ?_⟩
        show (cellsFrom (s.heap.objs.size + 1) scope.names [("__class__", cc)]).lookup ("__class__" : Str) = some c
        rw [cells_eq]
        exact look_app q
      | none =>
        refine ⟨cc, ?_⟩
        show (cellsFrom (s.heap.objs.size + 1) scope.names [("__class__", cc)]).lookup ("__class__" : Str) = some cc
        rw [cells_eq, List.lookup_append, q]
        simp [List.lookup]
  · rcases cell_cases h with q | ⟨_, q, _⟩
    · exact Nat.le_of_lt (own q)
    · have hf : (!(y == ("__class__" : Str))) = true := hf
      rw [q] at hf
      simp at hf
  · have hi : i < vs.length := by
      unfold L2.start at h2
      by_cases hi : i < vs.length
      · exact hi
      · rw [List.getElem?_append_right (by simpa using hi)] at h2
        rw [List.getElem?_replicate] at h2
        split at h2 <;> cases h2
    have ha : vs[i]? = some v := by
      unfold L2.start at h2
      rw [List.getElem?_append_left (by simpa using hi), List.getElem?_map] at h2
      cases e : vs[i]? with
      | none => rw [e] at h2; cases h2
      | some a => rw [e] at h2; cases h2; rfl
    obtain ⟨u, hu, rv⟩ := r.get ha
    have hp : ps[i]? = some y := by
      rw [← S.pre, List.getElem?_take_of_lt (by omega)]; exact h1
    have ndP : ps.Nodup := by rw [← S.pre]; exact S.nd.sublist (List.take_sublist _ _)
    refine ⟨u, rv, ?_⟩
    rcases S.par y (List.mem_of_getElem? hp) with k | k
    · exact .inl ⟨k, bindL_get ndP hp hu k⟩
    · obtain ⟨c, e⟩ := cell_has (n := s.heap.objs.size + 1) k
      refine .inr ⟨.inl k, c, ?_, ?_⟩
      · show (cellsFrom (s.heap.objs.size + 1) scope.names [("__class__", cc)]).lookup y = some c
        rw [cells_eq]
        exact look_app e
      · have q := x.cell y c e
        rw [bindC_get ndP hp hu (by show scope.names.lookup y ≠ _; rw [k]; decide)] at q
        exact q
  · rcases cell_cases h with q | ⟨_, _, q⟩
    · exact ⟨_, x.cell y c q⟩
    · rw [q]
      exact ⟨cv, oc, hk _ _ hcs.1, hocd⟩
  · rcases cell_cases h with q | ⟨_, _, q⟩
    · exact e0.hok.fresh (Nat.le_of_lt (own q))
    · rw [q]
      exact hcs.2
  · unfold L2.start
    show _ = N.length
    rw [List.length_append, List.length_map, List.length_replicate]
    omega
end SupX

set_option maxRecDepth 100000
set_option maxHeartbeats 2000000
namespace SupX
open PySem PySem.W PyProof.Rows L2

/-- what the written part tells of super() in a def of the class at C, the def at f with the code object at cda and the class's cell at cc; f2 is the base's __init__ -/
structure SupF (P : Program) (K : Frag) (mg : Str → Option Value) (C f cda cc f2 : Addr) (slf : Str) : Prop where
  cl : Cls K C
  cd : ∃ c, clsIn K C = some c
  fn : ∃ (oc : Value) (od : Option Addr) (fd : FuncData) (osl : Array (Option Value)) (ar : Arg), K.lookup f = some ⟨oc, od, .func fd, osl⟩ ∧ (fd.params.posonlyargs ++ fd.params.args).head? = some ar ∧ ar.arg = slf
  code : ∃ (ccl : Value) (cdd : Option Addr) (vs : Array Value) (ccs : Array (Option Value)) (file : Str) (tf : Tok), K.lookup cda = some ⟨ccl, cdd, .fields vs, ccs⟩ ∧ vs[2]? = some (.str file tf) ∧ ((P.main.file : Str) == file) = true
  cell : ∃ (cl : Value) (cld : Option Addr) (csl : Array (Option Value)), K.lookup cc = some ⟨cl, cld, .cell (some (.ref C)), csl⟩
  sub : mroIn K C (.ref C) = some true
  gsup : mg "super" = none
  tp : nsIn K cStatics "thirdparty.any" = some none
  sin : ks_superIn K C C "__init__" = some (some (.ref f2))
  tf2 : typeIn K (.ref f2) = some (.type "function")
  ff2 : fnIn K f2 = true
  htop : (P.main.scope.names.lookup ("super" : Str)).isSome = false

theorem boot_super : bootBuiltins "super" = some (.type "super") := by first | boot_by_name | rfl | kernel_rfl | decide +kernel

section
variable {X : Cx} {body : List Stmt} {pins : List (Addr × Obj)} {σ : L2.St} {H : Hp} {s : Shared} {C f cda cc f2 x dx : Addr} {slf : Str} {fs : List (Str × V)} {pos p0 p1 : Pos}
/-- super(), in a def of the class at C: the object stands behind, all else is kept -/
theorem sup_base {attr : Str} {whole : Sem Value} {Q : Value → Shared → Prop} {E : Value → Shared → Prop} (I : Inv X pins σ H s) (T : SupF X.prog X.K X.mg C f cda cc f2 slf)
    (hks : X.env.kindOf "super" = some .globalImplicit) (hkc : X.env.kindOf "__class__" = some .free) (hat : (attr == ("__class__" : Str)) = false) (hfu : X.env.func = some f) (hco : X.env.code = .ref cda)
    (hcl : X.env.cells.lookup ("__class__" : Str) = some cc) (hN : X.N[0]? = some slf) (hl : X.env.scope.names.lookup slf = some .local) (hσ : σ[0]? = some (some (.ref x))) (hx : H x = some (.ins C dx fs))
    (h : ∀ so h' , (∀ b o, s.heap.get? b = some o → h'.get? b = some o) → s.heap.objs.size ≤ so → h'.get? so = some (ks_superObj C x C) → Q (.ref so) { s with heap := h' }) :
    _root_.PySem.wpAt (model X.prog X.w) X.A (.func body X.env) (attributeBase (.Call (.Name "super" p0) [] [] p1) attr X.env whole) Q E s := by
  obtain ⟨oc, od, fd, osl, ar, hf, hp, har⟩ := T.fn
  obtain ⟨ccl, cdd, vs, ccs, file, tf, hcode, hvs, hfile⟩ := T.code
  obtain ⟨cl, cld, csl, hcell⟩ := T.cell
  obtain ⟨cdD, hD⟩ := T.cd
  have KI : X.K.In s.heap := I.kIn
  obtain ⟨m, hns, hlk⟩ := id I.loc
  obtain ⟨u, ru, lu⟩ := hlk 0 slf (.ref x) hN hσ (.inl hl)
  obtain rfl : u = Value.ref x := ru
  obtain ⟨mA, O, _⟩ := ins_get I.hok hx
  obtain ⟨odx, J, _⟩ := O.look
  obtain ⟨mb, hb1, hb2⟩ := I.mod.blt
  obtain ⟨hh, g, d, t, os⟩ := s
  obtain ⟨oD, hD1, hD2⟩ : ∃ oD, hh.get? C = some oD ∧ oD.data = .cls cdD := by
    unfold clsIn at hD
    split at hD
    · rename_i c d cd' sl ho
      cases hD
      exact ⟨_, KI _ _ ho, rfl⟩
    · cases hD
  have hself : m slf = some (.ref x) := by
    rcases lu with ⟨_, q⟩ | ⟨q, _⟩
    · exact q
    · have q' : X.env.scope.names.lookup slf = some .cell ∨ X.env.scope.names.lookup slf = some .free := q
      rw [hl] at q'
      rcases q' with q' | q' <;> cases q'
  refine ks_wpAt_super_base (env := X.env) hks hkc hat hfu (KI _ _ hf) rfl hp hco (KI _ _ hcode) rfl hvs hfile T.htop ?_
  refine ks_loadName_global I.ok.kind hks (Calls.loadGlobal_builtin (env := X.env) (by rw [I.ok.glob]; exact I.mod.glob.keeps I.bk) T.gsup (by rw [I.ok.blt]; exact hb1.keeps I.bk) ((hb2 _ (by decide +kernel)).trans boot_super) ⟨rfl, ?_⟩)
  refine wpAny_loadName_free I.ok.kind hkc hcl ⟨_, KI _ _ hcell, rfl⟩ ?_
  rw [har]
  refine wpAny_loadName_local I.ok.kind hl hns hself ?_
  refine ks_wpAny_isType_cls hD1 hD2 ⟨rfl, ?_⟩
  refine ks_wpAny_call_super hD1 hD2 J.at_ J.cls (fun c e => ?_) (looks_mroIn KI T.sub) (fun h' e k => ?_)
  · have q := J.no
    unfold notCls at q
    rw [e] at q
    exact Bool.noConfusion q
  · exact h _ _ k (Nat.le_refl _) e
/-- .. its method of this name: a bound method, the base's def and the instance -/
theorem sup_method {so : Addr} {pl : Sem Bool} {Q : Value × List Value → Shared → Prop} {A : Around} {E : Value → Shared → Prop} (I : Inv X pins σ H s) (T : SupF X.prog X.K X.mg C f cda cc f2 slf) (hx : H x = some (.ins C dx fs))
    (hso : s.heap.get? so = some (ks_superObj C x C))
    (h : ∀ q h', (∀ b o, s.heap.get? b = some o → h'.get? b = some o) → s.heap.objs.size ≤ q → h'.get? q = some (methodObj (.ref f2) (.ref x)) → Q (.ref q, []) { s with heap := h', toks := s.toks + 1 }) :
    wpAny (model X.prog X.w) A (getMethod (.ref so) "__init__" pl) Q E s := by
  have KI : X.K.In s.heap := I.kIn
  obtain ⟨mA, O, _⟩ := ins_get I.hok hx
  obtain ⟨odx, J, _⟩ := O.look
  obtain ⟨hh, g, d, t, os⟩ := s
  have hm := T.sin
  cases hc : clsIn X.K C with
  | none => unfold ks_superIn at hm; rw [hc] at hm; cases hm
  | some cd =>
    unfold ks_superIn at hm
    rw [hc] at hm
    obtain ⟨of, hof, hofc⟩ : ∃ of, hh.get? f2 = some of ∧ of.cls = .type "function" := by
      have ht' : (X.K.lookup f2).map (·.cls) = some (.type "function") := T.tf2
      cases z : X.K.lookup f2 with
      | none => rw [z] at ht'; cases ht'
      | some of => rw [z] at ht'; exact ⟨of, KI _ _ z, Option.some.inj ht'⟩
    refine ks_wpAny_getMethod_super hso (looks_opaque KI T.tp) (l₀ := cd.mro) ?_ rfl KI hm hof hofc (ks_ne KI J hc) (by decide) ?_
    · exact fun A Q E s k q => wpAny_bind ((looks_clsIn KI hc) A _ E s k (wpAny_pure q))
    · exact h _ _ (fun b o e => Heap.get?_push_of_some _ e) (Nat.le_refl _) (Heap.get?_push_at rfl rfl)
end

def tSup (sp : Sp) (E : XK) (t : TA) : L2.TS := fun D σ H => ∃ x, σ[0]? = some (some (.ref x)) ∧ t σ H fun vs H1 => sp (.ref x :: vs) H1 (fun v H2 => D.nx σ H2) E

section
variable {X : Cx} {body : List Stmt} {pins : List (Addr × Obj)} {σ : L2.St} {H : Hp} {s : Shared} {C f cda cc f2 x dx : Addr} {slf : Str} {fs : List (Str × V)} {p0 p1 p2 p3 p4 : Pos} {e : Expr} {es : List Expr} {t : TA}
  {CX : CXT} {k : Nat} {fd2 : FuncData} {ps : List Str} {sp : Sp} {E : XK}
/-- super().__init__(e, ..), the first statement -/
theorem sup_stmt (I : Inv X pins σ H s) (T : SupF X.prog X.K X.mg C f cda cc f2 slf) (F2 : FnOk X.prog X.w X.K X.mg X.base CX k f2 fd2 ps sp) (hr : Room k X.A) (hb : Binds X.K fd2 ps []) (hxs : Passes CX X E) (ha : PA X (e :: es) t) {D : Ends}
    (hks : X.env.kindOf "super" = some .globalImplicit) (hkc : X.env.kindOf "__class__" = some .free) (hfu : X.env.func = some f) (hco : X.env.code = .ref cda)
    (hcl : X.env.cells.lookup ("__class__" : Str) = some cc) (hN : X.N[0]? = some slf) (hl : X.env.scope.names.lookup slf = some .local) (hσ : σ[0]? = some (some (.ref x))) (hx : H x = some (.ins C dx fs))
    (h : t σ H fun vs H1 => sp (.ref x :: vs) H1 (fun v H2 => D.nx σ H2) E)
    (he : starEach (e :: es) X.env = (false, eval e X.env) :: starEach es X.env := by rfl) (hpl : (backTo p3 (starEach es X.env)).any (·.1) = false := by rfl)
    (hi : interactive X.env = false := by rfl) (hsw : swapsWith (.Call (.Attribute (.Call (.Name "super" p0) [] [] p1) "__init__" p2) (e :: es) [] p3) none p4.line X.env = pure false := by rfl) {pl : Sem Bool}
    (hcall : eval (.Call (.Attribute (.Call (.Name "super" p0) [] [] p1) "__init__" p2) (e :: es) [] p3) X.env = (do
      let ov ← attributeBase (.Call (.Name "super" p0) [] [] p1) "__init__" X.env (eval (.Call (.Name "super" p0) [] [] p1) X.env)
      standAt p2.atName
      let (f, first) ← holding [ov] (getMethod ov "__init__" pl)
      callWith p3 f first (backTo p3 (starEach (e :: es) X.env)) []) := by rfl) :
    _root_.PySem.wpAt (model X.prog X.w) X.A (.func body X.env) (exec (.Expr (.Call (.Attribute (.Call (.Name "super" p0) [] [] p1) "__init__" p2) (e :: es) [] p3) p4) X.env)
      (fun fl s' => fl = .next ∧ ∃ H', Inv X pins σ H' s' ∧ D.nx σ H') X.xe s := by
  refine ks_wpAt_Expr_any ?_ hi hsw
  refine ks_wpAt_MethodCall (pl := pl) ?_ hcall
  refine sup_base I T hks hkc (by decide) hfu hco hcl hN hl hσ hx fun so h1 k1 l1 e1 => ?_
  have I1 : Inv X pins σ H { s with heap := h1 } := I.kept (t' := s.toks) k1
  refine sup_method I1 T hx e1 fun q h2 k2 l2 e2 => ?_
  have I2 : Inv X pins σ H { s with heap := h2, toks := s.toks + 1 } := I1.kept (h' := h2) (t' := s.toks + 1) k2
  have hqf : H q = none := I1.hok.fresh l2
  have I3 : Inv X ((q, methodObj (.ref f2) (.ref x)) :: pins) σ H { s with heap := h2, toks := s.toks + 1 } := I2.pins_of fun p hp => by
    rcases List.mem_cons.mp hp with rfl | hp
    · refine ⟨e2, hqf, fun z => ?_, I1.nofs l2, fun v z => by cases z⟩
      have q1 := I1.lt
      rw [← z] at q1
      exact absurd (Nat.lt_of_lt_of_le q1 l2) (Nat.lt_irrefl _)
    · exact I2.pin p (List.mem_append_right _ hp)
  have hrun : wpAny (model X.prog X.w) X.A (spliced (backTo p3 (starEach (e :: es) X.env))) (fun us s1 => MethP X.K q f2 (.ref x) s1.heap ∧ wpAny (model X.prog X.w) X.A (call (.ref q) ([] ++ us)) (fun _ s' => (Flow.next = Flow.next) ∧ ∃ H', Inv X pins σ H' s' ∧ D.nx σ H') X.xe s1) X.xe { s with heap := h2, toks := s.toks + 1 } := by
    refine thn (ha.run p3 _ _ σ H _ I3 h) fun us s1 ⟨vs, H1, J1, r, hsp⟩ => ?_
    have hq1 : s1.heap.get? q = some (methodObj (.ref f2) (.ref x)) := (J1.pin (q, methodObj (.ref f2) (.ref x)) (List.mem_append_right _ List.mem_cons_self)).1
    have J2 : Inv X pins σ H1 s1 := J1.pins_of fun p hp => J1.pin p (List.mem_append_right _ (List.mem_cons_of_mem _ hp))
    refine ⟨⟨hq1, J1.kIn⟩, ?_⟩
    show wpAny _ _ (call (.ref q) us) _ _ s1
    refine wpAny_call (ks_codeAny_call_bound hq1 ?_)
    have r2 : Vals (V.ref x :: vs) (Value.ref x :: us) := .cons rfl r
    have hl2 : ((Value.ref x :: us) ++ []).length = ps.length := by rw [List.append_nil, ← r2.length]; exact F2.len _ _ _ _ hsp
    have hbt := hb s1 (Value.ref x :: us) J2.kIn hl2
    rw [List.append_nil] at hbt
    refine codeAny_mono (F2.run X.A X.stack s1 H1 ⟨Value.ref x :: us, []⟩ (Value.ref x :: us) (V.ref x :: vs) _ E hr J2.env0 hbt r2 hsp) fun rr s' hq' => ?_
    cases rr with
    | error e => exact hxs pins σ H1 s1 e s' J2 hq'
    | ok fl =>
      cases fl with
      | ret u =>
        obtain ⟨v, H', I4, rv, q4⟩ := J2.after hq'
        exact ⟨rfl, H', I4, q4⟩
      | next => exact False.elim hq'
      | brk => exact False.elim hq'
      | cont => exact False.elim hq'
  rw [he] at hrun ⊢
  exact callWith_of (P := MethP X.K q f2 (.ref x)) (by show ((false || (backTo p3 (starEach es X.env)).any (·.1)) || false) = false; rw [hpl]; rfl) (keeps_M T.ff2) (Calls.evalArgs_plain hrun)
theorem PAnox {X : Cx} {es : List Expr} {t : TA} (h : PA X.nox es t) : PA X es t := ⟨fun pos pins s σ H Q I hw =>
  wpAny_mono (h.run pos pins s σ H Q (I.wish _) hw) (fun _ _ ⟨v, H', I', r, q⟩ => ⟨v, H', I'.unwish, r, q⟩) fun _ _ z => False.elim z⟩
end
end SupX

set_option maxRecDepth 100000
set_option maxHeartbeats 2000000
namespace SupX
open PySem PySem.W PyProof.Rows L2

/-- a def (at f) of the class at C that says super(): its text st, its class's cell at cc -/
structure FunS (P : Program) (K : Frag) (mg : Str → Option Value) (nm qual : Str) (st : Stmt) (C f cc cda f2 : Addr) (slf : Str) (fd : FuncData) : Prop where
  ex : ∃ (oc : Value) (od : Option Addr) (kV doc pm : Value) (an : Option Addr) (ct : Value) (osl : Array (Option Value)),
    fd = fnX nm qual (defArgs st) (defBody st) (defScope st) [("__class__", cc)] .none kV doc pm an (.ref cda) ct ∧ K.lookup f = some ⟨oc, od, .func fd, osl⟩ ∧ codeIn K (.ref cda) qual = true
  kp : keepIn K (.ref f) = true
  sup : SupF P K mg C f cda cc f2 slf
  hl : (defScope st).names.lookup slf = some NameKind.local

section
variable {P : Program} {w : World} {K : Frag} {mg : Str → Option Value} {base : Heap}
theorem FunS.binds {nm qual : Str} {st : Stmt} {C f cc cda f2 : Addr} {slf : Str} {fd : FuncData} {ps : List Str} (F : FunS P K mg nm qual st C f cc cda f2 slf fd)
    (h : ∀ (kV doc pm : Value) (an : Option Addr) (ct : Value) (us : List Value), us.length = ps.length → bindArgs (fnX nm qual (defArgs st) (defBody st) (defScope st) [("__class__", cc)] .none kV doc pm an (.ref cda) ct) ⟨us, []⟩ = pure (ps.zip us)) : Binds K fd ps [] := by
  obtain ⟨oc, od, kV, doc, pm, an, ct, osl, rfl, lk, hcd⟩ := F.ex
  exact .all (h kV doc pm an ct)
/-- THE RULE -/
theorem FunS.ok {nm qual : Str} {st : Stmt} {C f cc cda f2 : Addr} {slf : Str} {fd fd2 : FuncData} {N ps ps2 : List Str} {k k2 : Nat} {sp sp2 : Sp} {e : Expr} {es : List Expr} {rest : List Stmt} {p0 p1 p2 p3 p4 : Pos}
    (F : FunS P K mg nm qual st C f cc cda f2 slf fd) (S : SScope N ps (defScope st)) (hN : N[0]? = some slf)
    (hst : defBody st = .Expr (.Call (.Attribute (.Call (.Name "super" p0) [] [] p1) "__init__" p2) (e :: es) [] p3) p4 :: rest)
    (F2 : FnOk P w K mg base CX0 k2 f2 fd2 ps2 sp2) (hk : k2 ≤ k) (hb2 : Binds K fd2 ps2 [])
    (len : ∀ vs H Q E, sp vs H Q E → vs.length = ps.length)
    (hbody : ∀ (A : Around) (outer : List Env) (s : Shared) (H : Hp) (vs : List V) (Q : VK) (E : XK), Room k (A.deeper (envS qual (defScope st) s.heap.objs.size f (.ref cda) cc)) → sp vs H Q E →
      ∃ x dx fs ta t, vs[0]? = some (.ref x) ∧ H x = some (.ins C dx fs) ∧ PA (cxS CX0 P w K mg base N qual (defScope st) f (.ref cda) cc A outer s H E).nox (e :: es) ta ∧
        PSs (cxS CX0 P w K mg base N qual (defScope st) f (.ref cda) cc A outer s H E).nox rest t ∧
        ta (L2.start N vs) H fun vs' H1 => sp2 (.ref x :: vs') H1 (fun v H2 => t { nx := fun _ H' => Q .non H', rt := Q } (L2.start N vs) H2) E0)
    {pl : Sem Bool} 
    (he : ∀ env : Env, env.scope = defScope st → starEach (e :: es) env = (false, eval e env) :: starEach es env) (hpl : ∀ env : Env, env.scope = defScope st → (backTo p3 (starEach es env)).any (·.1) = false)
    (hi : ∀ env : Env, env.scope = defScope st → interactive env = false) (hsw : ∀ env : Env, env.scope = defScope st → swapsWith (.Call (.Attribute (.Call (.Name "super" p0) [] [] p1) "__init__" p2) (e :: es) [] p3) none p4.line env = pure false)
    (hcall : ∀ env : Env, env.scope = defScope st → eval (.Call (.Attribute (.Call (.Name "super" p0) [] [] p1) "__init__" p2) (e :: es) [] p3) env = (do
      let ov ← attributeBase (.Call (.Name "super" p0) [] [] p1) "__init__" env (eval (.Call (.Name "super" p0) [] [] p1) env)
      standAt p2.atName
      let (f, first) ← holding [ov] (getMethod ov "__init__" pl)
      callWith p3 f first (backTo p3 (starEach (e :: es) env)) [])) : FnOk P w K mg base CX0 (k + 1) f fd ps sp := by
  obtain ⟨oc, od, kV, doc, pm, an, ct, osl, rfl, lk, hcd⟩ := F.ex
  obtain ⟨cl, cld, csl, hcell⟩ := F.sup.cell
  refine ⟨len, fun A outer s H args us vs Q E hr e0 hb r hsp => ?_⟩
  have hl := len _ _ _ _ hsp
  have KX : K.In s.heap := e0.mod.kin.keeps fun b o e => (e0.bs b o e).1
  have lim : s.heap.NoLimit := e0.mod.nolimit.keeps fun b o e => (e0.bs b o e).1
  have hkind : ∀ y ∈ ps.zip us, (defScope st).names.lookup y.1 = some .local ∨ ((defScope st).names.lookup y.1 = some .cell ∧ ((cellsFrom (s.heap.objs.size + 1) (defScope st).names []).lookup y.1).isSome = true) := fun ⟨n, v⟩ hy => by
    rcases S.par n (List.of_mem_zip hy).1 with q | q
    · exact .inl q
    · exact .inr ⟨q, PySem.W.cellsFrom_some _ _ _ (.inl q)⟩
  refine codeAny_call_function hr.depth (KX _ _ lk) rfl S.co S.gen rfl (PySem.W.codeRec_of KX hcd) (hb _ _ _ _ ?_)
  refine newEnvX S.kind hkind fun env he' s1 x => ?_
  subst he'
  refine ⟨lim.keeps x.toInCall.keep, ?_⟩
  show codeAny _ _ (.func (defBody st) (envS qual (defScope st) s.heap.objs.size f (.ref cda) cc)) _ _
  refine ks_codeAny_funcAt ?_
  obtain ⟨xa, dx, fs, ta, t, hx0, hx, hta, ht, hq⟩ := hbody A outer s H vs Q E (hr.deeper _) hsp
  have I : Inv (cxS CX0 P w K mg base N qual (defScope st) f (.ref cda) cc A outer s H E) [] (L2.start N vs) H s1 := inv_startS S hr.hd e0 hl r (cv := some (.ref C)) ⟨_, e0.mod.kin _ _ hcell, rfl⟩ x
  have hσ : (L2.start N vs)[0]? = some (some (.ref xa)) := by
    unfold L2.start
    have h0 : 0 < vs.length := (List.getElem?_eq_some_iff.mp hx0).1
    rw [List.getElem?_append_left (by simpa using h0), List.getElem?_map, hx0] <;> rfl
  have fin : ∀ {s' : Shared} {σ' : L2.St} {H' : Hp} {v : V} {u : Value}, Inv (cxS CX0 P w K mg base N qual (defScope st) f (.ref cda) cc A outer s H E) [] σ' H' s' → RelV v u → Q v H' → CE outer P w H s Q u s' :=
    fun {s' σ' H' v u} J rv q => ⟨v, H', J.os, J.bare, J.base, J.hok, rv, q⟩
  rw [hst]
  refine ks_wpAt_execs_cons ?_
  have first := sup_stmt (X := cxS CX0 P w K mg base N qual (defScope st) f (.ref cda) cc A outer s H E) (body := defBody st) (D := { nx := fun σ' H2 => σ' = L2.start N vs ∧ t { nx := fun _ H' => Q .non H', rt := Q } (L2.start N vs) H2, rt := Q }) I F.sup F2 (Room.mono (hr.deeper _) hk) hb2 (E := E0) pass0 (PAnox hta) (p0 := p0) (p1 := p1) (p2 := p2) (p3 := p3) (p4 := p4) (pl := pl)
    S.sup S.cls rfl rfl (by
      show (cellsFrom (s.heap.objs.size + 1) (defScope st).names [("__class__", cc)]).lookup ("__class__" : Str) = some cc
      rw [cells_eq, List.lookup_append]
      have hn : (cellsFrom (s.heap.objs.size + 1) (defScope st).names []).lookup ("__class__" : Str) = none := by
        cases q : (cellsFrom (s.heap.objs.size + 1) (defScope st).names []).lookup ("__class__" : Str) with
        | none => rfl
        | some c =>
          rcases names_of_cells (PySem.mem_of_lookup q) with z | z
          · cases z
          · exact absurd z (S.nocls)
      rw [hn]
      simp [List.lookup]) hN F.hl hσ hx (by
        refine (?_ : ta (L2.start N vs) H _)
        have e0 : (fun (vs' : List V) (H1 : Hp) => sp2 (.ref xa :: vs') H1 (fun v H2 => (L2.start N vs) = L2.start N vs ∧ t { nx := fun _ H' => Q .non H', rt := Q } (L2.start N vs) H2) E0) = (fun vs' H1 => sp2 (.ref xa :: vs') H1 (fun v H2 => t { nx := fun _ H' => Q .non H', rt := Q } (L2.start N vs) H2) E0) := by
          funext vs' H1
          congr 1
          funext v H2
          exact propext ⟨fun z => z.2, fun z => ⟨rfl, z⟩⟩
        rw [e0]
        exact hq) (he _ rfl) (hpl _ rfl) (hi _ rfl) (hsw _ rfl) (hcall _ rfl)
  rw [← hst]
  refine ks_wpAt_mono first (fun fl s' hfl => ?_) fun e s' hs => hs
  obtain ⟨rfl, H', J, _, hts⟩ := hfl
  refine wpAt_of_wpAny (wpAny_mono (ht.nox.run [] s' (L2.start N vs) H' _ J hts) (fun fl s'' hs => ?_) fun e s'' hs => hs)
  cases fl with
  | ret u =>
    obtain ⟨v, σ', H', J, rv, q⟩ := hs
    exact fin J rv q
  | next =>
    obtain ⟨σ', H', J, q⟩ := hs
    exact fin (v := V.non) (u := Value.none) J rfl q
  | brk =>
    obtain ⟨_, _, _, q⟩ := hs
    exact False.elim q
  | cont =>
    obtain ⟨_, _, _, q⟩ := hs
    exact False.elim q
end
end SupX

set_option maxRecDepth 100000
set_option maxHeartbeats 4000000
/-! my layer over the hand layer: the rules that speak of the written part, with the part K told (they go within a comprehension's block, too) -/
namespace Ly
open PySem PySem.Spec PyProof.Rows L2
section
variable {X : Cx}
theorem ix_listK (K : PySem.W.Frag) (hK : X.K = K := by rfl) : IxR X (rIxL K) := hK ▸ ix_list
theorem ix_tupK (K : PySem.W.Frag) (hK : X.K = K := by rfl) : IxR X (rIxT K) := hK ▸ ix_tup
theorem ix_kdictK (K : PySem.W.Frag) (w : World) (hK : X.K = K := by rfl) (hw : X.w = w := by rfl) : IxR X (rIxD K w) := hK ▸ hw ▸ ix_kdict
theorem op_in_seqK (K : PySem.W.Frag) (hK : X.K = K := by rfl) : OpR X (compareOp .In) (rIn K false) := hK ▸ op_in_seq
theorem op_notIn_seqK (K : PySem.W.Frag) (hK : X.K = K := by rfl) : OpR X (compareOp .NotIn) (rIn K true) := hK ▸ op_notIn_seq
theorem op_eqDK (K : PySem.W.Frag) (hu : X.A.units + 64 < cLine) (hK : X.K = K := by rfl) : OpR X (compareOp .Eq) (rEqD K) := hK ▸ op_eqD hu
theorem op_neDK (K : PySem.W.Frag) (hu : X.A.units + 64 < cLine) (hK : X.K = K := by rfl) : OpR X (compareOp .NotEq) (rNeD K) := hK ▸ op_neD hu
def rLenQ (K : PySem.W.Frag) : List V → Hp → VK → Prop := fun xs H Q => ∃ p ys, xs = [.ref p] ∧ (SqL K H p ys ∨ SqT K H p ys) ∧ Q (.int ys.length) H
theorem call_lenK (K : PySem.W.Frag) (hK : X.K = K := by rfl) : CallR X (.builtin "len") (rLenQ K) := hK ▸ call_len_seq
def rTupOf (K : PySem.W.Frag) : List V → Hp → VK → Prop := fun xs H Q => ∃ p ys, xs = [.ref p] ∧ ((SqL K H p ys ∧ ∀ l, H l = none → Q (.ref l) (upd H l (.tup ys))) ∨ (SqT K H p ys ∧ Q (.ref p) H))
theorem call_tupleK (K : PySem.W.Frag) (hK : X.K = K := by rfl) : CallR X (.type "tuple") (rTupOf K) := hK ▸ call_tuple_of
theorem call_isiK (K : PySem.W.Frag) (hK : X.K = K := by rfl) : CallR X (.builtin "isinstance") (rIsi K) := hK ▸ call_isi
theorem pe_fldK (K : PySem.W.Frag) {e : Expr} {f : Str} {pos : Pos} {ta : TE} (he : PE X e ta) (hb : attributeBase e f X.env (eval e X.env) = eval e X.env) (hK : X.K = K := by rfl) : PE X (.Attribute e f pos) (tFld K ta f) := hK ▸ pe_fld he hb
theorem sl_listK (K : PySem.W.Frag) (hK : X.K = K := by rfl) : SlR X (rSlL K) := hK ▸ sl_list
theorem pi_listK (K : PySem.W.Frag) {tg e : Expr} {te : TE} (he : PE X e te) (hK : X.K = K := by rfl) : PI X tg e (iList K te) := hK ▸ pi_list he
theorem pi_tupK (K : PySem.W.Frag) {tg e : Expr} {te : TE} (he : PE X e te) (hK : X.K = K := by rfl) : PI X tg e (iTup K te) := hK ▸ pi_tup he
theorem ps_fldK (K : PySem.W.Frag) {o value : Expr} {f : Str} {pos pos' : Pos} {ta tv : TE} (ha : PE X o ta) (hv : PE X value tv) (hs : swapsWith value (some (.Attribute o f pos')) pos.line X.env = pure false) (hK : X.K = K := by rfl) : PS X (.Assign [.Attribute o f pos'] value pos) (sFld K ta tv f) := hK ▸ ps_fld ha hv hs
end
/-- cls(e, ..), cls a name that holds the class -/
def tMakeV (C : Addr) (sp : Sp) (dvs : List V) (E : XK) (tf : TE) (t : TA) : TE := fun σ H Q => tf σ H fun v H1 => v = .ref C ∧ tMake C sp dvs E t σ H1 Q
theorem pe_makeV {X : Cx} {CX : CXT} {k : Nat} {f C : Addr} {fd : FuncData} {ps : List Str} {sp : Sp} {dvs : List V} {ds : List Value} {E : XK} {x : Str} {p pos : Pos} {e : Expr} {es : List Expr} {t : TA} {tf : TE} (M : Mk X.K C f) (F : FnOk X.prog X.w X.K X.mg X.base CX k f fd ps sp) (hr : Room (k + 1) X.A)
    (hv : PE X (.Name x p) tf) (hb : Binds X.K fd ps ds) (hd : Vals dvs ds) (hx : Passes CX X E)
    (ha : PA X (e :: es) t) (he : starEach (e :: es) X.env = (false, eval e X.env) :: starEach es X.env := by rfl) (hpl : (backTo pos (starEach es X.env)).any (·.1) = false := by rfl) :
    PE X (.Call (.Name x p) (e :: es) [] pos) (tMakeV C sp dvs E tf t) := by
  refine ⟨fun pins s σ H Q I h => ?_⟩
  refine wpAny_Call_Name_kw (thn (hv.run pins s σ H _ I h) fun u s0 ⟨v, H0, I0, rv, ev, h0⟩ => ?_)
  subst ev
  obtain rfl : u = Value.ref C := rv
  refine PySem.W.callWith_K (h₀ := X.base) I.ok.mod.kin M.kp (thn (ha.run pos pins s0 σ H0 _ I0 h0) fun us s1 ⟨vs, H1, I1, r, q⟩ => ⟨I1.kIn, ?_⟩) he hpl
  exact run_make M F hr hb hd hx I1 r q
/-! ### small lemmas -/
theorem szl {n : Nat} (h : n ≤ 100000) : n ≤ sizeLine := Nat.le_trans h (by decide)
theorem szt {n : Nat} (h : n < 100000) : n < sizeLine := Nat.lt_of_lt_of_le h (by decide)
theorem asg {te : TE} {g : TG} {D : Ends} {σ : L2.St} {H : Hp} (R : V → Hp → Prop) (hi : ∀ Q' : VK, (∀ v H1, R v H1 → Q' v H1) → te σ H Q') (h : ∀ v H1, R v H1 → g v σ H1 D.nx) : tAsg te g D σ H := hi _ h
theorem retC {te : TE} {D : Ends} {σ : L2.St} {H : Hp} (R : V → Hp → Prop) (hi : ∀ Q' : VK, (∀ v H1, R v H1 → Q' v H1) → te σ H Q') (h : ∀ v H1, R v H1 → D.rt v H1) : tRet te D σ H := hi _ h
/-- a guard whose test never holds -/
theorem guardF {c : TT} {t rest : TS} {D : Ends} {σ : L2.St} {H : Hp} (R : Hp → Prop) (hc : ∀ Q' : Bool → Hp → Prop, (∀ H', R H' → Q' false H') → c σ H Q') (h : ∀ H', R H' → rest D σ H') : tSeq (tIfS c t tNext) rest D σ H := hc _ fun H' r => iteF (h H' r)
theorem same_new {H : Hp} {p : Addr} {o : HO} (h : H p = none) : Same H (upd H p o) := fun b u e => by
  rw [upd_ne (ne_of_none e h)]
  exact e
theorem same_mut {H H' : Hp} {p : Addr} {o : HO} (s : Same H H') (h : H p = none) : Same H (upd H' p o) := fun b u e => by
  rw [upd_ne (ne_of_none e h)]
  exact s b u e
theorem same_sqt {K : PySem.W.Frag} {H H' : Hp} {q : Addr} {xs : List V} (s : Same H H') (h : SqT K H q xs) : SqT K H' q xs := by
  rcases h with (h | ⟨ob, h⟩) | h
  · exact .inl (.inl (s _ _ h))
  · exact .inl (.inr ⟨ob, s _ _ h⟩)
  · exact .inr h
theorem same_sql {K : PySem.W.Frag} {H H' : Hp} {q : Addr} {xs : List V} (s : Same H H') (h : SqL K H q xs) : SqL K H' q xs := s.seq h
theorem sql_upd {K : PySem.W.Frag} {H : Hp} {p q : Addr} {o : HO} {xs : List V} (h : SqL K H q xs) (ne : q ≠ p) : SqL K (upd H p o) q xs := by
  rcases h with (h | ⟨ob, h⟩) | h
  · exact .inl (.inl (by rw [upd_ne ne]; exact h))
  · exact .inl (.inr ⟨ob, by rw [upd_ne ne]; exact h⟩)
  · exact .inr h
theorem sqt_upd {K : PySem.W.Frag} {H : Hp} {p q : Addr} {o u : HO} {xs : List V} (h : SqT K H q xs) (hp : H p = some o) (ho : ∀ xs, o ≠ .tup xs) (hf : ∀ ob xs, o ≠ .frz ob xs) : SqT K (upd H p u) q xs := by
  rcases h with (h | ⟨ob, h⟩) | h
  · have ne : q ≠ p := ne_of h hp (Ne.symm (ho _))
    exact .inl (.inl (by rw [upd_ne ne]; exact h))
  · have ne : q ≠ p := ne_of h hp (Ne.symm (hf _ _))
    exact .inl (.inr ⟨ob, by rw [upd_ne ne]; exact h⟩)
  · exact .inr h
theorem dstr {a b : Str} : (decide (V.str a = V.str b) = true) = (a = b) := by simp
theorem dint {a b : Int} : (decide (V.int a = V.int b) = true) = (a = b) := by simp
theorem iteNF {a b : V} {A B : Prop} (h : a = b) (q : B) : if (!decide (a = b)) = true then A else B := by
  rw [decide_eq_true h]
  exact iteF q
theorem iteNT {a b : V} {A B : Prop} (h : ¬ a = b) (q : A) : if (!decide (a = b)) = true then A else B := by
  rw [decide_eq_false h]
  exact iteT q
theorem iteDT {a b : V} {A B : Prop} (h : a = b) (q : A) : if decide (a = b) = true then A else B := by
  rw [decide_eq_true h]
  exact iteT q
theorem iteDF {a b : V} {A B : Prop} (h : ¬ a = b) (q : B) : if decide (a = b) = true then A else B := by
  rw [decide_eq_false h]
  exact iteF q
/-- the items of a written tuple -/
theorem sqt_K {K : PySem.W.Frag} {a : Addr} {c : Option Addr} {its : Array Value} {n : Nat} {sl : Array (Option Value)} {xs : List V} (l : K.lookup a = some ⟨.type "tuple", c, .seq its n, sl⟩) (hz : its.size ≤ sizeLine) (r : Vals xs its.toList) : ∀ H, SqT K H a xs := fun _ =>
  .inr ⟨_, its, n, l, rfl, rfl, hz, r⟩
end Ly

set_option maxRecDepth 100000
set_option maxHeartbeats 4000000
/-! promises that hold where no repr is under way (FnG): repr of data is its text there; str of an own object -/
namespace Ly
open PySem PySem.Spec PyProof.Rows L2
abbrev Idle (A : Around) : Prop := A.guards = some []
structure FnG (P : Program) (w : World) (K : PySem.W.Frag) (mg : Str → Option Value) (base : Heap) (CX : CXT) (k : Nat) (f : Addr) (fd : FuncData) (ps : List Str) (sp : Sp) : Prop where
  len : ∀ vs H Q E, sp vs H Q E → vs.length = ps.length
  run : ∀ (A : Around) (outer : List Env) (s : Shared) (H : Hp) (args : Args) (us : List Value) (vs : List V) (Q : VK) (E : XK), Idle A → Room k A → Env0 P w K mg base A outer s H → BindsTo s fd args (ps.zip us) → Vals vs us → sp vs H Q E →
    codeAny (model P w) A (.call (.ref f) args) (CR CX outer P w H s Q E) s
section
variable {P : Program} {w : World} {K : PySem.W.Frag} {mg : Str → Option Value} {base : Heap} {CX : CXT}
theorem FnG.of {k : Nat} {f : Addr} {fd : FuncData} {ps : List Str} {sp : Sp} (F : FnOk P w K mg base CX k f fd ps sp) : FnG P w K mg base CX k f fd ps sp :=
  ⟨F.len, fun A outer s H args us vs Q E _ hr => F.run A outer s H args us vs Q E hr⟩
theorem FnG.mono {j k : Nat} {f : Addr} {fd : FuncData} {ps : List Str} {sp : Sp} (F : FnG P w K mg base CX j f fd ps sp) (h : j ≤ k) : FnG P w K mg base CX k f fd ps sp :=
  ⟨F.len, fun A outer s H args us vs Q E hg hr => F.run A outer s H args us vs Q E hg (hr.mono h)⟩
/-- a def by its body -/
theorem fnG_of {k : Nat} {f : Addr} {name qual : Str} {params : Arguments} {body : List Stmt} {scope : Scope} {dV kV doc pm cdv ct oc : Value} {an od : Option Addr} {osl : Array (Option Value)} {N ps : List Str} {sp : Sp}
    (lk : K.lookup f = some ⟨oc, od, .func (PySem.W.fnOf name qual params body scope dV kV doc pm an cdv ct), osl⟩) (hcd : PySem.W.codeIn K cdv qual = true) (S : FnScope N ps scope)
    (len : ∀ vs H Q E, sp vs H Q E → vs.length = ps.length)
    (hbody : ∀ (A : Around) (outer : List Env) (s : Shared) (H : Hp) (vs : List V) (Q : VK) (E : XK), Idle (A.deeper (envOfC qual scope s.heap.objs.size f cdv)) → Room k (A.deeper (envOfC qual scope s.heap.objs.size f cdv)) → sp vs H Q E →
      ∃ t, PSs (cxOf CX P w K mg base N qual scope f cdv A outer s H E) body t ∧ t { nx := fun _ H' => Q .non H', rt := Q } (L2.start N vs) H) :
    FnG P w K mg base CX (k + 1) f (PySem.W.fnOf name qual params body scope dV kV doc pm an cdv ct) ps sp := by
  refine ⟨len, fun A outer s H args us vs Q E hg hr e0 hb r hsp => ?_⟩
  have KX : K.In s.heap := e0.mod.kin.keeps fun b o e => (e0.bs b o e).1
  refine codeAny_call_function hr.depth (KX _ _ lk) rfl S.co S.gen rfl (PySem.W.codeRec_of KX hcd) (hb _ _ _ _ ?_)
  have hkind : ∀ y ∈ ps.zip us, scope.names.lookup y.1 = some .local ∨ (scope.names.lookup y.1 = some .cell ∧ ((cellsFrom (s.heap.objs.size + 1) scope.names []).lookup y.1).isSome = true) := fun y hy =>
    (S.par y.1 (List.of_mem_zip (a := y.1) (b := y.2) hy).1).elim .inl fun q => .inr ⟨q, PySem.W.cellsFrom_some _ _ _ (.inl q)⟩
  refine wpAny_newFunctionEnv_cells S.kind hkind fun env he s1 x => ?_
  subst he
  refine ⟨(e0.mod.nolimit.keeps fun b o e => (e0.bs b o e).1).keeps x.toInCall.keep, codeAny_func ?_⟩
  obtain ⟨t, ht, hq⟩ := hbody A outer s H vs Q E hg (hr.deeper _) hsp
  refine wpAny_mono (ht.run [] s1 (L2.start N vs) H _ (inv_start S hr.hd e0 (len _ _ _ _ hsp) r x) hq) (fun fl s' hs => ?_) fun e s' hs => hs
  match fl, hs with
  | .ret u, ⟨v, σ', H', J, rv, q⟩ => exact ⟨v, H', J.os, J.bare, J.base, J.hok, rv, q⟩
  | .next, ⟨σ', H', J, q⟩ => exact ⟨V.non, H', J.os, J.bare, J.base, J.hok, rfl, q⟩
  | .brk, ⟨_, _, _, q⟩ => exact q.elim
  | .cont, ⟨_, _, _, q⟩ => exact q.elim
theorem Fun.okG {x qual : Str} {st : Stmt} {f : Addr} {fd : FuncData} {N ps : List Str} {k : Nat} {sp : Sp} (F : Fun K x qual st f fd) (S : FnScope N ps (defScope st)) (len : ∀ vs H Q E, sp vs H Q E → vs.length = ps.length)
    (hbody : ∀ (cdv : Value) (A : Around) (outer : List Env) (s : Shared) (H : Hp) (vs : List V) (Q : VK) (E : XK), Idle (A.deeper (envOfC qual (defScope st) s.heap.objs.size f cdv)) → Room k (A.deeper (envOfC qual (defScope st) s.heap.objs.size f cdv)) → sp vs H Q E →
      ∃ t, PSs (cxOf CX0 P w K mg base N qual (defScope st) f cdv A outer s H E).nox (defBody st) t ∧ t { nx := fun _ H' => Q .non H', rt := Q } (L2.start N vs) H) : FnG P w K mg base CX0 (k + 1) f fd ps sp := by
  obtain ⟨oc, od, kV, doc, pm, an, cdv, ct, osl, rfl, lk, hcd⟩ := F.ex
  exact fnG_of lk hcd S len fun A outer s H vs Q E hg hr hsp => let ⟨t, h, q⟩ := hbody cdv A outer s H vs Q E hg hr hsp; ⟨t, h.nox, q⟩
end
section
variable {X : Cx} {CX : CXT} {k : Nat} {f : Addr} {fd : FuncData} {ps : List Str} {sp : Sp} {dvs : List V} {ds : List Value} {E : XK} {x : Str} {p pos : Pos} {e : Expr} {es : List Expr} {t : TA}
theorem run_fnG {pins : List (Addr × Obj)} {σ : L2.St} {H : Hp} {s : Shared} {Q : VK} {us : List Value} {vs : List V} (hg : Idle X.A) (F : FnG X.prog X.w X.K X.mg X.base CX k f fd ps sp) (hr : Room k X.A) (hb : Binds X.K fd ps ds) (hd : Vals dvs ds) (hx : Passes CX X E)
    (I : Inv X pins σ H s) (r : Vals vs us) (h : sp (vs ++ dvs) H Q E) : wpAny (model X.prog X.w) X.A (call (.ref f) us) (EP X pins σ Q) X.xe s := by
  have r2 := r.append hd
  refine wpAny_call (codeAny_mono (F.run X.A X.stack s H ⟨us, []⟩ (us ++ ds) (vs ++ dvs) Q E hg hr I.env0 (hb s us I.kIn (by rw [← r2.length]; exact F.len _ _ _ _ h)) r2 h) fun r s' hq => ?_)
  match r, hq with
  | .error e, hq => exact hx pins σ H s e s' I hq
  | .ok (.ret u), hq => exact I.after hq
  | .ok .next, hq => exact hq.elim
  | .ok .brk, hq => exact hq.elim
  | .ok .cont, hq => exact hq.elim
/-- f(e, ..), no repr under way -/
theorem pe_callG (hg : Idle X.A) (F : FnG X.prog X.w X.K X.mg X.base CX k f fd ps sp) (hr : Room k X.A) (hgl : Gl X x) (hm : X.mg x = some (.ref f)) (hk : PySem.W.keepIn X.K (.ref f) = true) (hb : Binds X.K fd ps ds) (hd : Vals dvs ds) (hx : Passes CX X E)
    (ha : PA X (e :: es) t) (hdb : (x == ("__debug__" : Str)) = false := by decide) (he : starEach (e :: es) X.env = (false, eval e X.env) :: starEach es X.env := by rfl) (hpl : (backTo pos (starEach es X.env)).any (·.1) = false := by rfl) :
    PE X (.Call (.Name x p) (e :: es) [] pos) (tCall sp dvs E t) :=
  ⟨fun pins s σ H Q I h => wpAny_Call_Name_kw (ld_glob I hgl hm (PySem.W.callWith_K (h₀ := X.base) I.ok.mod.kin hk (thn (ha.run pos pins s σ H _ I h) fun us s1 ⟨vs, H1, I1, r, q⟩ => ⟨I1.kIn, run_fnG hg F hr hb hd hx I1 r q⟩) he hpl) hdb)⟩

/-! ### repr of data -/
def rRepr (K : PySem.W.Frag) : List V → Hp → VK → Prop := fun xs H Q => ∃ a d, xs = [.ref a] ∧ Dp K H (.ref a) d ∧ d.showable = true ∧ d.hasDict = false ∧ d.depth ≤ 60 ∧ d.shown.length ≤ sizeLine ∧ Q (.str d.shown) H
theorem call_repr (K : PySem.W.Frag) (hg : Idle X.A) (hu : X.A.units + 64 < cLine) (hK : X.K = K := by rfl) : CallR X (.builtin "repr") (rRepr K) := by
  subst hK
  intro pins s σ H xs us Q I r h
  obtain ⟨a, d, rfl, hd, hs, hn, hdp, hz, q⟩ := h
  obtain ⟨u, rfl, ru⟩ := vals1 r
  obtain rfl : u = Value.ref a := ru
  obtain ⟨as, rd⟩ := Dp.reads I d (.ref a) (.ref a) hd rfl
  exact repr_of_reads' rd hs (fun z => by rw [hn] at z; cases z) hg (by omega) (fun _ _ e => e) (fun h' u tk k => ⟨.str d.shown, H, I.kept k, ⟨u, rfl⟩, q⟩) hz

/-! ### str of an own object, by its __str__ -/
def rStrOwn (K : PySem.W.Frag) (C : Addr) (sp : Sp) (E : XK) : List V → Hp → VK → Prop := fun xs H Q => ∃ a dx fs, xs = [.ref a] ∧ H a = some (.ins C dx fs) ∧ sp [.ref a] H (fun v H' => ∃ y, v = .str y ∧ Q v H') E
theorem call_strOwn (K : PySem.W.Frag) {C g : Addr} {k : Nat} {fd : FuncData} {ps : List Str} {sp : Sp} {E : XK} (c : Cls K C) (m : Meth K C "__str__" g) (F : FnOk X.prog X.w X.K X.mg X.base CX0 k g fd ps sp) (hr : Room (k + 2) X.A) (hb : Binds X.K fd ps []) (hx : Passes CX0 X E) (hK : X.K = K := by rfl) :
    CallR X (.type "str") (rStrOwn K C sp E) := by
  subst hK
  intro pins s σ H xs us Q I r h
  obtain ⟨a, dx, fs, rfl, ha, q⟩ := h
  obtain ⟨u, rfl, ru⟩ := vals1 r
  obtain rfl : u = Value.ref a := ru
  obtain ⟨mA, O, _⟩ := ins_get I.hok ha
  obtain ⟨od, J, _⟩ := O.look
  refine PySem.W.kso_call (by have := hr.un; show X.A.units + 1 + 1 < cLine; omega) I.kIn J m.at_ m.fn ?_
  have hl : ([Value.ref a] ++ []).length = ps.length := by
    have z := F.len _ _ _ _ q
    simpa using z
  have rv0 : Vals [V.ref a] ([Value.ref a] ++ []) := Paired.cons (show RelV (V.ref a) (Value.ref a) from rfl) Paired.nil
  refine wpAny_call (codeAny_mono (F.run X.A.in1.in1 X.stack s H ⟨[.ref a], []⟩ ([Value.ref a] ++ []) [V.ref a] _ E (hr.in1.in1) I.env0.in1.in1 (hb s [.ref a] I.kIn hl) rv0 q) fun r s' hq => ?_)
  match r, hq with
  | .error e, hq => exact hx pins σ H s e s' I hq
  | .ok (.ret u), hq =>
    obtain ⟨v, H', I4, rv, y, rfl, q4⟩ := I.after hq
    obtain ⟨t, rfl⟩ := rv
    exact ⟨.str y, H', I4, ⟨t, rfl⟩, q4⟩
  | .ok .next, hq => exact hq.elim
  | .ok .brk, hq => exact hq.elim
  | .ok .cont, hq => exact hq.elim
end
end Ly

set_option maxRecDepth 100000
set_option maxHeartbeats 4000000
/-! the law's entry for a promise that holds where no repr is under way -/
namespace Ly
open PySem PySem.Spec PyProof.Rows L2
section
variable {P : Program} {w : World} {K : PySem.W.Frag} {mg mb : Str → Option Value} {k : Nat} {fa a : Addr} {fd : FuncData} {x : Str} {sp : Sp} {s : Shared} {vs : List Value} {ns : List Int}
/-- from an abstract heap H that tracks the script at most, locked -/
theorem entryG (KX : K.In s.heap) (hns : s.heap.Ns mainGlobals mg) (hb : s.heap.Ns builtinsNs mb) (hbb : ∀ x : Str, x ≠ "__name__" → mb x = bootBuiltins x) (hlim : s.heap.NoLimit) (hg : s.gens = #[])
    (ha : s.heap.get? a = some { cls := .type "list", data := .seq vs.toArray }) (hr : Room k callerA)
    (F : ∀ base : Heap, K.In base → base.Ns mainGlobals mg → FnG P w K mg base CX0 k fa fd [x] sp) (hbind : ∀ (s : Shared) (u : Value), BindsTo s fd ⟨[u], []⟩ [(x, u)])
    (H : Hp) (hsp : sp [.ref a] H (fun v _ => v = .bl true) fun _ _ _ => False) (hok : HOk P w H s.heap) (only : ∀ b u, H b = some u → b = a ∧ K.lookup a = none ∧ ∃ o xs, u = .frz o (.lst xs)) :
    codeAny (model P w) callerA (.call (.ref fa) ⟨[.ref a], []⟩) (fun r s' => r = .ok (.ret (.bool true)) ∧ OldK s.heap s'.heap ∧ s'.os = s.os ∧ AllBare s'.gens) s := by
  have free : ∀ b, (b ≠ a ∨ K.lookup a ≠ none) → H b = none := fun b hb => by
    cases q : H b with
    | none => rfl
    | some u =>
      obtain ⟨e, l, _⟩ := only b u q
      rcases hb with z | z
      · exact absurd e z
      · exact absurd l z
  have plain : ∀ {b : Addr} {o : Obj} {es : Array DictEntry} {ep : Nat}, s.heap.get? b = some o → o.data = .dict es ep → H b = none := fun {b o es ep} e d => free b (.inl fun z => by
    rw [z, ha] at e
    cases e
    cases d)
  have nsK : ∀ {b : Addr} {m : Str → Option Value}, s.heap.Ns b m → (hidT s.heap H).Ns b m := fun {b m} ⟨o, es, ep, e, d, r⟩ => ⟨o, es, ep, hidT_get e (plain e d), d, r⟩
  have hKb : K.In (hidT s.heap H) := fun b o e => hidT_get (KX b o e) (by
    by_cases hb : b = a
    · exact free b (.inr (by rw [← hb, e]; simp))
    · exact free b (.inl hb))
  obtain ⟨mc, l1, l2⟩ := hlim
  have e0 : Env0 P w K mg (hidT s.heap H) callerA [] s H :=
    ⟨rfl, ⟨hKb, nsK hns, ⟨mb, nsK hb, hbb⟩, ⟨mc, nsK l1, l2⟩⟩, fun b o e => of_hidT e, Nat.le_of_eq (hidT_size _ _), trivial, fun b hb => absurd (show b ∈ ([] : List Addr) from hb) (by simp), hok, .of_eq hg⟩
  refine codeAny_mono ((F _ hKb (nsK hns)).run callerA [] s H ⟨[.ref a], []⟩ [.ref a] [.ref a] _ _ rfl hr e0 (hbind s (.ref a)) (.cons rfl .nil) hsp) fun r s' h => ?_
  match r, h with
  | .error e, h => exact h.elim
  | .ok .next, h => exact h.elim
  | .ok .brk, h => exact h.elim
  | .ok .cont, h => exact h.elim
  | .ok (.ret u), ⟨v, H', os, bare, un, hok', rv, q⟩ =>
    have q' : v = .bl true := q
    subst q'
    obtain rfl : u = Value.bool true := rv
    refine ⟨rfl, OldK.of_keep fun b o e => ?_, os, bare⟩
    cases q : H b with
    | none => exact un.keep b o e q (fun z => absurd (show b ∈ ([] : List Addr) from z) (by simp)) (by simp)
    | some u =>
      obtain ⟨_, _, ob, xs, rfl⟩ := only b u q
      have h1 := (hok b _ q).1
      have h2 := (hok' b _ (un.frzs b ob _ q)).1
      rw [e] at h1
      cases h1
      exact h2
theorem lawG (KX : K.In s.heap) (hns : s.heap.Ns mainGlobals mg) (hb : s.heap.Ns builtinsNs mb) (hbb : ∀ x : Str, x ≠ "__name__" → mb x = bootBuiltins x) (hlim : s.heap.NoLimit) (hg : s.gens = #[])
    (ha : s.heap.get? a = some { cls := .type "list", data := .seq vs.toArray }) (hi : IntsAre vs ns) (hl : ns.length ≤ sizeLine) (hr : Room k callerA)
    (F : ∀ base : Heap, K.In base → base.Ns mainGlobals mg → FnG P w K mg base CX0 k fa fd [x] sp) (hbind : ∀ (s : Shared) (u : Value), BindsTo s fd ⟨[u], []⟩ [(x, u)])
    (hsp : ∀ H : Hp, SqL K H a (ns.map V.int) → sp [.ref a] H (fun v _ => v = .bl true) fun _ _ _ => False) :
    codeAny (model P w) callerA (.call (.ref fa) ⟨[.ref a], []⟩) (fun r s' => r = .ok (.ret (.bool true)) ∧ OldK s.heap s'.heap ∧ s'.os = s.os ∧ AllBare s'.gens) s := by
  have rv := vals_ints hi
  have lenV := hi.length
  cases hk : K.lookup a with
  | some o =>
    have e := KX a o hk
    rw [ha] at e
    cases e
    refine entryG KX hns hb hbb hlim hg ha hr F hbind (fun _ => none) (hsp _ (.inr ⟨_, vs.toArray, _, hk, rfl, rfl, rfl, by rw [List.size_toArray, lenV]; exact hl, by simpa using rv⟩)) (fun b u z => ?_) fun b u z => ?_
    · have z' : (none : Option HO) = some u := z
      cases z'
    · have z' : (none : Option HO) = some u := z
      cases z'
  | none =>
    have at_ : ∀ {b : Addr} {u : HO}, (if b = a then some (HO.frz { cls := .type "list", data := .seq vs.toArray } (.lst (ns.map V.int))) else none) = some u → b = a ∧ u = HO.frz { cls := .type "list", data := .seq vs.toArray } (.lst (ns.map V.int)) := fun {b u} z => by
      by_cases h : b = a
      · rw [if_pos h] at z
        exact ⟨h, (Option.some.inj z).symm⟩
      · rw [if_neg h] at z
        cases z
    refine entryG KX hns hb hbb hlim hg ha hr F hbind (fun b => if b = a then some (HO.frz { cls := .type "list", data := .seq vs.toArray } (.lst (ns.map V.int))) else none) (hsp _ (.inl (.inr ⟨_, if_pos rfl⟩))) (fun b u z => ?_) fun b u z => ?_
    · obtain ⟨rfl, rfl⟩ := at_ z
      exact ⟨ha, by rw [List.length_map]; exact hl, vs, _, rv, ha⟩
    · obtain ⟨e, rfl⟩ := at_ z
      exact ⟨e, hk, _, _, rfl⟩
end
theorem walk_ofG {l : PySem.W.OpenLaw} {n k : Nat} {q : Program} {loose : List Str} {XP : (Str → Option Value) → Heap → Prop} {YP : World → Heap → Prop} {d : DefRec} {K : Params → PySem.W.Frag} {sp : World → Sp} {x : Str}
    (hn : l.most = some n) (hn2 : n ≤ sizeLine) (hdf : d.params.defaults = []) (hr : Room k callerA) (hY : ∀ (w : World) (h : Heap), YP w h → (K w.params).In h)
    (F : ∀ (w : World) (mg : Str → Option Value) (fa : Addr) (h : Heap), (K w.params).In h → h.Ns mainGlobals mg → mg d.name = some (.ref fa) →
      ∃ fd : FuncData, (∀ (s : Shared) (u : Value), BindsTo s fd ⟨[u], []⟩ [(x, u)]) ∧ ∀ base : Heap, (K w.params).In base → base.Ns mainGlobals mg → FnG l.prog w (K w.params) mg base CX0 k fa fd [x] (sp w))
    (hsp : ∀ (w : World) (H : Hp) (a : Addr) (ns : List Int), ns.length ≤ n → SqL (K w.params) H a (ns.map V.int) → sp w [.ref a] H (fun v _ => v = .bl true) fun _ _ _ => False) :
    PySem.W.WalkO q loose XP YP l.row.toRowW d [] (fun f vs => PySem.call f vs) := by
  refine Att.attach_call hn hdf fun w s₀ s₁ mg mb fa o pm cd doc a vs ns G Y ho hd hcd hmg hobj hints hlen hg => ?_
  obtain ⟨fd, hb, hF⟩ := F w mg fa _ (hY w _ Y) G.T.g hmg
  exact lawG (hY w _ Y) G.T.g G.T.b G.T.builtins G.T.nolimit hg hobj hints (Nat.le_trans hlen hn2) hr hF hb fun H hS => hsp w H a ns hlen hS
end Ly

set_option maxRecDepth 100000
set_option maxHeartbeats 4000000
/-! the primitives' mathematics: numbers, ports, attributes -/
namespace Ly
open PySem PySem.Spec PyProof.Rows L2
/-! ### the value that a word writes -/
def isDig (c : Nat) : Bool := decide (48 ≤ c) && decide (c ≤ 57)
theorem dig_in (c : Nat) : decide (c ∈ (("0123456789" : Str)).cps.toList) = isDig c := by
  have e : (("0123456789" : Str)).cps.toList = [48, 49, 50, 51, 52, 53, 54, 55, 56, 57] := by decide +kernel
  rw [e]
  unfold isDig
  by_cases h : 48 ≤ c ∧ c ≤ 57
  · obtain ⟨h1, h2⟩ := h
    rw [decide_eq_true h1, decide_eq_true h2]
    refine decide_eq_true ?_
    simp only [List.mem_cons, List.not_mem_nil, or_false]
    omega
  · have n : ¬ (c ∈ [48, 49, 50, 51, 52, 53, 54, 55, 56, 57]) := by
      simp only [List.mem_cons, List.not_mem_nil, or_false]
      omega
    rw [decide_eq_false n]
    by_cases h1 : 48 ≤ c
    · rw [decide_eq_true h1, decide_eq_false (fun h2 => h ⟨h1, h2⟩)]
      rfl
    · rw [decide_eq_false h1]
      rfl
def numVal (w : Str) : Int := ((NumText.digitsVal w.cps.toList : Nat) : Int)
def numOk (w : Str) : Bool := decide (1 ≤ w.length) && decide (w.length ≤ 10) && w.cps.toList.all isDig && !(decide (w.cps.toList.head? = some 48) && decide (1 < w.length)) && decide (numVal w < 4294967296)
def numOf (w : Str) : Option Int := if numOk w = true then some (numVal w) else none
def optV : Option Int → V
  | none => .non
  | some n => .int n
theorem int_dig {w : Str} (h : w.cps.toList.all isDig = true) (h1 : 1 ≤ w.length) (h2 : w.length ≤ 10) : intText? w = some (numVal w) := by
  have e2 : w.length = w.cps.toList.length := by show w.cps.size = _; simp
  refine intText_digits (fun c hc => ?_) (fun z => ?_) (by omega)
  · have q := List.all_eq_true.mp h c hc
    unfold isDig at q
    simpa using q
  · rw [z] at e2
    simp at e2
    omega
theorem lead_zero {m : Nat} (h : ((Nat.toDigits 10 m).map Char.toNat).head? = some 48) : m = 0 := by
  induction m using Nat.strongRecOn with
  | _ m ih =>
    by_cases hm : m < 10
    · rw [Nat.toDigits_of_lt_base hm] at h
      have e : (Nat.digitChar m).toNat = 48 := by simpa using h
      have k : ∀ d : Nat, d < 10 → (Nat.digitChar d).toNat = 48 → d = 0 := by decide
      exact k m hm e
    · have hd : m % 10 < 10 := Nat.mod_lt m (by decide)
      have t : Nat.toDigits 10 (m / 10) ++ Nat.toDigits 10 (m % 10) = Nat.toDigits 10 (10 * (m / 10) + m % 10) := Nat.toDigits_append_toDigits (by decide) (by omega) hd
      rw [Nat.div_add_mod] at t
      rw [← t, List.map_append] at h
      have hne : (Nat.toDigits 10 (m / 10)).map Char.toNat ≠ [] := fun z => by
        have h2 := PySem.W.KIN.signs_num (m / 10)
        have h3 : (Nat.toDigits 10 (m / 10)) = [] := by simpa using z
        have h4 := toDigits_len_ge 10 (m / 10)
        rw [h3] at h4
        exact absurd h4 (by decide)
      have h' : ((Nat.toDigits 10 (m / 10)).map Char.toNat).head? = some 48 := by
        cases e : (Nat.toDigits 10 (m / 10)).map Char.toNat with
        | nil => exact absurd e hne
        | cons a r => rw [e] at h; simpa using h
      have := ih (m / 10) (by omega) h'
      omega
/-- the text of a value is read as this value -/
theorem numOf_text {n : Int} (h0 : 0 ≤ n) (h1 : n < 4294967296) : numOf (Str.ofString (toString n)) = some n := by
  have hl := PySem.W.KT.len_num h0 (by omega : n < 10 ^ 10)
  have h1l : 1 ≤ (Str.ofString (toString n)).length := PySem.W.KLn.one_le h0
  obtain ⟨m, rfl⟩ := Int.eq_ofNat_of_zero_le h0
  have sg := PySem.W.KIN.signs_num m
  have hall : (Str.ofString (toString ((m : Nat) : Int))).cps.toList.all isDig = true := by
    rw [List.all_eq_true]
    intro c hc
    rw [sg] at hc
    obtain ⟨ch, hch, e⟩ := List.mem_map.mp hc
    have r := PyProof.Rows.digit_range (Nat.isDigit_of_mem_toDigits (by decide) (by decide) hch)
    rw [← e]
    unfold isDig
    simp [r.1, r.2]
  have hv : numVal (Str.ofString (toString ((m : Nat) : Int))) = (m : Int) := by
    unfold numVal
    rw [sg, PySem.W.KIN.val_back]
  have hz : ¬ ((Str.ofString (toString ((m : Nat) : Int))).cps.toList.head? = some 48 ∧ 1 < (Str.ofString (toString ((m : Nat) : Int))).length) := fun ⟨z1, z2⟩ => by
    rw [sg] at z1
    have := lead_zero z1
    subst this
    exact absurd z2 (by decide +kernel)
  unfold numOf numOk
  rw [hv, hall, decide_eq_true h1l, decide_eq_true hl, decide_eq_true h1]
  have e : (!(decide ((Str.ofString (toString ((m : Nat) : Int))).cps.toList.head? = some 48) && decide (1 < (Str.ofString (toString ((m : Nat) : Int))).length))) = true := by
    rw [Bool.not_eq_true', Bool.and_eq_false_iff]
    by_cases z : (Str.ofString (toString ((m : Nat) : Int))).cps.toList.head? = some 48
    · exact .inr (decide_eq_false fun z2 => hz ⟨z, z2⟩)
    · exact .inl (decide_eq_false z)
  rw [e]
  rfl
/-! ### the primitives' ports -/
def portsTab : List (Str × List Str × List Str) := [("const", [], ["out"]), ("add", ["a", "b"], ["out"]), ("sub", ["a", "b"], ["out"]), ("mul", ["a", "b"], ["out"]), ("less", ["a", "b"], ["out"]), ("equal", ["a", "b"], ["out"]),
  ("pick", ["c", "a", "b"], ["out"]), ("divide", ["a", "b"], ["quotient", "rest"]), ("delay", ["in"], ["out"])]
def PortsOf (K : PySem.W.Frag) (w : World) (dP : Addr) (n : Str) (ins outs : List Str) : Prop :=
  ∃ t ti tO, KDct K w dP n (.ref t) ∧ (∀ H, SqT K H t [.ref ti, .ref tO]) ∧ (∀ H, SqT K H ti (ins.map V.str)) ∧ (∀ H, SqT K H tO (outs.map V.str))
/-! ### a block's and a primitive's attributes -/
def fs1 (n : Str) : List (Str × V) := [("name", .str n)]
def fs2 (n : Str) (i : Addr) : List (Str × V) := [("name", .str n), ("inputs", .ref i)]
def fsB (n : Str) (i o : Addr) : List (Str × V) := [("name", .str n), ("inputs", .ref i), ("outputs", .ref o)]
def fs4 (n : Str) (i o : Addr) (c : V) : List (Str × V) := [("name", .str n), ("inputs", .ref i), ("outputs", .ref o), ("constant", c)]
def fsP (n : Str) (i o : Addr) (c : V) (t : Str) : List (Str × V) := [("name", .str n), ("inputs", .ref i), ("outputs", .ref o), ("constant", c), ("text", .str t)]
theorem fsP_name {n i o c t} : (fsP n i o c t).lookup ("name" : Str) = some (.str n) := by kernel_rfl
theorem fsP_inputs {n i o c t} : (fsP n i o c t).lookup ("inputs" : Str) = some (.ref i) := by kernel_rfl
theorem fsP_outputs {n i o c t} : (fsP n i o c t).lookup ("outputs" : Str) = some (.ref o) := by kernel_rfl
theorem fsP_const {n i o c t} : (fsP n i o c t).lookup ("constant" : Str) = some c := by kernel_rfl
theorem fsP_text {n i o c t} : (fsP n i o c t).lookup ("text" : Str) = some (.str t) := by kernel_rfl
theorem fsP_compute {n i o c t} : (fsP n i o c t).lookup ("compute" : Str) = none := by kernel_rfl
theorem fsP_str {n i o c t} : (fsP n i o c t).lookup ("__str__" : Str) = none := by kernel_rfl
theorem fsB_put1 {n : Str} : putF "name" (.str n) [] = fs1 n := by kernel_rfl
theorem fsB_put2 {n : Str} {i : Addr} : putF "inputs" (.ref i) (fs1 n) = fs2 n i := by kernel_rfl
theorem fsB_put3 {n : Str} {i o : Addr} : putF "outputs" (.ref o) (fs2 n i) = fsB n i o := by kernel_rfl
theorem fsP_put1 {n : Str} {i o : Addr} {c : V} : putF "constant" c (fsB n i o) = fs4 n i o c := by kernel_rfl
theorem fsP_put2 {n : Str} {i o : Addr} {c : V} {t : Str} : putF "text" (.str t) (fs4 n i o c) = fsP n i o c t := by kernel_rfl
/-- a primitive at x: its name, its constant, its text -/
def PrimAt (K : PySem.W.Frag) (C : Addr) (H : Hp) (x : Addr) (n : Str) (c : V) (t : Str) : Prop := ∃ dx i o, H x = some (.ins C dx (fsP n i o c t)) ∧ ∃ ins outs, (n, ins, outs) ∈ portsTab ∧ SqT K H i (ins.map V.str) ∧ SqT K H o (outs.map V.str)
theorem same_prim {K : PySem.W.Frag} {H H' : Hp} {C x : Addr} {n t : Str} {c : V} (s : Same H H') (h : PrimAt K C H x n c t) : PrimAt K C H' x n c t := by
  obtain ⟨dx, i, o, hx, ins, outs, hp, hi, ho⟩ := h
  exact ⟨dx, i, o, s _ _ hx, ins, outs, hp, same_sqt s hi, same_sqt s ho⟩
def textOf (n : Str) : Option Int → Str
  | none => n
  | some v => n ++ " " ++ Str.ofString (toString v)
/-! ### texts of primitives -/
def plain7 : List Str := ["add", "sub", "mul", "less", "equal", "pick", "divide"]
def portNames : List Str := ["const", "add", "sub", "mul", "less", "equal", "pick", "divide", "delay"]
def withK (n : Str) : Bool := decide (n = "const") || decide (n = "delay")
def primWords : List Str → Option (Str × Option Int)
  | [n] => if n ∈ plain7 then some (n, none) else none
  | [n, k] => if withK n = true then (numOf k).map fun v => (n, some v) else none
  | _ => none
def primOf (t : Str) : Option (Str × Option Int) := primWords (Txt.split t " ")
theorem names_ports {n : Str} (h : n ∈ portNames) : ∃ ins outs, (n, ins, outs) ∈ portsTab := by
  simp only [portNames, List.mem_cons, List.not_mem_nil, or_false] at h
  rcases h with rfl | rfl | rfl | rfl | rfl | rfl | rfl | rfl | rfl <;>
    first | exact ⟨["a", "b"], ["out"], by decide +kernel⟩ | exact ⟨[], ["out"], by decide +kernel⟩ | exact ⟨["in"], ["out"], by decide +kernel⟩ | exact ⟨["c", "a", "b"], ["out"], by decide +kernel⟩ | exact ⟨["a", "b"], ["quotient", "rest"], by decide +kernel⟩
theorem plain_port {n : Str} (h : n ∈ plain7) : n ∈ portNames := (show ∀ n ∈ plain7, n ∈ portNames by decide +kernel) n h
theorem withK_port {n : Str} (h : withK n = true) : n ∈ portNames := by
  unfold withK at h
  rw [Bool.or_eq_true] at h
  rcases h with h | h
  · rw [of_decide_eq_true h]; decide +kernel
  · rw [of_decide_eq_true h]; decide +kernel
theorem port_plain {n : Str} (h : n ∈ portNames) (h2 : withK n = false) : n ∈ plain7 := by
  have k : ∀ n ∈ portNames, withK n = false → n ∈ plain7 := by decide +kernel
  exact k n h h2
theorem plain_noK {n : Str} (h : n ∈ plain7) : withK n = false := (show ∀ n ∈ plain7, withK n = false by decide +kernel) n h
/-- a key that the table does not have -/
theorem nsIn_none {K : PySem.W.Frag} {w : World} {d : Addr} {es : Array DictEntry} {n : Nat} (D : KDict K w d es n) {l : List (Str × Tok)} (hk : es.toList.map (·.key) = l.map fun p => .str p.1 p.2) {z : Str} (hz : ∀ p ∈ l, p.1 ≠ z) : PySem.W.nsIn K d z = some none := by
  have key : ∀ e ∈ es.toList, ∃ p ∈ l, e.key = .str p.1 p.2 := fun e he => by
    have h1 : e.key ∈ es.toList.map (·.key) := List.mem_map_of_mem he
    rw [hk] at h1
    obtain ⟨p, hp, e2⟩ := List.mem_map.mp h1
    exact ⟨p, hp, e2.symm⟩
  unfold PySem.W.nsIn
  rw [D.at_]
  have h1 : es.toList.find? (fun x => x.key.isStr z) = none := by
    refine List.find?_eq_none.mpr fun e he => ?_
    obtain ⟨p, hp, e2⟩ := key e he
    rw [e2]
    show ¬ (p.1 == z) = true
    have := hz p hp
    simpa using this
  have h2 : es.toList.any (fun x => x.refKey) = false := by
    refine List.any_eq_false.mpr fun e he => ?_
    obtain ⟨p, hp, e2⟩ := key e he
    unfold DictEntry.refKey
    rw [e2]
    simp
  dsimp only
  rw [h1, h2]
  rfl
/-! ### split -/
theorem spl_ne (S : List Nat) : ∀ (l acc : List Nat) (k : Nat), TL.spl S k acc l ≠ []
  | [], acc, k => by rw [TL.spl_nil]; simp
  | c :: r, acc, 0 => by
    unfold TL.spl
    split
    · simp
    · exact spl_ne S r _ 0
  | c :: r, acc, k + 1 => by
    unfold TL.spl
    exact spl_ne S r _ k
theorem spl_len (S : List Nat) : ∀ (l acc : List Nat) (k : Nat), ∀ p ∈ TL.spl S k acc l, p.length ≤ acc.length + l.length
  | [], acc, k => by
    rw [TL.spl_nil]
    intro p hp
    simp only [List.mem_singleton] at hp
    subst hp
    simp
  | c :: r, acc, 0 => by
    intro p hp
    unfold TL.spl at hp
    split at hp
    · rcases List.mem_cons.mp hp with rfl | hp
      · simp
      · have := spl_len S r [] _ p hp
        simp at this ⊢
        omega
    · have := spl_len S r _ 0 p hp
      simp at this ⊢
      omega
  | c :: r, acc, k + 1 => by
    intro p hp
    unfold TL.spl at hp
    have := spl_len S r acc k p hp
    simp at this ⊢
    omega
theorem split_ne {x y : Str} (hy : TL.tl y ≠ []) (hk : y.cps.all (· < 256) = true) : Txt.split x y ≠ [] := fun e => by
  have h := TL.split_spl x y hy (TL.kind_ok hk)
  rw [e] at h
  exact spl_ne _ _ _ _ h.symm
theorem split_lens {x y : Str} (hy : TL.tl y ≠ []) (hk : y.cps.all (· < 256) = true) : ∀ p ∈ Txt.split x y, p.length ≤ x.length := fun p hp => by
  have h := TL.split_spl x y hy (TL.kind_ok hk)
  have h2 : TL.tl p ∈ (Txt.split x y).map TL.tl := List.mem_map_of_mem hp
  rw [h] at h2
  have := spl_len _ _ _ _ _ h2
  rw [TL.len_tl, TL.len_tl]
  simpa using this
theorem sp_ne : TL.tl (" " : Str) ≠ [] := by decide +kernel
theorem sp_k : (" " : Str).cps.all (· < 256) = true := by decide +kernel
theorem split_two {n s : Str} (hn : 32 ∉ TL.tl n) (hs : 32 ∉ TL.tl s) : Txt.split (n ++ " " ++ s) " " = [n, s] := by
  have h := TL.split_join (y := (" " : Str)) (s := 32) (S := []) (by decide +kernel) sp_k (parts := [n, s]) (by simp) (fun p hp => by
    simp only [List.mem_cons, List.not_mem_nil, or_false] at hp
    rcases hp with rfl | rfl
    · exact hn
    · exact hs)
  rw [TL.join_eq] at h
  exact h
theorem split_one {n : Str} (hn : 32 ∉ TL.tl n) : Txt.split n " " = [n] := by
  have h := TL.split_join (y := (" " : Str)) (s := 32) (S := []) (by decide +kernel) sp_k (parts := [n]) (by simp) (fun p hp => by
    simp only [List.mem_cons, List.not_mem_nil, or_false] at hp
    rw [hp]
    exact hn)
  rw [TL.join_eq] at h
  exact h
theorem num_sp (n : Int) : 32 ∉ TL.tl (Str.ofString (toString n)) := fun h => (PyProof.Rows.intText_free_32 n).mp h
theorem primOf_plain {n : Str} (h : n ∈ plain7) : primOf n = some (n, none) := by
  have e : Txt.split n " " = [n] := split_one ((show ∀ n ∈ plain7, 32 ∉ TL.tl n by decide +kernel) n h)
  unfold primOf
  rw [e]
  show (if n ∈ plain7 then some (n, (none : Option Int)) else none) = _
  rw [if_pos h]
theorem primOf_K {n : Str} {v : Int} (h : n = "const" ∨ n = "delay") (h0 : 0 ≤ v) (h1 : v < 4294967296) : primOf (n ++ " " ++ Str.ofString (toString v)) = some (n, some v) := by
  have hn : 32 ∉ TL.tl n := by rcases h with rfl | rfl <;> decide +kernel
  unfold primOf
  rw [split_two hn (num_sp v)]
  show (if withK n = true then (numOf _).map (fun v => (n, some v)) else none) = _
  have hk : withK n = true := by rcases h with rfl | rfl <;> decide +kernel
  rw [if_pos hk, numOf_text h0 h1]
  rfl
end Ly

set_option maxRecDepth 100000
set_option maxHeartbeats 4000000
/-! the primitives' promises and what they compute -/
namespace Ly
open PySem PySem.Spec PyProof.Rows L2
/-! ### draws -/
theorem put01 (a b c : V) : ([a, b] : List V).set 0 c = [c, b] := rfl
def FeedAt (H : Hp) (p : Addr) (a b : Int) : Prop := H p = some (.lst [.int a, .int b]) ∧ 0 ≤ a ∧ 0 ≤ b ∧ b < 2305843009213693951
def spFeed (K : PySem.W.Frag) : Sp := fun vs H Q _ => ∃ (s : Addr) (ns : List Int) (k : Nat), vs = [.ref s, .int k] ∧ SqL K H s (ns.map V.int) ∧ k ≤ 1000 ∧
  ∀ p a b, H p = none → FeedAt (upd H p (.lst [.int a, .int b])) p a b → Q (.ref p) (upd H p (.lst [.int a, .int b]))
/-- a draw: any number below the bound; the feed is another one -/
def spTake : Sp := fun vs H Q _ => ∃ (p : Addr) (many a b : Int), vs = [.ref p, .int many] ∧ FeedAt H p a b ∧ 0 < many ∧ many ≤ 1099511627776 ∧
  ∀ d a' b' : Int, 0 ≤ d → d < many → FeedAt (upd H p (.lst [.int a', .int b'])) p a' b' → Q (.int d) (upd H p (.lst [.int a', .int b']))
def spPick (K : PySem.W.Frag) : Sp := fun vs H Q _ => ∃ (p q : Addr) (xs : List V) (a b : Int), vs = [.ref p, .ref q] ∧ FeedAt H p a b ∧ SqL K H q xs ∧ q ≠ p ∧ 0 < xs.length ∧ xs.length ≤ 1000 ∧
  ∀ (v : V) (a' b' : Int), v ∈ xs → FeedAt (upd H p (.lst [.int a', .int b'])) p a' b' → Q v (upd H p (.lst [.int a', .int b']))
theorem feed_same {H H' : Hp} {p : Addr} {a b : Int} (s : Same H H') (h : FeedAt H p a b) : FeedAt H' p a b := ⟨s _ _ h.1, h.2⟩
/-! ### numbers -/
def spNum : Sp := fun vs H Q _ => ∃ z : Str, vs = [.str z] ∧ z.length ≤ 1000000 ∧ ∀ H', Same H H' → Q (optV (numOf z)) H'
theorem same_lst {H H' : Hp} {p : Addr} {o : HO} (s : Same H H') (h : H p = none) : Same H (upd H' p o) := same_mut s h
theorem str_len_list (w : Str) : w.length = w.cps.toList.length := by show w.cps.size = _; simp
theorem numOf_some {z : Str} (h : numOk z = true) : numOf z = some (numVal z) := by unfold numOf; rw [if_pos h]
theorem numOf_none {z : Str} (h : numOk z = false) : numOf z = none := by unfold numOf; rw [if_neg (by rw [h]; decide)]
theorem numOf_range {z : Str} {v : Int} (h : numOf z = some v) : 0 ≤ v ∧ v < 4294967296 := by
  unfold numOf at h
  split at h
  · rename_i e
    unfold numOk at e
    simp only [Bool.and_eq_true, decide_eq_true_eq] at e
    cases h
    exact ⟨by unfold numVal; omega, e.2⟩
  · cases h
def R32 (z : Int) : Prop := 0 ≤ z ∧ z < 4294967296
theorem r32_log {v : Int} (h : R32 v) : v.natAbs.log2 < 1920 := by
  obtain ⟨h0, h1⟩ := h
  by_cases z : v.natAbs = 0
  · rw [z]; decide
  · have : v.natAbs.log2 < 32 := (Nat.log2_lt z).mpr (by omega)
    omega
def OkC (n : Str) (o : Option Int) : Prop := n ∈ portNames ∧ ∀ v, o = some v → R32 v
theorem primOf_ok {z n : Str} {o : Option Int} (h : primOf z = some (n, o)) : OkC n o := by
  unfold primOf at h
  generalize Txt.split z " " = ws at h
  match ws, h with
  | [m], h =>
    change (if m ∈ plain7 then some (m, (none : Option Int)) else none) = _ at h
    split at h
    · rename_i q
      cases h
      exact ⟨plain_port q, fun v e => by cases e⟩
    · cases h
  | [m, k], h =>
    change (if withK m = true then (numOf k).map (fun v => (m, some v)) else none) = _ at h
    split at h
    · rename_i q
      cases e : numOf k with
      | none => rw [e] at h; cases h
      | some v =>
        rw [e] at h
        cases h
        exact ⟨withK_port q, fun v' e' => by cases e'; exact numOf_range e⟩
    · cases h
  | [], h => cases h
  | _ :: _ :: _ :: _, h => cases h
theorem inV_cd (n : Str) : inV (.str n) [.str "const", .str "delay"] = withK n := by
  have e : ∀ a b : Str, eqV (.str a) (.str b) = decide (b = a) := fun a b => by
    show (a == b) = _
    by_cases h : a = b
    · rw [h]; simp
    · rw [beq_eq_false_iff_ne.mpr h, decide_eq_false (fun q => h q.symm)]
  unfold inV withK
  simp only [List.any_cons, List.any_nil, e, Bool.or_false]
/-! ### the promises -/
def spBI (K : PySem.W.Frag) (C : Addr) : Sp := fun vs H Q _ => ∃ (x dx i o : Addr) (n : Str) (xs ys : List V), vs = [.ref x, .str n, .ref i, .ref o] ∧ H x = some (.ins C dx []) ∧ SqT K H i xs ∧ SqT K H o ys ∧ Q .non (upd H x (.ins C dx (fsB n i o)))
def spPI (K : PySem.W.Frag) (C : Addr) : Sp := fun vs H Q _ => ∃ (x dx : Addr) (n : Str) (c : Option Int), vs = [.ref x, .str n, optV c] ∧ H x = some (.ins C dx []) ∧ OkC n c ∧ ∀ i o, (∃ ins outs, (n, ins, outs) ∈ portsTab ∧ (∀ H, SqT K H i (ins.map V.str)) ∧ ∀ H, SqT K H o (outs.map V.str)) → Q .non (upd H x (.ins C dx (fsP n i o (optV c) (textOf n c))))
def spDead : Sp := fun _ _ _ _ => False
def spIpt : Sp := fun vs H Q _ => ∃ z : Str, vs = [.str z] ∧ z.length ≤ 1000000 ∧ ∀ H', Same H H' → Q (.bl (primOf z).isSome) H'
def spParse (K : PySem.W.Frag) (C : Addr) : Sp := fun vs H Q _ => ∃ (z n : Str) (c : Option Int), vs = [.ref C, .str z] ∧ z.length ≤ 1000000 ∧ primOf z = some (n, c) ∧ ∀ x H', Same H H' → H x = none → PrimAt K C H' x n (optV c) (textOf n c) → Q (.ref x) H'
def names6 : List Str := ["add", "sub", "mul", "less", "equal", "divide"]
def op2 (n : Str) (a b : Int) : List Int :=
  if n = "divide" then (if b = 0 then [0, a] else [a / b, a % b]) else if n = "less" then [if a < b then 1 else 0] else if n = "equal" then [if a = b then 1 else 0]
  else if n = "add" then [(a + b) % 4294967296] else if n = "sub" then [(a - b) % 4294967296] else [(a * b) % 4294967296]
/-- what a primitive computes -/
inductive Comp : Str → V → List Int → List Int → Prop
  | const {v : Int} : Comp "const" (.int v) [] [v]
  | pick {c a b : Int} : Comp "pick" .non [c, a, b] [if c = 0 then b else a]
  | two {n : Str} {a b : Int} : n ∈ names6 → R32 a → R32 b → Comp n .non [a, b] (op2 n a b)
def spComp (K : PySem.W.Frag) (C : Addr) : Sp := fun vs H Q _ => ∃ (x t : Addr) (n z : Str) (c : V) (as bs : List Int), vs = [.ref x, .ref t] ∧ PrimAt K C H x n c z ∧ Comp n c as bs ∧ SqT K H t (as.map V.int) ∧
  ∀ p H', Same H H' → H' p = some (.tup (bs.map V.int)) → Q (.ref p) H'
def spPStr (K : PySem.W.Frag) (C : Addr) : Sp := fun vs H Q _ => ∃ (x : Addr) (n z : Str) (c : V), vs = [.ref x] ∧ PrimAt K C H x n c z ∧ z.length ≤ 100000 ∧ Q (.str z) H
theorem op2_add (a b : Int) : op2 "add" a b = [(a + b) % 4294967296] := by kernel_rfl
theorem op2_sub (a b : Int) : op2 "sub" a b = [(a - b) % 4294967296] := by kernel_rfl
theorem op2_mul (a b : Int) : op2 "mul" a b = [(a * b) % 4294967296] := by kernel_rfl
theorem op2_less (a b : Int) : op2 "less" a b = [if a < b then 1 else 0] := by kernel_rfl
theorem op2_equal (a b : Int) : op2 "equal" a b = [if a = b then 1 else 0] := by kernel_rfl
theorem op2_div (a b : Int) : op2 "divide" a b = if b = 0 then [0, a] else [a / b, a % b] := by kernel_rfl
theorem n6_no {n : Str} (h : n ∈ names6) : ¬ n = "const" ∧ ¬ n = "pick" := by
  simp only [names6, List.mem_cons, List.not_mem_nil, or_false] at h
  rcases h with rfl | rfl | rfl | rfl | rfl | rfl <;> decide +kernel
theorem n6_rest {n : Str} (h : n ∈ names6) (h1 : ¬ n = "divide") (h2 : ¬ n = "less") (h3 : ¬ n = "equal") : n = "add" ∨ n = "sub" ∨ n = "mul" := by
  simp only [names6, List.mem_cons, List.not_mem_nil, or_false] at h
  rcases h with h | h | h | h | h | h
  · exact .inl h
  · exact .inr (.inl h)
  · exact .inr (.inr h)
  · exact absurd h h2
  · exact absurd h h3
  · exact absurd h h1
theorem n6_plain {n : Str} (h : n ∈ names6) : n ∈ plain7 := (show ∀ n ∈ names6, n ∈ plain7 by decide +kernel) n h
end Ly

set_option maxRecDepth 100000
set_option maxHeartbeats 4000000
/-! data whose repr is taken -/
namespace Ly
open PySem PySem.Spec PyProof.Rows L2
/-- data of depth n and weight w at most, short leaves -/
structure Rep (n w : Nat) (d : PyData) : Prop where
  sh : d.showable = true
  nd : d.hasDict = false
  dp : d.depth ≤ n
  lv : d.leavesShort 13 = true
  wt : d.weight ≤ w
structure Reps (n w : Nat) (ds : List PyData) : Prop where
  sh : PyData.showableAll ds = true
  nd : PyData.hasDictAll ds = false
  dp : PyData.depthAll ds ≤ n
  lv : PyData.leavesShortAll 13 ds = true
  wt : PyData.weightAll ds ≤ w
theorem Rep.mono {n w n' w' : Nat} {d : PyData} (h : Rep n w d) (h1 : n ≤ n') (h2 : w ≤ w') : Rep n' w' d := ⟨h.sh, h.nd, Nat.le_trans h.dp h1, h.lv, Nat.le_trans h.wt h2⟩
theorem rep_non {n w : Nat} : Rep n w .none := ⟨rfl, rfl, Nat.zero_le _, rfl, Nat.zero_le _⟩
theorem rep_bool {n w : Nat} {b : Bool} : Rep n w (.bool b) := ⟨rfl, rfl, Nat.zero_le _, rfl, Nat.zero_le _⟩
theorem rep_int {n w : Nat} {i : Int} (h : i.natAbs < 10 ^ 12) (hw : 40 ≤ w) : Rep n w (.int i) := by
  have hl : i.natAbs.log2 < 40 := by
    by_cases z : i.natAbs = 0
    · rw [z]; decide
    · exact (Nat.log2_lt z).mpr (Nat.lt_of_lt_of_le h (by decide))
  refine ⟨decide_eq_true (by omega), rfl, Nat.zero_le _, decide_eq_true (PyData.shown_int_le h), ?_⟩
  show (if i == 0 then 0 else i.natAbs.log2 + 1) ≤ w
  split <;> omega
theorem rep_str {n w : Nat} {x : Str} (h : x.length ≤ w) (hc : x.cps.toList.all (fun c => decide (c < 16 ^ 8)) = true) : Rep n w (.str x) := ⟨rfl, rfl, Nat.zero_le _, hc, h⟩
theorem reps_nil {n w : Nat} : Reps n w [] := ⟨rfl, rfl, Nat.zero_le _, rfl, Nat.zero_le _⟩
theorem reps_cons {n w w1 w2 : Nat} {d : PyData} {ds : List PyData} (h : Rep n w1 d) (hs : Reps n w2 ds) (hw : w1 + 1 + w2 ≤ w) : Reps n w (d :: ds) := by
  refine ⟨?_, ?_, ?_, ?_, ?_⟩
  · simp only [PyData.showableAll, h.sh, hs.sh, Bool.and_self]
  · simp only [PyData.hasDictAll, h.nd, hs.nd, Bool.or_self]
  · simp only [PyData.depthAll]; exact Nat.max_le.mpr ⟨h.dp, hs.dp⟩
  · simp only [PyData.leavesShortAll, h.lv, hs.lv, Bool.and_self]
  · simp only [PyData.weightAll]; have := h.wt; have := hs.wt; omega
theorem reps_all {n w : Nat} : ∀ {ds : List PyData}, (∀ d ∈ ds, Rep n w d) → Reps n ((w + 1) * ds.length) ds
  | [], _ => reps_nil
  | d :: r, h => reps_cons (h d List.mem_cons_self) (reps_all fun x hx => h x (List.mem_cons_of_mem _ hx)) (by rw [List.length_cons, Nat.mul_add]; omega)
theorem Reps.mono {n w n' w' : Nat} {d : List PyData} (h : Reps n w d) (h1 : n ≤ n') (h2 : w ≤ w') : Reps n' w' d := ⟨h.sh, h.nd, Nat.le_trans h.dp h1, h.lv, Nat.le_trans h.wt h2⟩
theorem rep_tup {n w : Nat} {ds : List PyData} (h : Reps n w ds) : Rep (n + 1) w (.tuple ds) := ⟨h.sh, h.nd, Nat.succ_le_succ h.dp, h.lv, h.wt⟩
theorem rep_lst {n w : Nat} {ds : List PyData} (h : Reps n w ds) : Rep (n + 1) w (.list ds) := ⟨h.sh, h.nd, Nat.succ_le_succ h.dp, h.lv, h.wt⟩
theorem Rep.short {n w : Nat} {d : PyData} (h : Rep n w d) (hw : w ≤ 2 ^ 20) : d.shown.length ≤ sizeLine := PyData.shown_fits (B := 13) (by decide) (by decide) h.lv (Nat.le_trans h.wt hw)
/-- repr of data -/
theorem rep_read {K : PySem.W.Frag} {H : Hp} {Q : VK} {n w : Nat} {a : Addr} {d : PyData} (h : Rep n w d) (hd : Dp K H (.ref a) d) (hn : n ≤ 60) (hw : w ≤ 2 ^ 20) (q : Q (.str d.shown) H) : rRepr K [.ref a] H Q :=
  ⟨a, d, rfl, hd, h.sh, h.nd, Nat.le_trans h.dp hn, h.short hw, q⟩
/-! ### tuples of numbers -/
theorem rep_ints {bs : List Int} (hl : bs.length ≤ 1000) (h : ∀ b ∈ bs, b.natAbs < 10 ^ 12) : Rep 1 50000 (.tuple (bs.map .int)) :=
  rep_tup ((reps_all (n := 0) (w := 40) (ds := bs.map .int) fun d hd => by
    obtain ⟨b, hb, rfl⟩ := List.mem_map.mp hd
    exact rep_int (h b hb) (Nat.le_refl _)).mono (Nat.le_refl _) (by rw [List.length_map]; omega))
theorem dp_ints {K : PySem.W.Frag} {H : Hp} {a : Addr} {bs : List Int} (h : SqT K H a (bs.map V.int)) : Dp K H (.ref a) (.tuple (bs.map .int)) := .tup h (by
  clear h
  induction bs with
  | nil => exact .nil
  | cons b r ih => exact .cons (.int b) ih)
theorem comp_small {n : Str} {c : V} {as bs : List Int} (h : Comp n c as bs) (ha : ∀ a ∈ as, R32 a) (hc : ∀ v, c = .int v → R32 v) : bs.length ≤ 1000 ∧ ∀ b ∈ bs, b.natAbs < 10 ^ 12 := by
  have sm : ∀ {z : Int}, R32 z → z.natAbs < 10 ^ 12 := fun h => by have := h.1; have := h.2; omega
  cases h with
  | @const v =>
    refine ⟨by simp, fun b hb => ?_⟩
    simp only [List.mem_cons, List.not_mem_nil, or_false] at hb
    rw [hb]
    exact sm (hc v rfl)
  | @pick c a b =>
    refine ⟨by simp, fun z hz => ?_⟩
    simp only [List.mem_cons, List.not_mem_nil, or_false] at hz
    rw [hz]
    split
    · exact sm (ha _ (by simp))
    · exact sm (ha _ (by simp))
  | @two n a b hn ha' hb =>
    obtain ⟨a0, a1⟩ := ha'
    obtain ⟨b0, b1⟩ := hb
    have md : ∀ z : Int, (z % 4294967296).natAbs < 10 ^ 12 := fun z => by omega
    refine ⟨?_, fun z hz => ?_⟩
    · unfold op2
      repeat' split
      all_goals simp
    · unfold op2 at hz
      split at hz
      · split at hz
        · simp only [List.mem_cons, List.not_mem_nil, or_false] at hz
          rcases hz with rfl | rfl
          · decide
          · omega
        · rename_i hb'
          simp only [List.mem_cons, List.not_mem_nil, or_false] at hz
          rcases hz with rfl | rfl
          · have h1 := Int.ediv_nonneg a0 b0
            have h2 := Int.ediv_le_self b a0
            omega
          · have h1 := Int.emod_nonneg a hb'
            have h2 := Int.emod_lt_of_pos a (show (0 : Int) < b by omega)
            omega
      all_goals repeat' split at hz
      all_goals (simp only [List.mem_cons, List.not_mem_nil, or_false] at hz; subst hz; first | exact md _ | decide)
theorem int_text {n : Int} (h : R32 n) : intText? (Str.ofString (toString n)) = some n := by
  have e := numOf_text h.1 h.2
  unfold numOf at e
  split at e
  · rename_i q
    have e2 := Option.some.inj e
    unfold numOk at q
    simp only [Bool.and_eq_true, decide_eq_true_eq] at q
    obtain ⟨⟨⟨⟨q1, q2⟩, q3⟩, q4⟩, q5⟩ := q
    rw [int_dig q3 q1 q2, e2]
  · cases e
/-! ### data of texts, prims' interfaces -/
mutual
theorem same_dp {K : PySem.W.Frag} {H H' : Hp} (s : Same H H') : ∀ {d : PyData} {v : V}, Dp K H v d → Dp K H' v d
  | _, _, .non => .non
  | _, _, .bl b => .bl b
  | _, _, .int i => .int i
  | _, _, .str x => .str x
  | _, _, .lst h hs => .lst (same_sql s h) (same_dps s hs)
  | _, _, .tup h hs => .tup (same_sqt s h) (same_dps s hs)
theorem same_dps {K : PySem.W.Frag} {H H' : Hp} (s : Same H H') : ∀ {ds : List PyData} {vs : List V}, DpAll K H vs ds → DpAll K H' vs ds
  | _, _, .nil => .nil
  | _, _, .cons h hs => .cons (same_dp s h) (same_dps s hs)
end
def dTx (xs : List Str) : PyData := .tuple (xs.map .str)
theorem dps_strs {K : PySem.W.Frag} {H : Hp} : ∀ (xs : List Str), DpAll K H (xs.map V.str) (xs.map .str)
  | [] => .nil
  | x :: r => .cons (.str x) (dps_strs r)
theorem dp_strs {K : PySem.W.Frag} {H : Hp} {a : Addr} {xs : List Str} (h : SqT K H a (xs.map V.str)) : Dp K H (.ref a) (dTx xs) := .tup h (dps_strs xs)
def optD : Option Int → PyData
  | none => .none
  | some v => .int v
theorem dp_opt {K : PySem.W.Frag} {H : Hp} : ∀ (c : Option Int), Dp K H (optV c) (optD c)
  | none => .non
  | some v => .int v
def needs (n : Str) (ins : List Str) : List Str := if n = "delay" then [] else ins
def dProf (n : Str) (ins outs : List Str) : PyData := .tuple [.tuple [dTx outs, dTx (needs n ins)]]
def dIface (n : Str) (ins outs : List Str) : PyData := .tuple [dTx ins, dTx outs, dProf n ins outs]
@[irreducible] def dTold (n : Str) (ins outs : List Str) (c : Option Int) : PyData := .tuple [.str n, dTx ins, dTx outs, optD c, dIface n ins outs]
theorem ports_fun {n : Str} {ins outs ins' outs' : List Str} (h : (n, ins, outs) ∈ portsTab) (h' : (n, ins', outs') ∈ portsTab) : ins = ins' ∧ outs = outs' := by
  have k : ∀ p ∈ portsTab, ∀ q ∈ portsTab, p.1 = q.1 → p = q := by decide +kernel
  have e := k _ h _ h' rfl
  cases e
  exact ⟨rfl, rfl⟩
def spIface (K : PySem.W.Frag) (C : Addr) : Sp := fun vs H Q _ => ∃ (x : Addr) (n z : Str) (c : V) (ins outs : List Str), vs = [.ref x] ∧ PrimAt K C H x n c z ∧ (n, ins, outs) ∈ portsTab ∧
  ∀ p H', Same H H' → Dp K H' (.ref p) (dIface n ins outs) → Q (.ref p) H'
/-- a text of a primitive -/
structure PText (n : Str) (c : Option Int) : Prop where
  ok : OkC n c
  kc : withK n = c.isSome
def spDue1 (K : PySem.W.Frag) : Sp := fun vs H Q _ => ∃ (n : Str) (c : Option Int) (ins outs : List Str), vs = [.str (textOf n c)] ∧ PText n c ∧ (n, ins, outs) ∈ portsTab ∧
  ∀ p i o pr H', Same H H' → H' p = some (.tup [.str n, .ref i, .ref o, optV c, .ref pr]) → Dp K H' (.ref i) (dTx ins) → Dp K H' (.ref o) (dTx outs) → Dp K H' (.ref pr) (dProf n ins outs) → Q (.ref p) H'
theorem textOf_len {n : Str} {c : Option Int} (h : OkC n c) : (textOf n c).length ≤ 100 := by
  have hn : n.length ≤ 10 := (show ∀ n ∈ portNames, n.length ≤ 10 by decide +kernel) n h.1
  cases c with
  | none => exact Nat.le_trans hn (by decide)
  | some v =>
    have hv := h.2 v rfl
    have hls : (Str.ofString (toString v)).length ≤ 10 := PySem.W.KT.len_num hv.1 (by have := hv.2; omega : v < 10 ^ 10)
    show (n ++ " " ++ Str.ofString (toString v)).length ≤ 100
    rw [PySem.Str.length_append, PySem.Str.length_append]
    have : (" " : Str).length = 1 := by decide +kernel
    omega
theorem primOf_text {n : Str} {c : Option Int} (h : PText n c) : primOf (textOf n c) = some (n, c) := by
  cases c with
  | none => exact primOf_plain (port_plain h.ok.1 h.kc)
  | some v =>
    have hv := h.ok.2 v rfl
    refine primOf_K ?_ hv.1 hv.2
    have := h.kc
    unfold withK at this
    simpa using this
theorem split_text {n : Str} {c : Option Int} (h : PText n c) : Txt.split (textOf n c) " " = match c with | none => [n] | some v => [n, Str.ofString (toString v)] := by
  have hn : 32 ∉ TL.tl n := (show ∀ n ∈ portNames, 32 ∉ TL.tl n by decide +kernel) n h.ok.1
  cases c with
  | none => exact split_one hn
  | some v => exact split_two hn (num_sp v)
theorem rep_ports : ∀ p ∈ portsTab, (Rep 0 20 (.str p.1) ∧ Rep 1 60 (dTx p.2.1)) ∧ Rep 1 60 (dTx p.2.2) := by
  have k : ∀ p ∈ portsTab, (((PyData.str p.1).leavesShort 13 = true ∧ (PyData.str p.1).weight ≤ 20) ∧ ((dTx p.2.1).showable = true ∧ (dTx p.2.1).hasDict = false ∧ (dTx p.2.1).depth ≤ 1 ∧ (dTx p.2.1).leavesShort 13 = true ∧ (dTx p.2.1).weight ≤ 60)) ∧
      ((dTx p.2.2).showable = true ∧ (dTx p.2.2).hasDict = false ∧ (dTx p.2.2).depth ≤ 1 ∧ (dTx p.2.2).leavesShort 13 = true ∧ (dTx p.2.2).weight ≤ 60) := by decide +kernel
  intro p hp
  obtain ⟨⟨⟨a1, a2⟩, b1, b2, b3, b4, b5⟩, c1, c2, c3, c4, c5⟩ := k p hp
  exact ⟨⟨⟨rfl, rfl, Nat.zero_le _, a1, a2⟩, ⟨b1, b2, b3, b4, b5⟩⟩, ⟨c1, c2, c3, c4, c5⟩⟩
theorem rep_told {n : Str} {c : Option Int} {ins outs : List Str} (hc : OkC n c) (hp : (n, ins, outs) ∈ portsTab) : Rep 5 1000 (dTold n ins outs c) := by
  obtain ⟨⟨h1, h2⟩, h3⟩ := rep_ports _ hp
  have h0 : Rep 0 40 (optD c) := by
    cases c with
    | none => exact rep_non
    | some v => exact rep_int (by have := (hc.2 v rfl).1; have := (hc.2 v rfl).2; omega) (Nat.le_refl _)
  have hn : Rep 1 60 (dTx (needs n ins)) := by
    unfold needs
    split
    · exact rep_tup reps_nil
    · exact h2
  have hp : Rep 3 200 (dProf n ins outs) := rep_tup (reps_cons (w1 := 150) (w2 := 0) (rep_tup (reps_cons (w1 := 60) (w2 := 61) h3 (reps_cons (w1 := 60) (w2 := 0) hn reps_nil (by decide)) (by decide))) reps_nil (by decide))
  have hi : Rep 4 400 (dIface n ins outs) := rep_tup (reps_cons (w1 := 60) (w2 := 300) (h2.mono (by decide) (by decide)) (reps_cons (w1 := 60) (w2 := 201) (h3.mono (by decide) (by decide)) (reps_cons (w1 := 200) (w2 := 0) (hp.mono (by decide) (by decide)) reps_nil (by decide)) (by decide)) (by decide))
  unfold dTold
  have e := rep_tup (reps_cons (w1 := 20) (w2 := 700) (h1.mono (by decide) (by decide)) (reps_cons (w1 := 60) (w2 := 600) (h2.mono (by decide) (by decide)) (reps_cons (w1 := 60) (w2 := 500) (h3.mono (by decide) (by decide)) (reps_cons (w1 := 40) (w2 := 401) (h0.mono (by decide) (by decide)) (reps_cons (w1 := 400) (w2 := 0) hi reps_nil (by decide)) (by decide)) (by decide)) (by decide)) (show 20 + 1 + 700 ≤ 1000 by decide))
  exact e
def TextsOk (ts : List V) : Prop := ∀ v ∈ ts, ∃ n c, v = .str (textOf n c) ∧ PText n c
theorem texts7 : TextsOk (plain7.map V.str) := fun v hv => by
  obtain ⟨n, hn, rfl⟩ := List.mem_map.mp hv
  exact ⟨n, none, rfl, ⟨plain_port hn, fun _ e => by cases e⟩, plain_noK hn⟩
theorem pt_const {v : Int} (h : R32 v) : PText "const" (some v) := ⟨⟨by decide +kernel, fun _ e => by cases e; exact h⟩, (show withK "const" = true by decide +kernel)⟩
theorem pt_delay {v : Int} (h : R32 v) : PText "delay" (some v) := ⟨⟨by decide +kernel, fun _ e => by cases e; exact h⟩, (show withK "delay" = true by decide +kernel)⟩
theorem tx_const (t : Str) : ("const " : Str) ++ t = "const" ++ " " ++ t := by rw [show ("const" ++ " " : Str) = "const " by decide +kernel]
theorem tx_delay (t : Str) : ("delay " : Str) ++ t = "delay" ++ " " ++ t := by rw [show ("delay" ++ " " : Str) = "delay " by decide +kernel]
theorem dp_told {K : PySem.W.Frag} {H : Hp} {a i o q : Addr} {n : Str} {c : Option Int} {ins outs : List Str} (h : SqT K H a [.str n, .ref i, .ref o, optV c, .ref q]) (hi : Dp K H (.ref i) (dTx ins)) (ho : Dp K H (.ref o) (dTx outs)) (hq : Dp K H (.ref q) (dIface n ins outs)) : Dp K H (.ref a) (dTold n ins outs c) := by
  unfold dTold
  exact .tup h (.cons (.str n) (.cons hi (.cons ho (.cons (dp_opt c) (.cons hq .nil)))))
theorem dp_iface {K : PySem.W.Frag} {H : Hp} {a i o q : Addr} {n : Str} {ins outs : List Str} (h : SqT K H a [.ref i, .ref o, .ref q]) (hi : Dp K H (.ref i) (dTx ins)) (ho : Dp K H (.ref o) (dTx outs)) (hq : Dp K H (.ref q) (dProf n ins outs)) : Dp K H (.ref a) (dIface n ins outs) :=
  .tup h (.cons hi (.cons ho (.cons hq .nil)))
theorem kit_self {K : PySem.W.Frag} {C : Addr} : PySem.W.kitOne K (.ref C) (.ref C) = some true := by
  unfold PySem.W.kitOne
  rw [if_pos (by simp)]
theorem kit_sub {K : PySem.W.Frag} {C D : Addr} {cd : ClassData} (h1 : PySem.W.clsIn K D = some cd) (h2 : PySem.W.typeIn K (.ref D) = some (.type "type")) (h3 : PySem.W.subIn K (.ref C) (.ref D) = some true) : PySem.W.kitOne K (.ref C) (.ref D) = some true := by
  unfold PySem.W.kitOne
  split
  · rfl
  · unfold PySem.W.kitCls
    simp only [h1, h2]
    rw [if_pos (by simp)]
    exact h3
end Ly

set_option maxRecDepth 100000
set_option maxHeartbeats 4000000
/-! texts: the canonical form of a value's text; repr of any data; lengths and signs of texts -/
namespace Ly
open PySem PySem.Spec PyProof.Rows L2
/-! ### a value's text is the word -/
theorem dv_app (l : List Nat) (c : Nat) : NumText.digitsVal (l ++ [c]) = NumText.digitsVal l * 10 + (c - 48) := by
  unfold NumText.digitsVal
  rw [List.foldl_append]
  rfl
theorem digs_back : ∀ (r : List Nat), (∀ c ∈ r, 48 ≤ c ∧ c ≤ 57) → r ≠ [] → (r.reverse.head? = some 48 → r = [48]) → (Nat.toDigits 10 (NumText.digitsVal r.reverse)).map Char.toNat = r.reverse
  | [], _, h, _ => absurd rfl h
  | c :: r, hd, _, hz => by
    have hc := hd c List.mem_cons_self
    have dch : ∀ d : Nat, d < 10 → (Nat.digitChar d).toNat = d + 48 := by decide
    rw [List.reverse_cons, dv_app]
    cases hr : r with
    | nil =>
      show (Nat.toDigits 10 (NumText.digitsVal [] * 10 + (c - 48))).map Char.toNat = [c]
      rw [show NumText.digitsVal [] = 0 from rfl, Nat.zero_mul, Nat.zero_add, Nat.toDigits_of_lt_base (by omega)]
      show [(Nat.digitChar (c - 48)).toNat] = [c]
      rw [dch _ (by omega)]
      congr 1
      omega
    | cons b r' =>
      rw [← hr]
      have hr0 : r ≠ [] := by rw [hr]; simp
      have hh : r.reverse.head? ≠ some 48 := fun e => by
        have e2 : (c :: r).reverse.head? = some 48 := by
          rw [List.reverse_cons]
          cases q : r.reverse with
          | nil => rw [q] at e; cases e
          | cons x y => rw [q] at e; exact e
        have := hz e2
        rw [hr] at this
        simp at this
      have ih := digs_back r (fun x hx => hd x (List.mem_cons_of_mem _ hx)) hr0 (fun e => absurd e hh)
      have hpos : 0 < NumText.digitsVal r.reverse := by
        rcases Nat.eq_zero_or_pos (NumText.digitsVal r.reverse) with z | z
        · rw [z] at ih
          have : (Nat.toDigits 10 0).map Char.toNat = [48] := by decide +kernel
          rw [this] at ih
          rw [← ih] at hh
          exact absurd rfl hh
        · exact z
      have t : Nat.toDigits 10 (NumText.digitsVal r.reverse) ++ Nat.toDigits 10 (c - 48) = Nat.toDigits 10 (10 * NumText.digitsVal r.reverse + (c - 48)) := Nat.toDigits_append_toDigits (by decide) hpos (by omega)
      rw [Nat.mul_comm, ← t, List.map_append, ih, Nat.toDigits_of_lt_base (show c - 48 < 10 by omega)]
      show r.reverse ++ [(Nat.digitChar (c - 48)).toNat] = r.reverse ++ [c]
      rw [dch _ (by omega)]
      congr 2
      omega
theorem num_text {w : Str} {v : Int} (h : numOf w = some v) : Str.ofString (toString v) = w := by
  unfold numOf at h
  split at h
  · rename_i q
    have e := Option.some.inj h
    unfold numOk at q
    simp only [Bool.and_eq_true, decide_eq_true_eq, Bool.not_eq_true', Bool.and_eq_false_iff, decide_eq_false_iff_not] at q
    obtain ⟨⟨⟨⟨q1, q2⟩, q3⟩, q4⟩, q5⟩ := q
    have el : w.length = w.cps.toList.length := str_len_list w
    have hd : ∀ c ∈ w.cps.toList, 48 ≤ c ∧ c ≤ 57 := fun c hc => by
      have q := List.all_eq_true.mp q3 c hc
      unfold isDig at q
      simpa using q
    have hb := digs_back w.cps.toList.reverse (fun c hc => hd c (List.mem_reverse.mp hc)) (fun z => by
      have : w.cps.toList = [] := by simpa using z
      rw [this] at el
      simp at el
      omega) (fun z => by
      rw [List.reverse_reverse] at z
      have h1 : ¬ 1 < w.length := q4.resolve_left fun n => n z
      have h2 : w.cps.toList.length = 1 := by omega
      match hm : w.cps.toList, h2 with
      | [a], _ =>
        rw [hm] at z
        have : a = 48 := by simpa using z
        rw [this]
        rfl)
    rw [List.reverse_reverse] at hb
    have sg := PySem.W.KIN.signs_num (NumText.digitsVal w.cps.toList)
    have e2 : (Str.ofString (toString v)).cps.toList = w.cps.toList := by
      rw [← e]
      show (Str.ofString (toString ((NumText.digitsVal w.cps.toList : Nat) : Int))).cps.toList = _
      rw [sg]
      exact hb
    have e3 : (Str.ofString (toString v)).cps = w.cps := by
      have := congrArg List.toArray e2
      simpa using this
    cases hw : w with
    | mk a =>
      rw [hw] at e3
      cases ho : Str.ofString (toString v) with
      | mk b =>
        rw [ho] at e3
        exact congrArg Str.mk e3
  · cases h
theorem split_back {z : Str} : Str.join " " (Txt.split z " ") = z := PySem.StrLaws.join_split z " "
theorem text_prim {z n : Str} {c : Option Int} (h : primOf z = some (n, c)) : textOf n c = z := by
  have hj := split_back (z := z)
  unfold primOf at h
  generalize Txt.split z " " = ws at h hj
  match ws, h, hj with
  | [m], h, hj =>
    change (if m ∈ plain7 then some (m, (none : Option Int)) else none) = _ at h
    split at h
    · cases h
      rw [← hj, ← TL.join_eq]
      rfl
    · cases h
  | [m, k], h, hj =>
    change (if withK m = true then (numOf k).map (fun v => (m, some v)) else none) = _ at h
    split at h
    · cases e : numOf k with
      | none => rw [e] at h; cases h
      | some v =>
        rw [e] at h
        cases h
        rw [← hj, ← TL.join_eq]
        show n ++ " " ++ Str.ofString (toString v) = _
        rw [num_text e]
        rfl
    · cases h
  | [], h, _ => cases h
  | _ :: _ :: _ :: _, h, _ => cases h
/-! ### repr of any data -/
def rReprV (K : PySem.W.Frag) : List V → Hp → VK → Prop := fun xs H Q => ∃ v d, xs = [v] ∧ Dp K H v d ∧ d.showable = true ∧ d.hasDict = false ∧ d.depth ≤ 60 ∧ d.shown.length ≤ sizeLine ∧ Q (.str d.shown) H
theorem call_reprV {X : Cx} (K : PySem.W.Frag) (hg : Idle X.A) (hu : X.A.units + 64 < cLine) (hK : X.K = K := by rfl) : CallR X (.builtin "repr") (rReprV K) := by
  subst hK
  intro pins s σ H xs us Q I r h
  obtain ⟨v, d, rfl, hd, hs, hn, hdp, hz, q⟩ := h
  have rr := r
  obtain ⟨u, rfl, ru⟩ := vals1 r
  cases hd with
  | non =>
    cases ru
    exact PySem.P.repr_of_none ⟨.str "None", H, I.tok _, ⟨_, rfl⟩, q⟩
  | bl b =>
    cases ru
    exact PySem.P.repr_of_bool ⟨.str (if b then "True" else "False"), H, I.tok _, ⟨_, rfl⟩, q⟩
  | int i =>
    obtain ⟨t, rfl⟩ := ru
    exact PySem.P.repr_of_int (of_decide_eq_true hs) ⟨.str (toString i), H, I.tok _, ⟨_, rfl⟩, q⟩
  | str x =>
    obtain ⟨t, rfl⟩ := ru
    exact PySem.P.repr_of_str ⟨.str (reprText x), H, I.tok _, ⟨_, rfl⟩, q⟩ hz
  | lst hq ha => exact call_repr (X := X) X.K hg hu rfl pins s σ H _ _ Q I rr ⟨_, _, rfl, .lst hq ha, hs, hn, hdp, hz, q⟩
  | tup hq ha => exact call_repr (X := X) X.K hg hu rfl pins s σ H _ _ Q I rr ⟨_, _, rfl, .tup hq ha, hs, hn, hdp, hz, q⟩
/-! ### texts of bounded length and usual signs -/
structure OkT (n : Nat) (z : Str) : Prop where
  ln : z.length ≤ n
  sg : z.cps.toList.all (fun c => decide (c < 1114112)) = true
theorem OkT.mono {n m : Nat} {z : Str} (h : OkT n z) (k : n ≤ m) : OkT m z := ⟨Nat.le_trans h.ln k, h.sg⟩
theorem okT_app {n m : Nat} {x y : Str} (h : OkT n x) (k : OkT m y) : OkT (n + m) (x ++ y) := by
  refine ⟨by rw [PySem.Str.length_append]; exact Nat.add_le_add h.ln k.ln, ?_⟩
  have e : (x ++ y).cps.toList = x.cps.toList ++ y.cps.toList := by rw [PySem.Str.cps_append]; simp
  rw [e, List.all_append, h.sg, k.sg]
  rfl
theorem okT_cut {n : Nat} {z : Str} {lo hi : Option Int} (h : OkT n z) : OkT n (cutS z lo hi) := by
  refine ⟨Nat.le_trans (cutS_length z lo hi) h.ln, ?_⟩
  rw [List.all_eq_true]
  intro c hc
  refine List.all_eq_true.mp h.sg c ?_
  have : c ∈ (z.cps.toList.drop (HT.sIx z.length 0 lo)).take (HT.sIx z.length z.length hi - HT.sIx z.length 0 lo) := by simpa [cutS] using hc
  exact List.mem_of_mem_drop (List.mem_of_mem_take this)
theorem okT_num {v : Int} (h0 : 0 ≤ v) (h1 : v < 10 ^ 10) : OkT 10 (Str.ofString (toString v)) := by
  refine ⟨PySem.W.KT.len_num h0 h1, ?_⟩
  obtain ⟨m, rfl⟩ := Int.eq_ofNat_of_zero_le h0
  rw [List.all_eq_true]
  intro c hc
  rw [PySem.W.KIN.signs_num m] at hc
  obtain ⟨ch, hch, e⟩ := List.mem_map.mp hc
  have r := PyProof.Rows.digit_range (Nat.isDigit_of_mem_toDigits (by decide) (by decide) hch)
  rw [← e]
  exact decide_eq_true (by omega)
theorem rep_okT {n m w : Nat} {z : Str} (h : OkT n z) (k : n ≤ w) : Rep m w (.str z) := rep_str (Nat.le_trans h.ln k) (by
  rw [List.all_eq_true]
  intro c hc
  have := of_decide_eq_true (List.all_eq_true.mp h.sg c hc)
  exact decide_eq_true (Nat.lt_of_lt_of_le this (by decide)))
theorem shaped_chars {z : Str} {cs : List Nat} (h : z.cps.toList.all (fun c => decide (c < 1114112)) = true) (hs : ∀ c ∈ cs, c ∈ z.cps.toList) : SeqAt.shaped (.list (cs.map fun c => PyData.str ⟨#[c]⟩)) = true := by
  have a : PyData.canLayAll0 (cs.map fun c => PyData.str ⟨#[c]⟩) = true := by
    induction cs with
    | nil => rfl
    | cons c r ih =>
      show (PySem.PyData.strOk ⟨#[c]⟩ && PyData.canLayAll0 (r.map fun c => PyData.str ⟨#[c]⟩)) = true
      rw [ih fun x hx => hs x (List.mem_cons_of_mem _ hx), Bool.and_true]
      have := of_decide_eq_true (List.all_eq_true.mp h c (hs c List.mem_cons_self))
      show (#[c] : Array Nat).all (· < 0x110000) = true
      simp [this]
  have d : PyData.depthAll (cs.map fun c => PyData.str ⟨#[c]⟩) = 0 := by
    induction cs with
    | nil => rfl
    | cons c r ih =>
      show max 0 (PyData.depthAll (r.map fun c => PyData.str ⟨#[c]⟩)) = 0
      rw [ih (fun x hx => hs x (List.mem_cons_of_mem _ hx)) (by
        have a2 : (PySem.PyData.strOk ⟨#[c]⟩ && PyData.canLayAll0 (r.map fun c => PyData.str ⟨#[c]⟩)) = true := a
        exact (Bool.and_eq_true_iff.mp a2).2)]
      rfl
  unfold SeqAt.shaped
  have e1 : (PyData.list (cs.map fun c => PyData.str ⟨#[c]⟩)).canLay0 = true := a
  have e2 : (PyData.list (cs.map fun c => PyData.str ⟨#[c]⟩)).depth ≤ 64 := by
    show PyData.depthAll _ + 1 ≤ 64
    rw [d]
    decide
  rw [e1, decide_eq_true e2]
  rfl
theorem spl_mem (S : List Nat) : ∀ (l acc : List Nat) (k : Nat), ∀ p ∈ TL.spl S k acc l, ∀ c ∈ p, c ∈ acc ∨ c ∈ l
  | [], acc, k => by
    rw [TL.spl_nil]
    intro p hp c hc
    simp only [List.mem_singleton] at hp
    subst hp
    exact .inl (by simpa using hc)
  | d :: r, acc, 0 => by
    intro p hp c hc
    unfold TL.spl at hp
    split at hp
    · rcases List.mem_cons.mp hp with rfl | hp
      · exact .inl (by simpa using hc)
      · rcases spl_mem S r [] _ p hp c hc with h | h
        · cases h
        · exact .inr (List.mem_cons_of_mem _ h)
    · rcases spl_mem S r _ 0 p hp c hc with h | h
      · rcases List.mem_append.mp h with h | h
        · exact .inl h
        · rw [List.mem_singleton.mp h]
          exact .inr List.mem_cons_self
      · exact .inr (List.mem_cons_of_mem _ h)
  | d :: r, acc, k + 1 => by
    intro p hp c hc
    unfold TL.spl at hp
    rcases spl_mem S r acc k p hp c hc with h | h
    · exact .inl h
    · exact .inr (List.mem_cons_of_mem _ h)
theorem okT_split {n : Nat} {x : Str} (h : OkT n x) : ∀ p ∈ Txt.split x " ", OkT n p := fun p hp => by
  refine ⟨Nat.le_trans (split_lens sp_ne sp_k p hp) h.ln, ?_⟩
  have e := TL.split_spl x " " sp_ne (TL.kind_ok sp_k)
  have h2 : TL.tl p ∈ (Txt.split x " ").map TL.tl := List.mem_map_of_mem hp
  rw [e] at h2
  rw [List.all_eq_true]
  intro c hc
  rcases spl_mem _ _ _ _ _ h2 c hc with q | q
  · cases q
  · exact List.all_eq_true.mp h.sg c q
theorem inV_mem (z : Str) : ∀ l : List Str, inV (.str z) (l.map V.str) = decide (z ∈ l) := fun l => by
  have e : ∀ a b : Str, eqV (.str a) (.str b) = decide (b = a) := fun a b => by
    show (a == b) = _
    by_cases h : a = b
    · rw [h]; simp
    · rw [beq_eq_false_iff_ne.mpr h, decide_eq_false (fun q => h q.symm)]
  unfold inV
  induction l with
  | nil => simp
  | cons a r ih =>
    rw [List.map_cons, List.any_cons, ih, e]
    by_cases h : z = a
    · rw [decide_eq_true h, Bool.true_or, decide_eq_true (by rw [h]; exact List.mem_cons_self)]
    · rw [decide_eq_false h, Bool.false_or]
      by_cases h2 : z ∈ r
      · rw [decide_eq_true h2, decide_eq_true (List.mem_cons_of_mem _ h2)]
      · rw [decide_eq_false h2, decide_eq_false fun q => (List.mem_cons.mp q).elim h h2]
theorem prim_plain {z n : Str} {r : List Str} (h : Txt.split z " " = n :: r) (hk : withK n = false) : (primOf z).isSome = decide (z ∈ plain7) := by
  by_cases hz : z ∈ plain7
  · rw [primOf_plain hz, decide_eq_true hz]
    rfl
  · rw [decide_eq_false hz]
    have hj := split_back (z := z)
    unfold primOf
    rw [h] at hj ⊢
    match r, hj with
    | [], hj =>
      rw [← TL.join_eq] at hj
      have e : n = z := hj
      show (if n ∈ plain7 then some (n, (none : Option Int)) else none).isSome = false
      rw [if_neg (e ▸ hz)]
      rfl
    | [k], _ =>
      show (if withK n = true then (numOf k).map (fun v => (n, some v)) else none).isSome = false
      rw [hk]
      rfl
    | _ :: _ :: _, _ => rfl
/-! ### all stands but one object -/
def SameX (p : Addr) (H H' : Hp) : Prop := ∀ b u, b ≠ p → H b = some u → H' b = some u
theorem sx_of {p : Addr} {H H' : Hp} (s : Same H H') : SameX p H H' := fun b u _ e => s b u e
theorem SameX.trans {p : Addr} {H H1 H2 : Hp} (a : SameX p H H1) (b : SameX p H1 H2) : SameX p H H2 := fun c u n e => b c u n (a c u n e)
theorem sx_put {p : Addr} {H H' : Hp} {o : HO} (s : SameX p H H') : SameX p H (upd H' p o) := fun b u n e => by
  rw [upd_ne n]
  exact s b u n e
theorem sx_new {p q : Addr} {H H' : Hp} {o : HO} (s : SameX p H H') (hq : H' q = none) : SameX p H (upd H' q o) := fun b u n e => by
  have q1 := s b u n e
  rw [upd_ne (ne_of_none q1 hq)]
  exact q1
theorem feed_new {H : Hp} {p q : Addr} {a b : Int} {o : HO} (h : FeedAt H p a b) (hq : H q = none) : FeedAt (upd H q o) p a b := feed_same (same_new hq) h
def spPick2 (K : PySem.W.Frag) : Sp := fun vs H Q E => spPick K vs H Q E ∨ ∃ (p : Addr) (z : Str) (a b : Int), vs = [.ref p, .str z] ∧ FeedAt H p a b ∧ OkT 1000 z ∧ 0 < z.length ∧
  ∀ (s : Str) (a' b' : Int), OkT 1 s → FeedAt (upd H p (.lst [.int a', .int b'])) p a' b' → Q (.str s) (upd H p (.lst [.int a', .int b']))
def spChg : Sp := fun vs H Q _ => ∃ (p : Addr) (t : Str) (n : Nat) (a b : Int), vs = [.ref p, .str t] ∧ OkT n t ∧ n ≤ 10000 ∧ FeedAt H p a b ∧
  ∀ (t' : Str) (H' : Hp) (a' b' : Int), OkT (2 * n + 30) t' → SameX p H H' → FeedAt H' p a' b' → Q (.str t') H'
/-! ### text * int -/
theorem op_mulStr {X : Cx} : OpR X (binaryOp .Mult) (fun x y H Q => ∃ a n, x = .str a ∧ y = .int n ∧ MulOk a n ∧ Q (.str (Txt.mul a n)) H) := by
  intro pins s σ H x y v u Q I rx ry h
  obtain ⟨a, n, rfl, rfl, hm, q⟩ := h
  obtain ⟨t, rfl⟩ := rx
  obtain ⟨t', rfl⟩ := ry
  exact PySem.SB.mul hm fun t2 k => ⟨.str (Txt.mul a n), H, I.tok k, ⟨t2, rfl⟩, q⟩
theorem rep_fold (a : Array Nat) : ∀ (m : Nat) (acc : Array Nat), ((List.replicate m a).foldl (· ++ ·) acc).size = acc.size + m * a.size ∧ ∀ c ∈ ((List.replicate m a).foldl (· ++ ·) acc).toList, c ∈ acc.toList ∨ c ∈ a.toList
  | 0, acc => ⟨by simp, fun c hc => .inl hc⟩
  | m + 1, acc => by
    obtain ⟨h1, h2⟩ := rep_fold a m (acc ++ a)
    rw [List.replicate_succ, List.foldl_cons]
    refine ⟨?_, fun c hc => ?_⟩
    · rw [h1, Array.size_append, Nat.succ_mul]
      omega
    · rcases h2 c hc with h | h
      · rw [Array.toList_append] at h
        exact List.mem_append.mp h
      · exact .inr h
theorem okT_mul {n k m : Nat} {x : Str} (h : OkT n x) (hk : n * k ≤ m) (hn : n ≤ m) : OkT m (Txt.mul x (k : Int)) := by
  unfold Txt.mul
  split
  · exact ⟨Nat.zero_le _, rfl⟩
  · split
    · exact h.mono hn
    · obtain ⟨h1, h2⟩ := rep_fold x.cps k #[]
      refine ⟨?_, ?_⟩
      · show ((List.replicate ((k : Int)).toNat x.cps).foldl (· ++ ·) #[]).size ≤ m
        rw [Int.toNat_natCast, h1]
        have : x.cps.size ≤ n := h.ln
        have h3 : k * x.cps.size ≤ n * k := by rw [Nat.mul_comm n]; exact Nat.mul_le_mul_left k this
        simp only [Array.size_empty, Nat.zero_add]
        omega
      · rw [List.all_eq_true]
        intro c hc
        have hc' : c ∈ ((List.replicate ((k : Int)).toNat x.cps).foldl (· ++ ·) #[]).toList := hc
        rw [Int.toNat_natCast] at hc'
        rcases h2 c hc' with q | q
        · cases q
        · exact List.all_eq_true.mp h.sg c q
theorem mulOk1 : MulOk "0" 5000 := ⟨by decide, fun _ _ => by decide +kernel, fun _ _ => by decide +kernel⟩
theorem mulOk2 : MulOk "add" 999 := ⟨by decide, fun _ _ => by decide +kernel, fun _ _ => by decide +kernel⟩
/-! ### lists of texts -/
structure TsOk (ts : List V) (n : Nat) : Prop where
  len : ts.length = n
  all : ∀ v ∈ ts, ∃ z, v = V.str z ∧ OkT 6000 z
  nine : ∀ v ∈ ts.take 9, ∃ z, v = V.str z ∧ OkT 20 z
theorem TsOk.app {ts us : List V} {n m : Nat} (h : TsOk ts n) (h9 : 9 ≤ n) (hm : us.length = m) (hu : ∀ v ∈ us, ∃ z, v = V.str z ∧ OkT 6000 z) : TsOk (ts ++ us) (n + m) := by
  refine ⟨by rw [List.length_append, h.len, hm], fun v hv => ?_, fun v hv => ?_⟩
  · rcases List.mem_append.mp hv with q | q
    · exact h.all v q
    · exact hu v q
  · rw [List.take_append_of_le_length (by rw [h.len]; exact h9)] at hv
    exact h.nine v hv
theorem ts_first {ts us : List V} {m : Nat} (h : ∀ v ∈ ts ++ us, ∃ z, v = V.str z ∧ OkT 20 z) (hm : (ts ++ us).length = m) : TsOk (ts ++ us) m :=
  ⟨hm, fun v hv => by
    obtain ⟨z, e, o⟩ := h v hv
    exact ⟨z, e, o.mono (by decide)⟩, fun v hv => h v (List.mem_of_mem_take hv)⟩
theorem okL {n : Nat} {l : List Str} (h : ∀ x ∈ l, x.length ≤ n ∧ x.cps.toList.all (fun c => decide (c < 1114112)) = true) : ∀ v ∈ l.map V.str, ∃ z, v = V.str z ∧ OkT n z := fun v hv => by
  obtain ⟨x, hx, rfl⟩ := List.mem_map.mp hv
  exact ⟨x, rfl, (h x hx).1, (h x hx).2⟩
theorem cut9 {ts : List V} (h : 9 ≤ ts.length) : cutV ts none (some 9) = ts.take 9 := by
  unfold cutV
  have e1 : HT.sIx ts.length 0 none = 0 := rfl
  have e2 : HT.sIx ts.length ts.length (some ((9 : Nat) : Int)) = min 9 ts.length := HT.sIx_nat _ _ _
  have e3 : HT.sIx ts.length ts.length (some 9) = 9 := by
    have : HT.sIx ts.length ts.length (some 9) = min 9 ts.length := e2
    rw [this]
    omega
  rw [e1, e3]
  rfl
theorem same_sx {p : Addr} {H H1 H2 : Hp} (s : Same H H1) (x : SameX p H1 H2) (hp : H p = none) : Same H H2 := fun b u e => x b u (ne_of_none e hp) (s b u e)
end Ly

set_option maxRecDepth 100000
set_option maxHeartbeats 4000000
/-! a caught exception that a name keeps beyond the suite: the clause's rule tracks it (ExT); its field, isinstance; a classmethod's call that may raise -/
namespace Ly
open PySem PySem.Spec PyProof.Rows L2
def ExT (cls : Value) (d : Option Addr) (a : Addr) : HO := .ext fun h => ∃ (oe : Obj) (vs : Array Value), h.get? a = some oe ∧ Zc cls d oe ∧ oe.data = .fields vs
theorem exT_ok {P : Program} {w : World} {H : Hp} {h : Heap} {a : Addr} {cls : Value} {d : Option Addr} {oe : Obj} {vs : Array Value} (e : h.get? a = some oe) (z : Zc cls d oe) (hd : oe.data = .fields vs) : ObjOk P w H h a (ExT cls d a) :=
  ⟨⟨oe, vs, e, z, hd⟩, ⟨oe, e⟩, fun h1 h2 z k => by
    obtain ⟨o, v, q, r⟩ := z
    exact ⟨o, v, k _ q, r⟩⟩
theorem exT_at {P : Program} {w : World} {H : Hp} {h : Heap} {a : Addr} {cls : Value} {d : Option Addr} (hok : HOk P w H h) (he : H a = some (ExT cls d a)) : ∃ (oe : Obj) (vs : Array Value), h.get? a = some oe ∧ Zc cls d oe ∧ oe.data = .fields vs := by
  have x : ObjOk P w H h a (.ext fun h => ∃ (oe : Obj) (vs : Array Value), h.get? a = some oe ∧ Zc cls d oe ∧ oe.data = .fields vs) := hok a _ he
  exact x.1
section
variable {X : Cx} {pins : List (Addr × Obj)} {σ : L2.St} {H : Hp} {s sI : Shared}
/-- an object above all that stands is tracked -/
theorem track {a : Addr} {o : HO} (J : Inv X pins σ H s) (na : H a = none) (nL : a ≠ X.env.locals) (hpin : ∀ p ∈ X.pn ++ pins, p.1 ≠ a) (hcell : ∀ x c, X.env.cells.lookup x = some c → c ≠ a)
    (hold : ∀ b u, X.s_0.heap.get? b = some u → b ∉ X.ex → b ≠ a) (new : ObjOk X.prog X.w (upd H a o) s.heap a o) : Inv X pins σ (upd H a o) s := by
  refine ⟨J.ok, J.os, J.bare, ⟨J.base.keep, J.base.slot, fun b u e n hx => ?_, J.base.there, fun b xs e => ?_, fun b u v e => ?_, fun b ps e => ?_⟩, J.loc, J.cell, ?_, fun x c e => ?_, fun p hp => ?_, L2.HOk.laidN J.hok (fun b u q => q) na new, J.len⟩
  · rw [upd_ne (hold b u e hx)]
    exact J.base.free b u e n hx
  · have q := J.base.tups b xs e
    rw [upd_ne (ne_of_none q na)]
    exact q
  · have q := J.base.frzs b u v e
    rw [upd_ne (ne_of_none q na)]
    exact q
  · obtain ⟨more, q⟩ := J.base.tbls b ps e
    exact ⟨more, by rw [upd_ne (ne_of_none q na)]; exact q⟩
  · rw [upd_ne (Ne.symm nL)]
    exact J.free
  · rw [upd_ne (hcell x c e)]
    exact J.freeC x c e
  · obtain ⟨e, n, r⟩ := J.pin p hp
    exact ⟨e, by rw [upd_ne (hpin p hp)]; exact n, r⟩
theorem toSuite (I : Inv X pins σ H s) (a : Addr) : Inv (X.suite a (X.pn ++ pins)) [] σ H s :=
  ⟨I.ok.suite _ _, I.os, I.bare, I.base, I.loc, I.cell, I.free, I.freeC, fun p hp => I.pin p (by rw [List.append_nil] at hp; exact hp), I.hok, I.len⟩
theorem fromSuite {a : Addr} {pn' : List (Addr × Obj)} (I : Inv (X.suite a (X.pn ++ pins)) pn' σ H s) (ok : X.Ok) : Inv X pins σ H s :=
  ⟨ok, I.os, I.bare, I.base, I.loc, I.cell, I.free, I.freeC, fun p hp => I.pin p (List.mem_append_left _ hp), I.hok, I.len⟩
end
/-- what the clause 'except x as n' wishes of the body's exception: it is tracked in the suite and behind it -/
def wKp (K : PySem.W.Frag) (c : Value) (i : Nat) (ts : Addr → Value → Option Addr → TS) (Wout : WX) (D : Ends) : WX := fun cls d σ H =>
  ∃ b, PySem.W.exmOne K cls c = some b ∧ (b = true → ∀ a, H a = none → ts a cls d { nx := fun σ' H' => D.nx (σ'.set i none) H', rt := D.rt, bk := fun σ' H' => D.bk (σ'.set i none) H', ct := fun σ' H' => D.ct (σ'.set i none) H' } (σ.set i (some (.ref a))) (upd H a (ExT cls d a))) ∧
    (b = false → Wout cls d σ H)
section
variable {X : Cx} {x n : Str} {c : Value} {i : Nat} {body suite : List Stmt} {b₀ : Stmt} {np pos pos' : Pos} {tb : WX → TS} {ts : Addr → Value → Option Addr → TS} {Wout : WX}
theorem ps_try_keep (hs : X.stack = X.env :: X.outer) (hf : X.env.frame = some X.env.locals) (hN : X.N.Nodup) (hi : X.N[i]? = some n) (hln : X.env.kindOf n = some .local) (hc : Names X x c) (tk : Takes X Wout)
    (hb : ∀ (W : WX) (pn : List (Addr × Obj)) (xe : Value → Shared → Prop), Takes (X.tr pn xe) W → PassesOwn (model X.prog X.w) X.A X.env xe → PSs (X.tr pn xe) body (tb W))
    (hsu : ∀ (a : Addr) (cls : Value) (d : Option Addr) (pn : List (Addr × Obj)), PSs (X.suite a pn) (b₀ :: suite) (ts a cls d)) :
    PS X (.Try body [.ExceptHandler (some (.Name x np)) (some n) (b₀ :: suite) pos'] [] [] pos) (fun D σ H => tb (wKp X.K c i ts Wout D) D σ H) := by
  refine ⟨fun pins s σ H D I h => ?_⟩
  have ok := I.ok
  have hfr : X.A.frames = some (X.env :: X.outer) := by rw [ok.frames, hs]
  have hloc : Loc X.env.scope n := .inl hln
  refine wpAny_Try_except ?_
  refine wpAny_mono ((hb (wKp X.K c i ts Wout D) (X.pn ++ pins) (fun e s₁ => wpAny (model X.prog X.w) X.A (noteFrame e X.env) (fun _ s₂ => wpAny (model X.prog X.w) X.A (setFlight e none) (fun _ s₃ =>
    wpAny (model X.prog X.w) X.A (handleBy e X.env [.ExceptHandler (some (.Name x np)) (some n) (b₀ :: suite) pos']) (SP X pins D) X.xe s₃) X.xe s₂) X.xe s₁) (fun u s' xx => ?_) PassesOwn.looking).run [] s σ H D (I.toTry _) h) (fun f s1 hsp => ?_) (fun e s1 he => he)
  · obtain ⟨a, B, sI, pins', σ', H', cls, d, rfl, J', nb, up, sky, na, os, ag, b, hb1, hyes, hno⟩ := xx
    have J : Inv X pins σ' H' sI := J'.ofTry ok
    have sky' : Sky B (X.env :: X.outer) a (Zc cls d) X.env.locals s'.heap := by rw [← hs]; exact sky
    show wpAny (model X.prog X.w) X.A (noteFrame (.ref a) X.env) _ _ _
    refine Sky.land Zc.steady hfr hf sky' fun h3 fl3 up3 => ?_
    have J3 : Inv X pins σ' H' { s' with heap := h3 } := J.landed nb fl3.1 (up.trans up3) os ag
    obtain ⟨oe3, vs3, he3, hz3, hd3⟩ := fl3.there
    have nfr : a ∉ frs (X.env :: X.outer) := fun hm => by
      obtain ⟨_, o', e', hnf⟩ := fl3.2.2.1.mem hm
      rw [he3] at e'; cases e'
      exact hnf _ hd3
    have nL : a ≠ X.env.locals := fun z => nfr (List.mem_filterMap.mpr ⟨X.env, List.mem_cons_self, by rw [hf, z]⟩)
    have nF : a ∉ X.fs := fun hm => by
      obtain ⟨e, he, q⟩ := List.mem_filterMap.mp hm
      exact nfr (List.mem_filterMap.mpr ⟨e, List.mem_cons_of_mem _ he, q⟩)
    have old : ∀ b o, sI.heap.get? b = some o → b ≠ a := fun b o e z => by
      have q := nb b o e (by rw [z]; show a ∉ frs X.stack; rw [hs]; exact nfr)
      rw [z, fl3.2.1] at q
      cases q
    have S3 := J3.suite he3 hd3 na nL nF
    refine wpAny_handleBy_cons (codeAny_handlers_test ?_) (by intro q; cases q)
    have LT : PySem.W.Looks (model X.prog X.w) h3 (typeOf (.ref a)) cls := fun A Q E s k q => wpAny_typeOf_ref (k _ _ he3) (by rw [hz3.1]; exact q)
    have LM := PySem.W.exm_one (M := model X.prog X.w) (J3.kIn) LT hb1
    have test : ∀ {Q : Value → Shared → Prop} {E : Value → Shared → Prop}, Q c { s' with heap := h3 } → wpAny (model X.prog X.w) (X.A.mark (some (.ref a))) (eval (.Name x np) X.env) Q E { s' with heap := h3 } := fun {Q E} q => by
      obtain ⟨hg, hdbg, hm | ⟨hm, hv, hnn⟩⟩ := hc
      · exact ld_glob (X := X.suite a ((a, oe3) :: (X.pn ++ pins))) S3 hg hm q hdbg
      · exact ld_blt (X := X.suite a ((a, oe3) :: (X.pn ++ pins))) S3 hg hm hv q hnn hdbg
    refine test (LM.here ?_)
    cases b with
    | true =>
      refine codeAny_handlers_suite_as ?_
      refine HandSPX.lands_againZ fl3 fun h4 fl4 up4 => ?_
      have J4 : Inv X pins σ' H' { s' with heap := h4 } := J.landed nb fl4.1 ((up.trans up3).trans up4) os ag
      obtain ⟨oe4, vs4, he4, hz4, hd4⟩ := fl4.there
      have J5 : Inv X pins σ' (upd H' a (ExT cls d a)) { s' with heap := h4 } := track J4 na nL (fun p hp => old _ _ (J.pin p hp).1)
        (fun y c' e z => by
          obtain ⟨v, q⟩ := J.cell y c' e
          obtain ⟨o, q1, _⟩ := q
          exact old _ _ q1 z)
        (fun b u e hx => by
          obtain ⟨o', e'⟩ := J.base.there b u e hx
          exact old _ _ e') (exT_ok he4 hz4 hd4)
      refine store_ok (X := X.suite a (X.pn ++ pins)) (v := .ref a) (toSuite J5 a) hN hi hloc rfl (fun s5 S5 => ?_) (.inr hln)
      refine wpAny_mono ((hsu a cls d (X.pn ++ pins)).run [] s5 _ _ _ S5 (hyes rfl a na)) (fun f s6 hsp => ?_) (fun _ _ z => False.elim z)
      have end_ : ∀ {σ6 : L2.St} {H6 : Hp} {Q : Shared → Prop}, Inv (X.suite a (X.pn ++ pins)) [] σ6 H6 s6 → (∀ s7, Inv X pins (σ6.set i none) H6 s7 → Q s7) →
          wpAny (model X.prog X.w) X.A (do bindName X.env n .none; unbindBehindTheSuite X.env n pos') (fun _ s7 => Q s7) X.xe s6 := fun {σ6 H6 Q} S6 hq => gone_ok (fromSuite S6 ok) hN hi hln hq
      cases f with
      | next =>
        obtain ⟨σ6, H6, S6, q6⟩ := hsp
        exact end_ S6 fun s7 J7 => ⟨_, _, J7, q6⟩
      | brk =>
        obtain ⟨σ6, H6, S6, q6⟩ := hsp
        exact end_ S6 fun s7 J7 => ⟨_, _, J7, q6⟩
      | cont =>
        obtain ⟨σ6, H6, S6, q6⟩ := hsp
        exact end_ S6 fun s7 J7 => ⟨_, _, J7, q6⟩
      | ret u =>
        obtain ⟨v6, σ6, H6, S6, r6, q6⟩ := hsp
        exact end_ S6 fun s7 J7 => ⟨_, _, _, J7, r6, q6⟩
    | false =>
      show wpAny _ X.A (handleBy (.ref a) X.env []) _ _ _
      refine wpAny_handleBy_nil ?_
      obtain ⟨k1, k2, k3, oe, vs, T, oT, ts', he, hz, hd, h1, hr⟩ := id fl3
      unfold PySem.passOn
      refine wpAny_bind (wpAny_field he hd h1 ?_)
      rw [if_neg (show ¬ ((Value.ref T == Value.none) = true) from by simp)]
      have fin : wpAny (model X.prog X.w) X.A (setFlight (.ref a) X.env.frame) (fun _ s4 => wpAny (model X.prog X.w) X.A (throw (.ref a) : Sem Flow) (SP X pins D) X.xe s4) X.xe { s' with heap := h3 } := by
        rw [hf]
        refine HandSPX.setFlight_upZ fl3 fun h4 hh4 up4 => wpAny_throw (tk _ _ ?_)
        exact ⟨a, B, sI, pins, σ', H', cls, d, rfl, J, nb, (up.trans up3).trans up4, .inr (.inr (by rw [hs]; exact hh4)), na, os, ag, hno rfl⟩
      first
        | exact wpAny_bind (wpAny_pure (wpAny_bind fin))
        | exact wpAny_bind fin
  · cases f with
    | next =>
      obtain ⟨σ', H', J', q⟩ := hsp
      exact wpAny_execs_nil ⟨σ', H', J'.ofTry ok, q⟩
    | brk =>
      obtain ⟨σ', H', J', q⟩ := hsp
      exact ⟨σ', H', J'.ofTry ok, q⟩
    | cont =>
      obtain ⟨σ', H', J', q⟩ := hsp
      exact ⟨σ', H', J'.ofTry ok, q⟩
    | ret u =>
      obtain ⟨v, σ', H', J', r, q⟩ := hsp
      exact ⟨v, σ', H', J'.ofTry ok, r, q⟩
end
/-! ### its field, isinstance -/
section
variable {X : Cx}
/-- e.f, e a tracked exception of the class at C -/
def tXt (C : Addr) (f : Str) (te : TE) : TE := fun σ H Q => te σ H fun x H1 => ∃ (a dd : Addr) (fs : List (Str × V)) (v : V), x = .ref a ∧ H1 a = some (ExT (.ref C) (some dd) a) ∧ H1 dd = some (.xd fs) ∧ fs.lookup f = some v ∧ Q v H1
theorem inst_exT {H : Hp} {s : Shared} {a C dd : Addr} {fs : List (Str × V)} (hok : HOk X.prog X.w H s.heap) (he : H a = some (ExT (.ref C) (some dd) a)) (ed : H dd = some (.xd fs)) :
    ∃ (oe : Obj) (od : Obj) (mA : Str → Option Value), PySem.W.InstAt s.heap a oe C (some od) ∧ (∀ f, RelO (fs.lookup f) (mA f)) ∧ ∀ f, PySem.W.lookIn f od = some (mA f) := by
  obtain ⟨oe, vs, ha, hz, hd⟩ := exT_at hok he
  have hx : ObjOk X.prog X.w H s.heap dd (.xd fs) := hok dd _ ed
  obtain ⟨mA, hns, hr⟩ := hx
  obtain ⟨od, ho, hl⟩ := lookIn_ns hns
  exact ⟨oe, od, mA, ⟨ha, hz.1, by unfold PySem.W.notCls; rw [hd] <;> rfl, by rw [hz.2]; exact ho⟩, hr, hl⟩
theorem pe_xt {C : Addr} {e : Expr} {te : TE} {pos : Pos} {n : Str} (T : XfC X.K C) (hno : PySem.W.findIn X.K (.ref C) n = some none) (he : PE X e te) (hb : attributeBase e n X.env (eval e X.env) = eval e X.env := by rfl) :
    PE X (.Attribute e n pos) (tXt C n te) := by
  refine ⟨fun pins s σ H Q I h => ?_⟩
  refine attr_of hb (thn (he.run pins s σ H _ I h) fun u s1 hh => ?_)
  obtain ⟨x, H1, I1, rx, a, dd, fs, v, ex, ea, ed, l, q⟩ := hh
  subst ex
  obtain rfl : u = Value.ref a := rx
  obtain ⟨oe, od, mA, J, hr, hl⟩ := inst_exT I1.hok ea ed
  obtain ⟨u, hu, ru⟩ := RelO.some_of (v := v) (o := mA n) (by rw [← l]; exact hr n)
  exact HandSPX.exc_get I1.kIn J T.ga T.gg T.exC (PySem.W.findObj_own T.hdC hno rfl (by rw [hl, hu])) (handed_of ru) ⟨v, H1, I1.tok _, ru, q⟩
/-- what isinstance asks of the class -/
structure ExcK (K : PySem.W.Frag) (D : Addr) : Prop where
  cl : (PySem.W.clsIn K D).isSome = true
  hg : PySem.W.findIn K (.ref D) "__getattribute__" = some (some (.builtin "BaseException.__getattribute__"))
  hk : PySem.W.findIn K (.ref D) "__getattr__" = some none
  hs : PySem.W.subIn K (.ref D) (.type "BaseException") = some true
  ha : PySem.W.findIn K (.ref D) "__class__" = some (some (.builtin "object.__class__"))
  hn : PySem.W.specialIn K (.builtin "object.__class__") "__get__" = some (some (.builtin "getset_descriptor.__get__"))
  ht : PySem.W.takesIn K (.builtin "object.__class__") = some true
  hm : PySem.W.mroIn K D (.type "object") = some true
/-- isinstance(e, c), e a tracked exception -/
def rIsX (K : PySem.W.Frag) : List V → Hp → VK → Prop := fun xs H Q => ∃ (a D dd : Addr) (fs : List (Str × V)) (c : V) (cv : Value) (b : Bool), xs = [.ref a, c] ∧ H a = some (ExT (.ref D) (some dd) a) ∧ H dd = some (.xd fs) ∧ ExcK K D ∧ ClsV c cv ∧ PySem.W.kitOne K (.ref D) cv = some b ∧ Q (.bl b) H
theorem call_isX (K : PySem.W.Frag) (hK : X.K = K := by rfl) : CallR X (.builtin "isinstance") (rIsX K) := by
  subst hK
  intro pins s σ H xs us Q I r h
  obtain ⟨a, D, dd, fs, c, cv, b, rfl, ea, ed, C, hcv, e, q⟩ := h
  obtain ⟨u1, u2, rfl, r1, r2⟩ := vals2 r
  obtain rfl : u1 = Value.ref a := r1
  have ec := hcv.eq r2
  subst ec
  obtain ⟨oe, od, mA, J, _, _⟩ := inst_exT I.hok ea ed
  exact PySem.W.kia_one (PySem.W.kitx_exc C.cl C.hg C.hk C.hs C.ha C.hn C.ht C.hm) I.kIn J e (fun z => nomatch z) fun tk => ⟨.bl b, H, I.kept (t' := tk) fun _ _ z => z, rfl, q⟩
end
/-! ### a classmethod that may raise -/
section
variable {X : Cx} {CX : CXT} {k : Nat} {C p g : Addr} {mc : Value} {sp : Sp} {E : L2.St → XK} {o e : Expr} {es : List Expr} {m : Str} {pos apos : Pos} {ta : TE} {t : TA} {pl : Sem Bool} {pins : List (Addr × Obj)} {σ : L2.St} {H : Hp} {s : Shared}
theorem run_fnRS {f : Addr} {Q : VK} {us : List Value} {vs : List V} (F : FnR X.prog X.w X.K X.mg X.base CX k f sp) (hr : Room k X.A) (hx : PassesAt CX X σ (E σ)) (I : Inv X pins σ H s) (r : Vals vs us) (h : sp vs H Q (E σ)) :
    codeAny (model X.prog X.w) X.A (.call (.ref f) ⟨us, []⟩) (fun r s' => match r with | .ok (.ret v) => EP X pins σ Q v s' | .ok _ => False | .error e => X.xe e s') s := by
  refine codeAny_mono (F X.A X.stack s H us vs Q (E σ) hr I.env0 r h) fun r s' hq => ?_
  cases r with
  | error e => exact hx pins H s e s' I hq
  | ok fl =>
    cases fl with
    | ret u => exact I.after hq
    | next => exact False.elim hq
    | brk => exact False.elim hq
    | cont => exact False.elim hq
def tCMethS (C : Addr) (sp : Sp) (E : L2.St → XK) (ta : TE) (t : TA) : TE := fun σ H Q => ta σ H fun x H1 => x = .ref C ∧ t σ H1 fun vs H2 => sp (.ref C :: vs) H2 Q (E σ)
theorem pe_cmethS (he : PE X o ta) (r : ClX.CRead X.K C mc) (c : ClX.CMet X.K C mc m p g) (F : FnR X.prog X.w X.K X.mg X.base CX k g sp) (hr : Room k X.A) (hx : ∀ σ, PassesAt CX X σ (E σ)) (ha : PA X (e :: es) t)
    (hst : starEach (e :: es) X.env = (false, eval e X.env) :: starEach es X.env := by rfl) (hpl : (backTo pos (starEach es X.env)).any (·.1) = false := by rfl)
    (ht : eval (.Call (.Attribute o m apos) (e :: es) [] pos) X.env = (do
      let ov ← eval o X.env
      standAt apos.atName
      let (f, first) ← holding [ov] (getMethod ov m pl)
      callWith pos f first (backTo pos (starEach (e :: es) X.env)) (backToKw pos (keywordEach [] X.env))) := by rfl) :
    PE X (.Call (.Attribute o m apos) (e :: es) [] pos) (tCMethS C sp E ta t) := by
  refine ⟨fun pins s σ H Q I h => ?_⟩
  refine PySem.W.methodCall_KW (pl := pl) (thn (he.run pins s σ H _ I h) fun u s1 ⟨x, H1, I1, rx, ex, q⟩ => ?_) ht
  subst ex
  obtain rfl : u = Value.ref C := rx
  refine ClX.getmethcm_ok I1 r c fun s2 I2 => ?_
  refine ClX.callwith_cm I2 (ClX.base_none I1 (Nat.le_refl _)) c.fi (thn (ha.run pos _ s2 σ H1 _ I2 q) fun us s3 ⟨vs, H2, I3, rv, q2⟩ => ⟨⟨ClX.pin_at I3, I3.kIn⟩, ?_⟩) hst hpl
  have z : wpAny (model X.prog X.w) X.A (call (.ref s1.heap.objs.size) us) (EP X ((s1.heap.objs.size, PySem.W.methodObj (.ref g) (.ref C)) :: pins) σ Q) X.xe s3 :=
    wpAny_call (PySem.W.method_call (ClX.pin_at I3) (run_fnRS (us := .ref C :: us) (vs := .ref C :: vs) F hr (hx σ) I3 (.cons rfl rv) q2))
  exact thn z fun _ _ y => ClX.unpinE y
end
theorem kit_ve {K : PySem.W.Frag} {C : Addr} (h : PySem.W.subIn K (.ref C) (.type "ValueError") = some true) : PySem.W.kitOne K (.ref C) (.type "ValueError") = some true := by
  unfold PySem.W.kitOne
  split
  · rfl
  · unfold PySem.W.kitCls
    dsimp only
    rw [if_pos (show PySem.W.kitMeta "ValueError" = true by decide +kernel)]
    exact h
/-- the __init__ of an own exception class: its one field -/
def spXI (C : Addr) (f : Str) : Sp := fun vs H Q _ => ∃ (a : Addr) (v : V), vs = [.ref a, v] ∧ H a = some (exo a C none) ∧ ∀ dx, H dx = none → dx ≠ a → Q .non (upd (upd H dx (exd dx [(f, v)])) a (exo a C (some dx)))
/-- the heap behind a made exception -/
theorem same_exc {H : Hp} {a dx : Addr} {u1 u2 u3 u4 : HO} (na : H a = none) (nd : H dx = none) : Same H (upd (del (upd (upd (upd H a u1) dx u2) a u3) a) dx u4) := fun b u e => by
  have n1 : b ≠ a := ne_of_none e na
  have n2 : b ≠ dx := ne_of_none e nd
  rw [upd_ne n2, del_ne n1, upd_ne n1, upd_ne n2, upd_ne n1]
  exact e
end Ly

set_option maxRecDepth 100000
set_option maxHeartbeats 4000000
/-! names, blocks, diagrams: what they are -/
namespace Ly
open PySem PySem.Spec PyProof.Rows L2
def isLet (c : Nat) : Bool := decide (97 ≤ c) && decide (c ≤ 122)
theorem let_in (c : Nat) : decide (c ∈ (("abcdefghijklmnopqrstuvwxyz" : Str)).cps.toList) = isLet c := by
  have e : (("abcdefghijklmnopqrstuvwxyz" : Str)).cps.toList = [97, 98, 99, 100, 101, 102, 103, 104, 105, 106, 107, 108, 109, 110, 111, 112, 113, 114, 115, 116, 117, 118, 119, 120, 121, 122] := by decide +kernel
  rw [e]
  unfold isLet
  by_cases h : 97 ≤ c ∧ c ≤ 122
  · obtain ⟨h1, h2⟩ := h
    rw [decide_eq_true h1, decide_eq_true h2]
    refine decide_eq_true ?_
    simp only [List.mem_cons, List.not_mem_nil, or_false]
    omega
  · have n : ¬ (c ∈ [97, 98, 99, 100, 101, 102, 103, 104, 105, 106, 107, 108, 109, 110, 111, 112, 113, 114, 115, 116, 117, 118, 119, 120, 121, 122]) := by
      simp only [List.mem_cons, List.not_mem_nil, or_false]
      omega
    rw [decide_eq_false n]
    by_cases h1 : 97 ≤ c
    · rw [decide_eq_true h1, decide_eq_false (fun h2 => h ⟨h1, h2⟩)]
      rfl
    · rw [decide_eq_false h1]
      rfl
def reserved : List Str := ["block", "part", "end", "self"]
def nameOk (z : Str) : Bool := decide (1 ≤ z.length) && decide (z.length ≤ 8) && !decide (z ∈ reserved) && z.cps.toList.all isLet
def spName : Sp := fun vs H Q _ => ∃ z : Str, vs = [.str z] ∧ z.length ≤ 1000000 ∧ ∀ H', Same H H' → Q (.bl (nameOk z)) H'
def blockOk (z : Str) : Bool := (primOf z).isSome || (nameOk z && !decide (z ∈ portNames))
def spBlockText : Sp := fun vs H Q _ => ∃ z : Str, vs = [.str z] ∧ z.length ≤ 1000000 ∧ ∀ H', Same H H' → Q (.bl (blockOk z)) H'
theorem kit_str {K : PySem.W.Frag} : PySem.W.kitOne K (.type "str") (.type "str") = some true := by
  unfold PySem.W.kitOne
  rw [if_pos (by simp)]
/-! ### data, read back -/
theorem dp_tup_inv {K : PySem.W.Frag} {H : Hp} {v : V} {ds : List PyData} (h : Dp K H v (.tuple ds)) : ∃ a xs, v = .ref a ∧ SqT K H a xs ∧ DpAll K H xs ds := by
  cases h with
  | tup h hs => exact ⟨_, _, rfl, h, hs⟩
theorem dp_str_inv {K : PySem.W.Frag} {H : Hp} {v : V} {z : Str} (h : Dp K H v (.str z)) : v = .str z := by
  cases h
  rfl
theorem dps_len {K : PySem.W.Frag} {H : Hp} : ∀ {vs : List V} {ds : List PyData}, DpAll K H vs ds → vs.length = ds.length
  | _, _, .nil => rfl
  | _, _, .cons _ hs => by rw [List.length_cons, List.length_cons, dps_len hs]
theorem dps_get {K : PySem.W.Frag} {H : Hp} : ∀ {vs : List V} {ds : List PyData} {i : Nat} {v : V}, DpAll K H vs ds → vs[i]? = some v → ∃ d, ds[i]? = some d ∧ Dp K H v d
  | _, _, _, _, .nil, h => by simp at h
  | _, _, 0, _, .cons h hs, e => by
    rw [List.getElem?_cons_zero] at e
    cases e
    exact ⟨_, rfl, h⟩
  | _, _, i + 1, _, .cons h hs, e => by
    rw [List.getElem?_cons_succ] at e
    obtain ⟨d, e1, e2⟩ := dps_get hs e
    exact ⟨d, by rw [List.getElem?_cons_succ]; exact e1, e2⟩
theorem dps_map {K : PySem.W.Frag} {H : Hp} {α : Type} {f : α → PyData} {vs : List V} {l : List α} {i : Nat} {v : V} (h : DpAll K H vs (l.map f)) (e : vs[i]? = some v) : ∃ y, l[i]? = some y ∧ Dp K H v (f y) := by
  obtain ⟨d, e1, e2⟩ := dps_get h e
  rw [List.getElem?_map] at e1
  cases q : l[i]? with
  | none => rw [q] at e1; cases e1
  | some y =>
    rw [q] at e1
    cases e1
    exact ⟨y, rfl, e2⟩
theorem dps_strs_inv {K : PySem.W.Frag} {H : Hp} : ∀ {vs : List V} {l : List Str}, DpAll K H vs (l.map PyData.str) → vs = l.map V.str
  | _, [], .nil => rfl
  | _, _ :: _, .cons h hs => by
    rw [dp_str_inv h, dps_strs_inv hs]
    rfl
theorem dp_strs_inv {K : PySem.W.Frag} {H : Hp} {v : V} {l : List Str} (h : Dp K H v (dTx l)) : ∃ a, v = .ref a ∧ SqT K H a (l.map V.str) := by
  obtain ⟨a, xs, e, hs, hd⟩ := dp_tup_inv h
  rw [dps_strs_inv hd] at hs
  exact ⟨a, e, hs⟩
def dPair (p : Str × Str) : PyData := dTx [p.1, p.2]
theorem dp_pair_inv {K : PySem.W.Frag} {H : Hp} {v : V} {p : Str × Str} (h : Dp K H v (dPair p)) : ∃ a, v = .ref a ∧ SqT K H a [.str p.1, .str p.2] := dp_strs_inv h
def dWire (p : (Str × Str) × (Str × Str)) : PyData := .tuple [dPair p.1, dPair p.2]
theorem dp_wire_inv {K : PySem.W.Frag} {H : Hp} {v : V} {p : (Str × Str) × (Str × Str)} (h : Dp K H v (dWire p)) : ∃ a t s, v = .ref a ∧ SqT K H a [.ref t, .ref s] ∧ SqT K H t [.str p.1.1, .str p.1.2] ∧ SqT K H s [.str p.2.1, .str p.2.2] := by
  obtain ⟨a, xs, e, hs, hd⟩ := dp_tup_inv h
  cases hd with
  | cons h1 hd =>
    cases hd with
    | cons h2 hd =>
      cases hd
      obtain ⟨t, rfl, ht⟩ := dp_pair_inv h1
      obtain ⟨u, rfl, hu⟩ := dp_pair_inv h2
      exact ⟨a, t, u, e, hs, ht, hu⟩
/-! ### the text form -/
def portText (p : Str × Str) : Str := if p.1 = "" then p.2 else p.1 ++ "." ++ p.2
def headText (n : Str) (ins outs : List Str) : Str := "block " ++ n ++ "(" ++ Txt.join " " ins ++ ";" ++ Txt.join "" (outs.map fun o => " " ++ o) ++ ")"
def partText (p : Str × Str) : Str := "  part " ++ p.1 ++ " = " ++ p.2
def wireText (p : (Str × Str) × (Str × Str)) : Str := "  " ++ portText p.1 ++ " <- " ++ portText p.2
def textRows (n : Str) (ins outs : List Str) (parts : List (Str × Str)) (wires : List ((Str × Str) × (Str × Str))) : List Str := [headText n ins outs] ++ parts.map partText ++ wires.map wireText ++ [("end" : Str)]
def textOfD (n : Str) (ins outs : List Str) (parts : List (Str × Str)) (wires : List ((Str × Str) × (Str × Str))) : Str := Txt.join "\n" (textRows n ins outs parts wires)
def spPortText (K : PySem.W.Frag) : Sp := fun vs H Q _ => ∃ (a : Addr) (p : Str × Str), vs = [.ref a] ∧ SqT K H a [.str p.1, .str p.2] ∧ p.1.length ≤ 10000 ∧ p.2.length ≤ 10000 ∧ Q (.str (portText p)) H
theorem portText_len {p : Str × Str} {n : Nat} (h1 : p.1.length ≤ n) (h2 : p.2.length ≤ n) : (portText p).length ≤ 2 * n + 1 := by
  unfold portText
  split
  · omega
  · rw [PySem.Str.length_append, PySem.Str.length_append]
    have : (("." : Str)).length = 1 := by decide +kernel
    omega
theorem pg_tupK {X : Cx} (K : PySem.W.Frag) {es : List Expr} {k : Nat} {t : TGs} {n : Nat} {pos : Pos} (hc : X.calm = true) (h : PGs X es t) (hK : X.K = K := by rfl) (hn : (assignEach es X.env).length = n := by rfl) (hst : (assignEach es X.env).findIdx? (·.1) = none := by rfl) :
    PG X (.Tuple es k pos) (gTup K n t) := hK ▸ pg_tup hc h hn hst
theorem ip_ext {X : Cx} : PIp X .Add rExt2 := fun pins s σ H x y v u Q I rx ry h => iop_ext pins s σ H x y v u Q I rx ry h
theorem sum_len {ys : List Str} {n : Nat} (h : ∀ y ∈ ys, y.length ≤ n) : (ys.map (·.length)).sum ≤ n * ys.length := by
  induction ys with
  | nil => simp
  | cons y r ih =>
    have h1 := h y List.mem_cons_self
    have h2 := ih fun z hz => h z (List.mem_cons_of_mem _ hz)
    rw [List.map_cons, List.sum_cons, List.length_cons, Nat.mul_succ]
    omega
theorem join_len {a : Str} {ys : List Str} {n : Nat} (h : ∀ y ∈ ys, y.length ≤ n) : (Txt.join a ys).length ≤ n * ys.length + ys.length * a.length := by
  rw [TL.join_eq]
  have h1 := PySem.StrLaws.join_length_le a ys
  have h2 := sum_len h
  omega
/-- the words of a diagram are short -/
structure DShort (n : Str) (ins outs : List Str) (parts : List (Str × Str)) (wires : List ((Str × Str) × (Str × Str))) : Prop where
  n : n.length ≤ 100
  i : ins.length ≤ 100 ∧ ∀ x ∈ ins, x.length ≤ 100
  o : outs.length ≤ 100 ∧ ∀ x ∈ outs, x.length ≤ 100
  p : parts.length ≤ 1000 ∧ ∀ x ∈ parts, x.1.length ≤ 100 ∧ x.2.length ≤ 100
  w : wires.length ≤ 15000 ∧ ∀ x ∈ wires, (x.1.1.length ≤ 100 ∧ x.1.2.length ≤ 100) ∧ x.2.1.length ≤ 100 ∧ x.2.2.length ≤ 100
def spTextOf (K : PySem.W.Frag) : Sp := fun vs H Q _ => ∃ (n : Str) (i o p w : Addr) (ins outs : List Str) (parts : List (Str × Str)) (wires : List ((Str × Str) × (Str × Str))), vs = [.str n, .ref i, .ref o, .ref p, .ref w] ∧ DShort n ins outs parts wires ∧
  SqT K H i (ins.map V.str) ∧ SqT K H o (outs.map V.str) ∧ Dp K H (.ref p) (.tuple (parts.map dPair)) ∧ Dp K H (.ref w) (.tuple (wires.map dWire)) ∧ ∀ H', Same H H' → Q (.str (textOfD n ins outs parts wires)) H'
end Ly

set_option maxRecDepth 100000
set_option maxHeartbeats 4000000
/-! sorted(list of tuples) whose first items are numbers and texts; items of equal first items are the same -/
namespace Ly
open PySem PySem.Spec PyProof.Rows L2
inductive At where
  | i (n : Int)
  | s (x : Str)
deriving DecidableEq
def atV : At → V
  | .i n => .int n
  | .s x => .str x
def atLt : At → At → Bool
  | .i a, .i b => decide (a < b)
  | .i _, .s _ => true
  | .s _, .i _ => false
  | .s x, .s y => decide (x.cps.toList < y.cps.toList)
theorem str_ext {x y : Str} (h : x.cps.toList = y.cps.toList) : x = y := by
  cases x with
  | mk a =>
    cases y with
    | mk b =>
      have : a = b := by
        have q := congrArg List.toArray h
        simpa using q
      rw [this]
theorem nl_tri : ∀ a b : List Nat, a = b ∨ a < b ∨ b < a
  | [], [] => .inl rfl
  | [], b :: bs => .inr (.inl (by simp))
  | a :: as, [] => .inr (.inr (by simp))
  | a :: as, b :: bs => by
    rcases Nat.lt_trichotomy a b with h | h | h
    · exact .inr (.inl (List.cons_lt_cons_iff.mpr (.inl h)))
    · subst h
      rcases nl_tri as bs with e | e | e
      · exact .inl (by rw [e])
      · exact .inr (.inl (List.cons_lt_cons_iff.mpr (.inr ⟨rfl, e⟩)))
      · exact .inr (.inr (List.cons_lt_cons_iff.mpr (.inr ⟨rfl, e⟩)))
    · exact .inr (.inr (List.cons_lt_cons_iff.mpr (.inl h)))
theorem nl_irr : ∀ a : List Nat, ¬ a < a
  | [], h => by simp at h
  | a :: as, h => by
    rcases List.cons_lt_cons_iff.mp h with e | ⟨_, e⟩
    · exact Nat.lt_irrefl _ e
    · exact nl_irr as e
theorem nl_trans : ∀ {a b c : List Nat}, a < b → b < c → a < c
  | _, _, [], _, h => by simp at h
  | _, [], _ :: _, h, _ => by simp at h
  | [], _ :: _, _ :: _, _, _ => by simp
  | a :: as, b :: bs, c :: cs, h1, h2 => by
    rcases List.cons_lt_cons_iff.mp h1 with e1 | ⟨e1, f1⟩ <;> rcases List.cons_lt_cons_iff.mp h2 with e2 | ⟨e2, f2⟩
    · exact List.cons_lt_cons_iff.mpr (.inl (Nat.lt_trans e1 e2))
    · exact List.cons_lt_cons_iff.mpr (.inl (e2 ▸ e1))
    · exact List.cons_lt_cons_iff.mpr (.inl (e1 ▸ e2))
    · exact List.cons_lt_cons_iff.mpr (.inr ⟨e1.trans e2, nl_trans f1 f2⟩)
theorem at_tri : ∀ a b : At, a = b ∨ atLt a b = true ∨ atLt b a = true
  | .i a, .i b => by
    rcases Int.lt_trichotomy a b with h | h | h
    · exact .inr (.inl (decide_eq_true h))
    · exact .inl (by rw [h])
    · exact .inr (.inr (decide_eq_true h))
  | .i _, .s _ => .inr (.inl rfl)
  | .s _, .i _ => .inr (.inr rfl)
  | .s x, .s y => by
    rcases nl_tri x.cps.toList y.cps.toList with h | h | h
    · exact .inl (by rw [str_ext h])
    · exact .inr (.inl (decide_eq_true h))
    · exact .inr (.inr (decide_eq_true h))
theorem at_irr : ∀ a : At, atLt a a = false
  | .i a => decide_eq_false (Int.lt_irrefl a)
  | .s x => decide_eq_false (nl_irr _)
theorem at_trans : ∀ {a b c : At}, atLt a b = true → atLt b c = true → atLt a c = true
  | .i a, .i b, .i c, h1, h2 => decide_eq_true (Int.lt_trans (of_decide_eq_true h1) (of_decide_eq_true h2))
  | .i _, .i _, .s _, _, _ => rfl
  | .i _, .s _, .s _, _, _ => rfl
  | .i _, .s _, .i _, _, h => by cases h
  | .s _, .i _, _, h, _ => by cases h
  | .s _, .s _, .i _, _, h => by cases h
  | .s x, .s y, .s z, h1, h2 => decide_eq_true (nl_trans (of_decide_eq_true h1) (of_decide_eq_true h2))
def lexA : List At → List At → Bool
  | [], [] => false
  | [], _ :: _ => true
  | _ :: _, [] => false
  | a :: as, b :: bs => if a = b then lexA as bs else atLt a b
theorem lex_tri : ∀ a b : List At, a = b ∨ lexA a b = true ∨ lexA b a = true
  | [], [] => .inl rfl
  | [], _ :: _ => .inr (.inl rfl)
  | _ :: _, [] => .inr (.inr rfl)
  | a :: as, b :: bs => by
    by_cases e : a = b
    · subst e
      rcases lex_tri as bs with h | h | h
      · exact .inl (by rw [h])
      · exact .inr (.inl (by unfold lexA; rw [if_pos rfl]; exact h))
      · exact .inr (.inr (by unfold lexA; rw [if_pos rfl]; exact h))
    · rcases at_tri a b with h | h | h
      · exact absurd h e
      · exact .inr (.inl (by unfold lexA; rw [if_neg e]; exact h))
      · exact .inr (.inr (by unfold lexA; rw [if_neg (Ne.symm e)]; exact h))
theorem lex_irr : ∀ a : List At, lexA a a = false
  | [] => rfl
  | a :: as => by unfold lexA; rw [if_pos rfl]; exact lex_irr as
theorem lex_trans : ∀ {a b c : List At}, lexA a b = true → lexA b c = true → lexA a c = true
  | [], [], _, h, _ => by cases h
  | [], _ :: _, [], _, h => by cases h
  | [], _ :: _, _ :: _, _, _ => rfl
  | _ :: _, [], _, h, _ => by cases h
  | _ :: _, _ :: _, [], _, h => by cases h
  | a :: as, b :: bs, c :: cs, h1, h2 => by
    unfold lexA at h1 h2 ⊢
    by_cases e1 : a = b
    · subst e1
      rw [if_pos rfl] at h1
      by_cases e2 : a = c
      · rw [if_pos e2] at h2 ⊢
        exact lex_trans h1 h2
      · rw [if_neg e2] at h2 ⊢
        exact h2
    · rw [if_neg e1] at h1
      by_cases e2 : b = c
      · subst e2
        rw [if_neg e1]
        exact h1
      · rw [if_neg e2] at h2
        have h3 := at_trans h1 h2
        by_cases e3 : a = c
        · subst e3
          rw [at_irr] at h3
          cases h3
        · rw [if_neg e3]
          exact h3
theorem swo_lexA {α : Type} (k : α → List At) : SrtO.Swo fun v u => lexA (k v) (k u) := by
  have asy : ∀ a b : List At, lexA a b = true → lexA b a = false := fun a b h => by
    cases e : lexA b a with
    | false => rfl
    | true =>
      have := lex_trans h e
      rw [lex_irr] at this
      cases this
  refine ⟨fun x y h => asy _ _ h, fun x y z h1 h2 => ?_⟩
  rcases lex_tri (k x) (k y) with e | e | e
  · rw [e]; exact h2
  · rcases lex_tri (k y) (k z) with f | f | f
    · rw [← f]; exact h1
    · exact asy _ _ (lex_trans e f)
    · rw [f] at h2; cases h2
  · rw [e] at h1; cases h1
/-! ### items -/
def AtR (a : At) (u : Value) : Prop := RelV (atV a) u
/-- v is a tuple of the atoms as and of further items -/
def IsT (h : Heap) (v : Value) (as : List At) : Prop := ∃ (a : Addr) (o : Obj) (us tl : List Value) (n : Nat), v = .ref a ∧ h.get? a = some o ∧ o.cls = .type "tuple" ∧ o.data = .seq (us ++ tl).toArray n ∧ Paired AtR as us
theorem IsT.keeps {h h' : Heap} {v : Value} {as : List At} (p : IsT h v as) (k : ∀ b o, h.get? b = some o → o.cls = .type "tuple" → h'.get? b = some o) : IsT h' v as := by
  obtain ⟨a, o, us, tl, n, e, ho, hc, hd⟩ := p
  exact ⟨a, o, us, tl, n, e, k _ _ ho hc, hc, hd⟩
/-- of the same kind, place by place -/
def sameK : List At → List At → Bool
  | [], [] => true
  | .i _ :: as, .i _ :: bs => sameK as bs
  | .s _ :: as, .s _ :: bs => sameK as bs
  | _, _ => false
section
variable {prog : Program} {w : World} {A : Around} {s : Shared}
theorem at_eq {a b : At} {u v : Value} (ru : AtR a u) (rv : AtR b v) (hk : sameK [a] [b] = true) : SeqAt.EqAt A s u v (decide (a = b)) := by
  match a, b, hk with
  | .i x, .i y, _ =>
    obtain ⟨t, rfl⟩ := ru
    obtain ⟨t', rfl⟩ := rv
    have e := SeqAt.EqAt.int_int (A := A) (s := s) x t y t'
    have : decide (At.i x = At.i y) = (x == y) := by
      by_cases h : x = y
      · rw [h]; simp
      · rw [beq_eq_false_iff_ne.mpr h, decide_eq_false fun z => h (At.i.inj z)]
    rw [this]
    exact e
  | .s x, .s y, _ =>
    obtain ⟨t, rfl⟩ := ru
    obtain ⟨t', rfl⟩ := rv
    have e := SeqAt.EqAt.str_str (A := A) (s := s) x t y t'
    have : decide (At.s x = At.s y) = (x == y) := by
      by_cases h : x = y
      · rw [h]; simp
      · rw [beq_eq_false_iff_ne.mpr h, decide_eq_false fun z => h (At.s.inj z)]
    rw [this]
    exact e
theorem at_less {a b : At} {u v : Value} {f : Bool} {Q : Bool → Shared → Prop} {E : Value → Shared → Prop} (ru : AtR a u) (rv : AtR b v) (hk : sameK [a] [b] = true) (h : Q (atLt a b) s) : wpAny (model prog w) A (oneLt' f u v) Q E s := by
  match a, b, hk with
  | .i x, .i y, _ =>
    obtain ⟨t, rfl⟩ := ru
    obtain ⟨t', rfl⟩ := rv
    exact oneLt_any_int h
  | .s x, .s y, _ =>
    obtain ⟨t, rfl⟩ := ru
    obtain ⟨t', rfl⟩ := rv
    exact oneLt_any_str h
theorem kat_atoms {b fin : Bool} {Q : Bool → Shared → Prop} {tl tl' : List Value} : ∀ {as bs : List At} {us vs : List Value} {i : Nat}, Paired AtR as us → Paired AtR bs vs → sameK as bs = true → as ≠ bs → Q (lexA as bs) s →
    PySem.W.KatLex prog w A b fin Q ((us ++ tl).zip (vs ++ tl')) i s
  | [], [], _, _, _, _, _, _, ne, _ => absurd rfl ne
  | [], _ :: _, _, _, _, _, _, hk, _, _ => by cases hk
  | .i _ :: _, [], _, _, _, _, _, hk, _, _ => by cases hk
  | .s _ :: _, [], _, _, _, _, _, hk, _, _ => by cases hk
  | x :: as, y :: bs, _, _, i, .cons ru pu, .cons rv pv, hk, ne, h => by
    have hk1 : sameK [x] [y] = true ∧ sameK as bs = true := by
      match x, y, hk with
      | .i _, .i _, hk => exact ⟨rfl, hk⟩
      | .s _, .s _, hk => exact ⟨rfl, hk⟩
    rw [List.cons_append, List.cons_append, List.zip_cons_cons]
    refine PySem.W.kat_cons (at_eq ru rv hk1.1 prog w _ _ ?_)
    refine PySem.W.kat_go (fun e => ?_) (fun e => ?_)
    · have e' : x = y := of_decide_eq_true e
      subst e'
      refine PySem.W.kat_yes (kat_atoms pu pv hk1.2 (fun z => ne (by rw [z])) ?_)
      unfold lexA at h
      rw [if_pos rfl] at h
      exact h
    · have e' : ¬ x = y := of_decide_eq_false e
      refine PySem.W.kat_no (at_less ru rv hk1.1 ?_)
      unfold lexA at h
      rw [if_neg e'] at h
      exact h
theorem kat_same {b fin : Bool} {Q : Bool → Shared → Prop} : ∀ {us : List Value} {i : Nat}, Q fin s → PySem.W.KatLex prog w A b fin Q (us.zip us) i s
  | [], _, h => PySem.W.kat_nil h
  | u :: us, i, h => by
    rw [List.zip_cons_cons]
    refine PySem.W.kat_cons (SeqAt.EqAt.same u prog w _ _ ?_)
    exact PySem.W.kat_yes (kat_same h)
theorem atoms_cmp {vs : List Value} {k : Value → List At} {c : Bool} (hp : ∀ v ∈ vs, IsT s.heap v (k v)) (hk : ∀ v ∈ vs, ∀ u ∈ vs, sameK (k v) (k u) = true) (hu : ∀ v ∈ vs, ∀ u ∈ vs, k v = k u → v = u) :
    SrtO.Cmp prog w A s (tuples' c) (fun p => p.1 ∈ vs) (SrtO.lt2 fun v u => lexA (k v) (k u)) := by
  intro p q hm hm'
  show wpAny (model prog w) A (keyLt' (tuples' c) p.1 q.1) (fun r s' => s' = s ∧ r = lexA (k p.1) (k q.1)) (fun _ _ => False) s
  obtain ⟨a, o, us, tl, n, e, ho, hc, hd, pu⟩ := hp _ hm
  obtain ⟨a', o', us', tl', n', e', ho', hc', hd', pu'⟩ := hp _ hm'
  have kk := hk _ hm _ hm'
  by_cases eq : k p.1 = k q.1
  · have ev := hu _ hm _ hm' eq
    rw [← ev] at e' ⊢
    rw [e] at e' ⊢
    cases e'
    refine PySem.W.kat_lt ho hd ho hd ?_
    refine kat_same ⟨rfl, ?_⟩
    rw [lex_irr]
    exact decide_eq_false (Nat.lt_irrefl _)
  · rw [e, e']
    refine PySem.W.kat_lt ho hd ho' hd' ?_
    exact kat_atoms pu pu' kk eq ⟨rfl, by rw [← e, ← e']⟩
/-- the type of an atom -/
def atT : At → String
  | .i _ => "int"
  | .s _ => "str"
theorem atoms_first {h : Heap} {k : Value → List At} : ∀ vs : List Value, (∀ v ∈ vs, IsT h v (k v) ∧ k v ≠ []) → ∃ fs : List Value, PySem.W.KatTups h vs fs ∧ fs.length = vs.length ∧ ∀ f ∈ fs, ∃ v ∈ vs, ∃ x r, k v = x :: r ∧ AtR x f
  | [], _ => ⟨[], PySem.W.KatTups.nil, rfl, fun f hf => by simp at hf⟩
  | v :: vs, x => by
    obtain ⟨fs, kt, hl, hi⟩ := atoms_first vs fun u hu => x u (List.mem_cons_of_mem _ hu)
    obtain ⟨⟨a, o, us, tl, n, rfl, ho, hc, hd, pu⟩, hne⟩ := x v List.mem_cons_self
    match hk : k (Value.ref a), hne, pu with
    | y :: r, _, .cons (b := f) ry pr =>
      refine ⟨f :: fs, PySem.W.KatTups.cons ho hc hd (by simp) kt, by rw [List.length_cons, List.length_cons, hl], fun f' hf => ?_⟩
      rcases List.mem_cons.mp hf with rfl | hf
      · exact ⟨_, List.mem_cons_self, y, r, hk, ry⟩
      · obtain ⟨v', hv', z⟩ := hi f' hf
        exact ⟨v', List.mem_cons_of_mem _ hv', z⟩
theorem sameK_head {x y : At} {r t : List At} (h : sameK (x :: r) (y :: t) = true) : atT x = atT y := by
  match x, y, h with
  | .i _, .i _, _ => rfl
  | .s _, .s _, _ => rfl
theorem atT_no (x : At) : (Value.type (atT x) != Value.type "tuple") = true := by
  cases x <;> (first | decide +kernel | rfl | decide)
theorem atoms_sortable {a : Addr} {vs : List Value} {k : Value → List At} (h0 : 0 < vs.length) (hp : ∀ v ∈ vs, IsT s.heap v (k v)) (hne : ∀ v ∈ vs, k v ≠ []) (hk : ∀ v ∈ vs, ∀ u ∈ vs, sameK (k v) (k u) = true) (hu : ∀ v ∈ vs, ∀ u ∈ vs, k v = k u → v = u)
    (ha : ∀ o, s.heap.get? a = some o → o.cls ≠ .type "tuple") : SrtO.SortableO prog w A s a vs fun v u => lexA (k v) (k u) := by
  intro h' keep
  have hp' : ∀ v ∈ vs, IsT h' v (k v) := fun v hm => (hp v hm).keeps fun b o e c => keep b o (fun z => by subst z; exact ha o e c) e
  obtain ⟨fs, h1, h2, h3⟩ := atoms_first (h := h') (k := k) vs fun v hm => ⟨hp' v hm, hne v hm⟩
  obtain ⟨v0, hv0⟩ : ∃ v, v ∈ vs := ⟨vs[0], List.getElem_mem h0⟩
  obtain ⟨x0, r0, e0⟩ : ∃ x r, k v0 = x :: r := by
    cases e : k v0 with
    | nil => exact absurd e (hne v0 hv0)
    | cons x r => exact ⟨x, r, rfl⟩
  refine ⟨tuples' true, fun Q E hq => ?_, atoms_cmp hp' hk hu⟩
  refine PySem.W.kat_kind (T := .type (atT x0)) h1 (by omega) (fun f hm => ?_) (by simp) ?_
  · obtain ⟨v, hv, x, r, e, rx⟩ := h3 f hm
    have q := hk v0 hv0 v hv
    rw [e0, e] at q
    rw [sameK_head q]
    cases x with
    | i n =>
      obtain ⟨t, rfl⟩ := rx
      exact PySem.W.Looks.now
    | s z =>
      obtain ⟨t, rfl⟩ := rx
      exact PySem.W.Looks.now
  · rw [atT_no]
    exact hq
theorem sorted_atoms {l : Addr} {vs : List Value} {k : Value → List At} {Q : Value → Shared → Prop} {E : Value → Shared → Prop} (hl : s.heap.IsList l vs.toArray) (hz : vs.length ≤ sizeLine) (hp : ∀ v ∈ vs, IsT s.heap v (k v)) (hne : ∀ v ∈ vs, k v ≠ []) (hk : ∀ v ∈ vs, ∀ u ∈ vs, sameK (k v) (k u) = true) (hu : ∀ v ∈ vs, ∀ u ∈ vs, k v = k u → v = u)
    (h : ∀ (h' : Heap) (d : Addr) (out : List Value), SrtO.Srtd (fun v u => lexA (k v) (k u)) out → SrtO.Stb (fun v u => lexA (k v) (k u)) out vs → (∀ b o, s.heap.get? b = some o → h'.get? b = some o) → s.heap.objs.size ≤ d → (∃ n, h'.get? d = some (seqObj "list" out.toArray n)) → Q (.ref d) { s with heap := h' }) :
    wpAny (model prog w) A (call (.builtin "sorted") [.ref l]) Q E s := by
  refine SrtO.sorted_ord (swo_lexA k) hl hz (fun h2 h₁ a ha kk => ?_) fun out hs hb => ?_
  · refine atoms_sortable (s := { s with heap := h₁ }) (by omega) (fun v hm => (hp v hm).keeps fun b o e _ => (kk b o e).2) hne hk hu fun o e => ?_
    have e' := e.symm.trans ha
    cases e'
    intro c
    exact absurd (Value.type.inj c) (by decide)
  · exact h _ _ out hs hb (fun b o e => sortedAll_old e) (Nat.le_succ _) (sortedAll_at s.heap vs out.toArray)
end
theorem vals_split : ∀ {as : List At} {ys : List V} {its : List Value}, Vals (as.map atV ++ ys) its → ∃ us tl, its = us ++ tl ∧ Paired AtR as us
  | [], _, its, _ => ⟨[], its, rfl, .nil⟩
  | _ :: _, _, _, .cons r t => by
    obtain ⟨us, tl, e, p⟩ := vals_split t
    exact ⟨_ :: us, tl, by rw [e]; rfl, .cons r p⟩
/-- sorted(xs): tuples that differ in their first items -/
def rSortedAt (K : PySem.W.Frag) : List V → Hp → VK → Prop := fun vs H Q => ∃ (a : Addr) (xs : List V) (k : V → List At), vs = [V.ref a] ∧ SqL K H a xs ∧ (∀ x ∈ xs, ∃ t ys, x = V.ref t ∧ H t = some (.tup ((k x).map atV ++ ys))) ∧ (∀ x ∈ xs, k x ≠ []) ∧
  (∀ x ∈ xs, ∀ y ∈ xs, sameK (k x) (k y) = true) ∧ (∀ x ∈ xs, ∀ y ∈ xs, k x = k y → x = y) ∧
  ∀ ys p, SrtO.Srtd (fun x y => lexA (k x) (k y)) ys → ys.Perm xs → H p = none → Q (.ref p) (upd H p (.lst ys))
theorem cr_sortedAt {X : Cx} (K : PySem.W.Frag) (hK : X.K = K := by rfl) : CallR X (.builtin "sorted") (rSortedAt K) := by
  subst hK
  intro pins s σ H vs us Q I r h
  obtain ⟨a, xs, k, rfl, hs, hx, hne, hk, hu, q⟩ := h
  obtain ⟨its, rv, hl, hz⟩ := I.list hs
  obtain ⟨u, rfl, ru⟩ := vals1 r
  obtain rfl : u = Value.ref a := ru
  obtain ⟨e1, e2⟩ := refs_back rv fun x m => by
    obtain ⟨t, _, e, _⟩ := hx x m
    exact ⟨t, e⟩
  have mem : ∀ v ∈ its, backV v ∈ xs := fun v hv => by rw [e1]; exact List.mem_map.mpr ⟨v, hv, rfl⟩
  refine sorted_atoms (k := fun u => k (backV u)) hl.isList (by rw [← rv.length]; exact hz) (fun v hv => ?_) (fun v hv => hne _ (mem v hv)) (fun v hv u hu' => hk _ (mem v hv) _ (mem u hu')) (fun v hv u hu' e => ?_) fun h' d out h1 h2 kp hd hn => ?_
  · obtain ⟨t, rfl⟩ := e2 v hv
    obtain ⟨t', ys, e, ht⟩ := hx _ (mem _ hv)
    cases e
    obtain ⟨_, its2, r2, o, ho, hc, n, hd⟩ := I.hok _ _ ht
    obtain ⟨us, tl, rfl, pu⟩ := vals_split r2
    exact ⟨t, o, us, tl, n, rfl, ho, hc, hd, pu⟩
  · obtain ⟨t, rfl⟩ := e2 v hv
    obtain ⟨t', rfl⟩ := e2 u hu'
    have := hu _ (mem _ hv) _ (mem _ hu') e
    cases this
    rfl
  · have h3 : ∀ u ∈ out, ∃ a, u = Value.ref a := fun u hu => e2 u (h2.perm.mem_iff.mp hu)
    obtain ⟨n, hn⟩ := hn
    have hb : (out.map backV).Perm xs := by
      rw [e1]
      exact h2.perm.map backV
    refine ⟨.ref d, upd H d (.lst (out.map backV)), I.laid (t' := s.toks) kp hd ⟨?_, out, n, vals_back h3, hn⟩, rfl, q _ d (SrtO.srtd_map h1) hb (I.hok.fresh hd)⟩
    rw [hb.length_eq]
    exact hz
end Ly

set_option maxRecDepth 100000
set_option maxHeartbeats 4000000
/-! the reader of a diagram's rows -/
namespace Ly
open PySem PySem.Spec PyProof.Rows L2
abbrev Prt := Str × Str
/-- what a reader has read -/
structure RSt where
  name : Option Str
  ins : List Str
  outs : List Str
  parts : List Prt
  wires : List (Prt × Prt)
  done : Bool
def nameV : Option Str → V
  | none => .non
  | some n => .str n
def fsR (n : V) (i o p w : Addr) (d : Bool) : List (Str × V) := [("name", n), ("inputs", .ref i), ("outputs", .ref o), ("parts", .ref p), ("wires", .ref w), ("is_done", .bl d)]
def keyP (p : Prt) : List Key := [Sum.inr p.1, Sum.inr p.2]
/-- the wires of a reader: a dict with pairs as keys, pairs as values -/
def WiresAt (K : PySem.W.Frag) (H : Hp) (w : Addr) (ws : List (Prt × Prt)) : Prop := ∃ kvs : List (List Key × V), H w = some (.dT kvs) ∧ Paired (fun (x : Prt × Prt) (q : List Key × V) => q.1 = keyP x.1 ∧ ∃ t, q.2 = V.ref t ∧ SqT K H t [.str x.2.1, .str x.2.2]) ws kvs
def PartsAt (K : PySem.W.Frag) (H : Hp) (p : Addr) (ps : List Prt) : Prop := ∃ xs : List V, H p = some (.lst xs) ∧ DpAll K H xs (ps.map dPair)
structure ReaderAt (K : PySem.W.Frag) (C : Addr) (H : Hp) (x dx i o p w : Addr) (r : RSt) : Prop where
  obj : H x = some (.ins C dx (fsR (nameV r.name) i o p w r.done))
  ins : SqT K H i (r.ins.map V.str)
  outs : SqT K H o (r.outs.map V.str)
  parts : PartsAt K H p r.parts
  wires : WiresAt K H w r.wires
theorem fsR_name {n i o p w d} : (fsR n i o p w d).lookup ("name" : Str) = some n := by kernel_rfl
theorem fsR_inputs {n i o p w d} : (fsR n i o p w d).lookup ("inputs" : Str) = some (.ref i) := by kernel_rfl
theorem fsR_outputs {n i o p w d} : (fsR n i o p w d).lookup ("outputs" : Str) = some (.ref o) := by kernel_rfl
theorem fsR_parts {n i o p w d} : (fsR n i o p w d).lookup ("parts" : Str) = some (.ref p) := by kernel_rfl
theorem fsR_wires {n i o p w d} : (fsR n i o p w d).lookup ("wires" : Str) = some (.ref w) := by kernel_rfl
theorem fsR_done {n i o p w d} : (fsR n i o p w d).lookup ("is_done" : Str) = some (.bl d) := by kernel_rfl
theorem fsR_putn {n i o p w d m} : putF "name" m (fsR n i o p w d) = fsR m i o p w d := by kernel_rfl
theorem fsR_puti {n i o p w d j} : putF "inputs" (.ref j) (fsR n i o p w d) = fsR n j o p w d := by kernel_rfl
theorem fsR_puto {n i o p w d j} : putF "outputs" (.ref j) (fsR n i o p w d) = fsR n i j p w d := by kernel_rfl
theorem fsR_putd {n i o p w d e} : putF "is_done" (.bl e) (fsR n i o p w d) = fsR n i o p w e := by kernel_rfl
def rs0 : RSt := ⟨none, [], [], [], [], false⟩
def spRI (K : PySem.W.Frag) (C : Addr) : Sp := fun vs H Q _ => ∃ (x dx : Addr), vs = [.ref x] ∧ H x = some (.ins C dx []) ∧ ∀ i o p w H', SameX x H H' → H p = none → H w = none → p ≠ w → ReaderAt K C H' x dx i o p w rs0 → Q .non H'
def fr1 : List (Str × V) := [("name", V.non)]
def fr2 (i : Addr) : List (Str × V) := [("name", V.non), ("inputs", .ref i)]
def fr3 (i o : Addr) : List (Str × V) := [("name", V.non), ("inputs", .ref i), ("outputs", .ref o)]
def fr4 (i o p : Addr) : List (Str × V) := [("name", V.non), ("inputs", .ref i), ("outputs", .ref o), ("parts", .ref p)]
def fr5 (i o p w : Addr) : List (Str × V) := [("name", V.non), ("inputs", .ref i), ("outputs", .ref o), ("parts", .ref p), ("wires", .ref w)]
theorem fr_put1 : putF "name" .non [] = fr1 := by kernel_rfl
theorem fr_put2 {i : Addr} : putF "inputs" (.ref i) fr1 = fr2 i := by kernel_rfl
theorem fr_put3 {i o : Addr} : putF "outputs" (.ref o) (fr2 i) = fr3 i o := by kernel_rfl
theorem fr_put4 {i o p : Addr} : putF "parts" (.ref p) (fr3 i o) = fr4 i o p := by kernel_rfl
theorem fr_put5 {i o p w : Addr} : putF "wires" (.ref w) (fr4 i o p) = fr5 i o p w := by kernel_rfl
theorem fr_put6 {i o p w : Addr} : putF "is_done" (.bl false) (fr5 i o p w) = fsR .non i o p w false := by kernel_rfl
/-! ### the pure reader -/
def portOf (parts : List Prt) (own : List Str) (z : Str) : Option Prt :=
  match Txt.split z "." with
  | [_] => if z ∈ own then some ("", z) else none
  | [a, b] => if (decide (a ∈ parts.map (·.1)) && nameOk b) = true then some (a, b) else none
  | _ => none
def spPortOf (K : PySem.W.Frag) (C : Addr) : Sp := fun vs H Q _ => ∃ (x dx i o p w q : Addr) (z : Str) (own : List Str) (r : RSt), vs = [.ref x, .str z, .ref q] ∧ ReaderAt K C H x dx i o p w r ∧ z.length ≤ 100100 ∧ SqT K H q (own.map V.str) ∧ r.parts.length ≤ 1000 ∧
  ∀ v H', Same H H' → (match portOf r.parts own z with | none => v = .non | some pr => ∃ t, v = .ref t ∧ H' t = some (.tup [.str pr.1, .str pr.2])) → Q v H'
def spPName : Sp := spName
theorem val_some {kvs : List (Key × V)} {k : Key} : (valV kvs k).isSome = kvs.any fun p => decide (p.1 = k) := by
  unfold valV
  rw [Option.isSome_map]
  induction kvs with
  | nil => rfl
  | cons p r ih =>
    rw [List.find?_cons, List.any_cons]
    cases h : decide (p.1 = k) with
    | true => rfl
    | false => rw [Bool.false_or]; exact ih
theorem put_some {kvs : List (Key × V)} {k0 k : Key} {v : V} : (valV (putK kvs k0 v) k).isSome = ((valV kvs k).isSome || decide (k0 = k)) := by
  rw [val_some, val_some]
  unfold putK
  split
  · rename_i h
    have e : (kvs.map fun kv => if kv.1 = k0 then (kv.1, v) else kv).any (fun p => decide (p.1 = k)) = kvs.any fun p => decide (p.1 = k) := by
      rw [List.any_map]
      congr 1
      funext p
      show decide ((if p.1 = k0 then (p.1, v) else p).1 = k) = decide (p.1 = k)
      split <;> rfl
    rw [e]
    by_cases hk : k0 = k
    · subst hk
      rw [h]
      rfl
    · rw [decide_eq_false hk, Bool.or_false]
  · rw [List.any_append]
    simp
theorem merge_some : ∀ (more : List (Key × V)) (kvs : List (Key × V)) {k : Key}, (valV (mergeK kvs more) k).isSome = ((valV kvs k).isSome || more.any fun p => decide (p.1 = k))
  | [], kvs, k => by simp [mergeK]
  | p :: r, kvs, k => by
    have e : mergeK kvs (p :: r) = mergeK (putK kvs p.1 p.2) r := rfl
    rw [e, merge_some r, put_some, List.any_cons, Bool.or_assoc]
def partKV (q : Prt) : Key × V := (Sum.inr q.1, V.str q.2)
theorem parts_pairs {K : PySem.W.Frag} {H : Hp} : ∀ {xs : List V} {ps : List Prt}, DpAll K H xs (ps.map dPair) → ∃ as : List Addr, xs = as.map V.ref ∧ Paired (fun p (kv : Key × V) => SqT K H p [kV kv.1, kv.2]) as (ps.map partKV)
  | _, [], .nil => ⟨[], rfl, .nil⟩
  | _, q :: r, .cons h hs => by
    obtain ⟨as, e, p⟩ := parts_pairs hs
    obtain ⟨a, rfl, ha⟩ := dp_pair_inv h
    exact ⟨a :: as, by rw [e]; rfl, .cons ha p⟩
theorem parts_in {ps : List Prt} {a : Str} : (valV (mergeK [] (ps.map partKV)) (Sum.inr a)).isSome = decide (a ∈ ps.map (·.1)) := by
  rw [merge_some]
  show (false || _) = _
  rw [Bool.false_or]
  induction ps with
  | nil => simp
  | cons q r ih =>
    rw [List.map_cons, List.any_cons, ih, List.map_cons]
    show (decide ((Sum.inr q.1 : Key) = Sum.inr a) || _) = _
    by_cases h : q.1 = a
    · rw [decide_eq_true (by rw [h]), Bool.true_or, decide_eq_true (by rw [h]; exact List.mem_cons_self)]
    · rw [decide_eq_false (fun z => h (Sum.inr.inj z)), Bool.false_or]
      by_cases h2 : a ∈ r.map (·.1)
      · rw [decide_eq_true h2, decide_eq_true (List.mem_cons_of_mem _ h2)]
      · rw [decide_eq_false h2, decide_eq_false fun z => (List.mem_cons.mp z).elim (fun e => h e.symm) h2]
theorem flat_strs : ∀ l : List Str, (l.map V.str).all flatV = true
  | [] => rfl
  | x :: r => by
    rw [List.map_cons, List.all_cons, flat_strs r]
    rfl
end Ly

set_option maxRecDepth 100000
set_option maxHeartbeats 4000000
/-! d != {} for any dict -/
namespace Ly
open PySem PySem.Spec PyProof.Rows L2
section
variable {prog : Program} {w : World} {A : Around} {E : Value → Shared → Prop} {s : Shared}
theorem same_empty {nm : String} {a b : Addr} {oa ob : Obj} {es : Array DictEntry} {ep ep' : Nat} {Q : Bool → Shared → Prop} (ha : (a == sysModules) = false) (hb : (b == sysModules) = false)
    (hoa : s.heap.get? a = some oa) (hda : oa.data = .dict es ep) (hob : s.heap.get? b = some ob) (hdb : ob.data = .dict #[] ep') (h : Q (es.size == 0) s) :
    wpAny (model prog w) A (Builtin.Dict.samePairs nm a b) Q E s := by
  unfold Builtin.Dict.samePairs Builtin.Dict.showsAll
  rw [if_neg (show ¬ (a == sysModules) = true by rw [ha]; exact Bool.false_ne_true), if_neg (show ¬ (b == sysModules) = true by rw [hb]; exact Bool.false_ne_true)]
  refine wpAny_bind (wpAny_pure (wpAny_bind (wpAny_pure ?_)))
  refine wpAny_bind (wpAny_dictEntries hoa hda ?_)
  dsimp only
  refine wpAny_bind (wpAny_dictEntries hob hdb ?_)
  by_cases hsz : es.size = 0
  case neg =>
    rw [if_pos (by simpa using hsz)]
    have hbf : (es.size == 0) = false := by simpa using hsz
    rw [hbf] at h
    exact wpAny_bind (wpAny_rule (wpAny_pure h))
  case pos =>
    rw [hsz] at h
    rw [if_neg (by rw [hsz]; simp)]
    refine wpAny_bind (wpAny_dictEpoch hoa hda ?_)
    refine wpAny_bind ?_
    rw [Std.Legacy.Range.forIn_eq_forIn_range']
    simp only [Std.Legacy.Range.size, Nat.sub_zero, Nat.add_sub_cancel, Nat.div_one]
    rw [hsz]
    exact wpAny_pure (wpAny_pure h)
theorem ne_empty {a b : Addr} {oa ob : Obj} {es : Array DictEntry} {ep ep' : Nat} {Q : Value → Shared → Prop} (ha : (a == sysModules) = false) (hb : (b == sysModules) = false) (xa : oa.ExactDict) (xb : ob.ExactDict)
    (hoa : s.heap.get? a = some oa) (hda : oa.data = .dict es ep) (hob : s.heap.get? b = some ob) (hdb : ob.data = .dict #[] ep') (hu : A.units < cLine) (h : Q (.bool (!(es.size == 0))) s) :
    wpAny (model prog w) A (compareOp .NotEq (.ref a) (.ref b)) Q E s := by
  have ta : s.TypeIs (.ref a) "dict" := ⟨oa, hoa, xa.1⟩
  have tb : s.TypeIs (.ref b) "dict" := ⟨ob, hob, xb.1⟩
  refine wpAny_richCompare_same_room (op := .NotEq) ta tb PySem.F.slot_dict_ne (wpAny_call_entry PySem.F.slot_dict_ne ta PySem.F.entry_dict_ne ?_ (PySem.F.args_dict_ne_2 _ _)) hu
  show wpAny _ _ (Builtin.Dict.dictSlotArgs "__ne__" ⟨[.ref a, .ref b], []⟩ >>= _) _ _ s
  refine wpAny_bind ?_
  unfold Builtin.Dict.dictSlotArgs
  refine wpAny_bind (wpAny_notOrdered_dict ta ?_)
  show wpAny _ _ (pure (Value.ref a, Value.ref b)) _ _ s
  refine wpAny_pure ?_
  refine wpAny_bind (wpAny_isInstance (T := "dict") tb PySem.F.sub_dict_dict ?_)
  simp only [Bool.not_true, Bool.false_eq_true, if_false]
  refine wpAny_bind (wpAny_pure (wpAny_bind (wpAny_pure ?_)))
  refine wpAny_bind (same_empty ha hb hoa hda hob hdb ?_)
  refine wpAny_pure ⟨_, rfl, ?_, ?_⟩
  · exact fun x => nomatch x
  · simpa using h
end
/-- d != {}, d a dict with tuple keys, {} laid as one -/
def rNeEmptyT : R2 := fun x y H Q => ∃ a b kvs, x = .ref a ∧ y = .ref b ∧ H a = some (.dT kvs) ∧ H b = some (.dT []) ∧ Q (.bl (!(kvs.length == 0))) H
theorem op_neEmptyT {X : Cx} (hu : X.A.units < cLine) : OpR X (compareOp .NotEq) rNeEmptyT := by
  intro pins s σ H x y v u Q I rx ry h
  obtain ⟨a, b, kvs, rfl, rfl, ea, eb, q⟩ := h
  obtain rfl : v = Value.ref a := rx
  obtain rfl : u = Value.ref b := ry
  obtain ⟨_, ya, xs, px, oa, es, ep, ha, xa, da, ee, _⟩ := (show ObjOk X.prog X.w H s.heap a (.dT kvs) from I.hok a _ ea)
  obtain ⟨_, yb, xs', px', ob, es', ep', hb, xb, db, ee', _⟩ := (show ObjOk X.prog X.w H s.heap b (.dT []) from I.hok b _ eb)
  cases px'
  have e0 : es' = #[] := by
    have : es'.toList = [] := ee'
    simpa using this
  subst e0
  have hl : es.size = kvs.length := by
    have h1 : es.toList.length = xs.length := by rw [ee, List.length_map]
    rw [← Array.length_toList, h1, px.length]
  refine ne_empty ya yb xa xb ha da hb db hu ?_
  rw [hl]
  exact ⟨.bl (!(kvs.length == 0)), H, I, rfl, q⟩
end Ly

set_option maxRecDepth 100000
set_option maxHeartbeats 4000000
/-! sets of texts: set(xs), len, sorted, in -/
namespace Ly
open PySem PySem.Spec PyProof.Rows L2
def kOf (e : Int × Value) : Str := match e.2 with | .str k _ => k | _ => Str.empty
def GoodT (w : World) (e : Int × Value) : Prop := ∃ k tk, e.2 = Value.str k tk ∧ e.1 = hashStr w k
/-- the set of texts at a, L its members, each once -/
def SetS (w : World) (h : Heap) (a : Addr) (L : List Str) : Prop :=
  ∃ o es ep t, h.get? a = some o ∧ o.ExactSet ∧ o.data = .set es ep t ∧ (∀ e ∈ es.toList, GoodT w e) ∧ (es.toList.map kOf).Perm L ∧ L.Nodup ∧
    es.size < scanBound ∧ t.fits es.size = true ∧ Ris t.place.toList ∧ (w.params.followText "set-order" = true ∨ t.led = true)
section
variable {P : Program} {w : World} {h h' : Heap} {a : Addr} {L : List Str}
theorem SetS.at (R : SetS w h a L) (k : ∀ o, h.get? a = some o → h'.get? a = some o) : SetS w h' a L := by
  obtain ⟨o, es, ep, t, ho, r⟩ := R
  exact ⟨o, es, ep, t, k o ho, r⟩
theorem goodT_elems {l : List (Int × Value)} (g : ∀ e ∈ l, GoodT w e) : ElemsOf (strKind P w) l := fun e he => by
  obtain ⟨k, tk, h1, h2⟩ := g e he
  exact ⟨⟨k, by rw [h1]; exact strKind_is P w k tk, h2⟩, by rw [h1] <;> rfl⟩
theorem goodT_is {e : Int × Value} (g : GoodT w e) (k : Str) : (strKind P w).is k e.2 = true ↔ kOf e = k := by
  obtain ⟨k0, tk, h1, _⟩ := g
  unfold kOf
  rw [h1]
  show ((k0 == k) = true) ↔ k0 = k
  exact beq_iff_eq
theorem goodT_mem {l : List (Int × Value)} (g : ∀ e ∈ l, GoodT w e) (k : Str) : k ∈ l.map kOf ↔ ∃ e ∈ l, (strKind P w).is k e.2 = true := by
  rw [List.mem_map]
  constructor
  · rintro ⟨e, he, q⟩
    exact ⟨e, he, (goodT_is (g e he) k).2 q⟩
  · rintro ⟨e, he, q⟩
    exact ⟨e, he, (goodT_is (g e he) k).1 q⟩
theorem SetS.setOf (R : SetS w h a L) : h.SetOf (strKind P w) a (fun k => decide (k ∈ L)) L.length := by
  obtain ⟨o, es, ep, t, ho, hx, hd, g, pm, nd, hb, hf, _⟩ := R
  refine ⟨o, es, ep, t, ho, hx, hd, goodT_elems g, fun k => ?_, hb, hf, ?_⟩
  · show decide (k ∈ L) = true ↔ _
    rw [decide_eq_true_eq, ← pm.mem_iff]
    exact goodT_mem g k
  · rw [← pm.length_eq, List.length_map, Array.length_toList]
end
/-- one more -/
def addS (L : List Str) (k : Str) : List Str := if k ∈ L then L else L ++ [k]
/-- each once, in the order they are met -/
def dedS (xs : List Str) : List Str := xs.foldl addS []
theorem addS_nodup {L : List Str} {k : Str} (h : L.Nodup) : (addS L k).Nodup := by
  unfold addS
  split
  · exact h
  · rename_i hk
    rw [List.nodup_append]
    refine ⟨h, List.nodup_cons.mpr ⟨by simp, List.nodup_nil⟩, fun a ha b hb e => ?_⟩
    rw [List.mem_singleton.mp hb] at e
    exact hk (e ▸ ha)
theorem addS_mem {L : List Str} {k x : Str} : x ∈ addS L k ↔ x ∈ L ∨ x = k := by
  unfold addS
  split
  · rename_i hk
    exact ⟨.inl, fun h => h.elim id fun e => e ▸ hk⟩
  · rw [List.mem_append, List.mem_singleton]
theorem fold_nodup : ∀ (xs : List Str) {L : List Str}, L.Nodup → (xs.foldl addS L).Nodup
  | [], _, h => h
  | x :: r, _, h => fold_nodup r (addS_nodup h)
theorem fold_mem : ∀ (xs : List Str) {L : List Str} {x : Str}, x ∈ xs.foldl addS L ↔ x ∈ L ∨ x ∈ xs
  | [], L, x => by simp
  | y :: r, L, x => by
    show x ∈ r.foldl addS (addS L y) ↔ _
    rw [fold_mem r, addS_mem, List.mem_cons]
    exact or_assoc
theorem ded_nodup (xs : List Str) : (dedS xs).Nodup := fold_nodup xs List.nodup_nil
theorem ded_mem {xs : List Str} {x : Str} : x ∈ dedS xs ↔ x ∈ xs := by
  unfold dedS
  rw [fold_mem]
  simp
theorem fold_len : ∀ (xs : List Str) {L : List Str}, (xs.foldl addS L).length ≤ L.length + xs.length
  | [], _ => Nat.le_refl _
  | y :: r, L => by
    have := fold_len r (L := addS L y)
    have h2 : (addS L y).length ≤ L.length + 1 := by
      unfold addS
      split
      · omega
      · rw [List.length_append, List.length_singleton]
        omega
    rw [List.length_cons]
    show (r.foldl addS (addS L y)).length ≤ _
    omega
theorem ded_len (xs : List Str) : (dedS xs).length ≤ xs.length := by
  have := fold_len xs (L := [])
  rw [List.length_nil, Nat.zero_add] at this
  exact this
theorem fold_full : ∀ (xs : List Str) {L : List Str}, (xs.foldl addS L).length = L.length + xs.length → xs.foldl addS L = L ++ xs
  | [], L, _ => by simp
  | y :: r, L, h => by
    have h1 := fold_len r (L := addS L y)
    have h0 : (r.foldl addS (addS L y)).length = L.length + (y :: r).length := h
    rw [List.length_cons] at h0
    have hy : y ∉ L := fun hm => by
      have e : addS L y = L := if_pos hm
      rw [e] at h1 h0
      omega
    have e : addS L y = L ++ [y] := if_neg hy
    show r.foldl addS (addS L y) = _
    rw [e] at h0 ⊢
    rw [fold_full r (by rw [h0, List.length_append, List.length_singleton]; omega), List.append_assoc]
    rfl
theorem ded_lt : ∀ (xs : List Str), (dedS xs).length < xs.length ↔ ¬ xs.Nodup := fun xs => by
  have key : xs.Nodup ↔ (dedS xs).length = xs.length := by
    constructor
    · intro h
      exact (List.perm_ext_iff_of_nodup (ded_nodup xs) h |>.mpr fun x => ded_mem).length_eq
    · intro h
      have e := fold_full xs (L := []) (by rw [List.length_nil, Nat.zero_add]; exact h)
      have n := ded_nodup xs
      unfold dedS at n
      rw [e] at n
      simpa using n
  have := ded_len xs
  rw [key]
  omega
theorem fold_same : ∀ (xs : List Str) {L : List Str}, (L ++ xs).Nodup → xs.foldl addS L = L ++ xs
  | [], L, _ => by simp
  | y :: r, L, h => by
    have hy : y ∉ L := fun hm => by
      have := (List.nodup_append.mp h).2.2 y hm y List.mem_cons_self
      exact this rfl
    show r.foldl addS (addS L y) = _
    have e : addS L y = L ++ [y] := if_neg hy
    rw [e, fold_same r (by rw [List.append_assoc]; exact h), List.append_assoc]
    rfl
theorem ded_same {xs : List Str} (h : xs.Nodup) : dedS xs = xs := by
  have := fold_same xs (L := []) (by simpa using h)
  simpa [dedS] using this
section
variable {P : Program} {w : World} {A : Around} {E : Value → Shared → Prop} {s : Shared} {a : Addr} {L : List Str}
theorem setS_tail {g : Bool → Sem Unit} (hg : ∀ (b : Bool) (s₁ : Shared) (Q' : Unit → Shared → Prop), Q' () s₁ → wpAny (model P w) A (g b) Q' E s₁)
    {o : Obj} {es : Array (Int × Value)} {ep : Nat} {t : SetTable} (ho : s.heap.get? a = some o) (hex : o.ExactSet) (hd : o.data = .set es ep t)
    {es1 : Array (Int × Value)} {t2 : SetTable} {L' : List Str} (g1 : ∀ e ∈ es1.toList, GoodT w e) (p1 : (es1.toList.map kOf).Perm L') (nd1 : L'.Nodup)
    (hb1 : es1.size < scanBound) (hf2 : t2.fits es1.size = true) (hr : Ris t2.place.toList) (hl : w.params.followText "set-order" = true ∨ t2.led = true) {wasDummy : Bool} {R : Option Bool → Shared → Prop}
    (hR : ∀ h', Heap.SameBut a s.heap h' → SetS w h' a L' → R (some true) { s with heap := h' }) :
    wpAny (model P w) A (do
        storeSet a es1 t2
        if (!wasDummy && t2.tooFull) = true then do
            g (relayAll t2 es1 (SetTable.grown es1.size)).2.2
            storeSet a (relayAll t2 es1 (SetTable.grown es1.size)).1 (relayAll t2 es1 (SetTable.grown es1.size)).2.1
            pure (some true)
          else pure (some true)) R E s := by
  refine wpAny_bind (wpAny_storeSet_of ho hd ?_ (fits_of_scanBound hb1))
  have ho1 := store_at (es' := es1) (t' := t2) ho hd
  have sb1 := Heap.SameBut.update s.heap a (Obj.putSet es1 t2)
  split
  · have pm := relayAll_perm t2 es1 (SetTable.grown es1.size)
    have hf3 := relayAll_fits t2 es1 (SetTable.grown es1.size)
    have hr3 := relayAll_ris t2 es1 (SetTable.grown es1.size)
    have hl3 := relayAll_led t2 es1 (SetTable.grown es1.size)
    generalize relayAll t2 es1 (SetTable.grown es1.size) = Z at pm hf3 hr3 hl3 ⊢
    obtain ⟨es2, t3, gave⟩ := Z
    dsimp only at pm hf3 hr3 hl3 ⊢
    have hsz : es2.size = es1.size := by rw [← Array.length_toList, pm.length_eq, Array.length_toList]
    have hb2 : es2.size < scanBound := by rw [hsz]; exact hb1
    refine wpAny_bind (hg _ _ _ ?_)
    refine wpAny_bind (wpAny_storeSet_of ho1 rfl ?_ (fits_of_scanBound hb2))
    have ho2 := store_at (es' := es2) (t' := t3) ho1 rfl
    refine wpAny_pure (hR _ (sb1.trans (Heap.SameBut.update _ a _)) ?_)
    exact ⟨_, es2, _, t3, ho2, hex, rfl, fun e he => g1 e (pm.mem_iff.mp he), (pm.map kOf).trans p1, nd1, hb2, hf3, hr3,
      hl.imp id fun z => by rw [hl3]; exact z⟩
  · exact wpAny_pure (hR _ sb1 ⟨_, es1, _, t2, ho1, hex, rfl, g1, p1, nd1, hb1, hf2, hr, hl⟩)
theorem setS_hashed {k : Str} {tk : Tok} {Q : Bool → Shared → Prop} (R : SetS w s.heap a L) (room : L.length + 1 < scanBound)
    (hQ : ∀ h', Heap.SameBut a s.heap h' → SetS w h' a (addS L k) → Q (!decide (k ∈ L)) { s with heap := h' }) :
    wpAny (model P w) A (setAddHashed a (.str k tk) ((strKind P w).hash k)) Q E s := by
  obtain ⟨o, es, ep, t, ho, hex, hd, g, pm0, nd, hb, hf, hr, hl⟩ := R
  have hkey : (strKind P w).is k (.str k tk) = true := strKind_is P w k tk
  have hsc : (Value.str k tk).scannable = true := rfl
  have hel : ElemsOf (strKind P w) es.toList := goodT_elems g
  have hn : es.size = L.length := by rw [← pm0.length_eq, List.length_map, Array.length_toList]
  unfold setAddHashed setAddHashedIn
  refine wpAny_holding (wpAny_bind (wpAny_setState_of ho hd hf ?_))
  dsimp only
  rw [byScan_of hsc hb hel]
  simp only [↓reduceIte]
  unfold setAddByScan
  refine wpAny_bind ?_
  refine wpAny_bind (wpAny_rule ?_)
  refine wpAny_bind (wpAny_setScan_of hkey ho hd hf hel ?_)
  cases hfi : List.findIdx? (fun e => (strKind P w).is k e.2) es.toList with
  | some j =>
    dsimp only
    obtain ⟨hj, pj, _⟩ := List.findIdx?_eq_some_iff_getElem.mp hfi
    have hSk : k ∈ L := pm0.mem_iff.mp ((goodT_mem (P := P) (w := w) g k).2 ⟨es.toList[j], List.getElem_mem hj, pj⟩)
    refine wpAny_pure (wpAny_pure ?_)
    have q := hQ s.heap (Heap.SameBut.refl a s.heap) ⟨o, es, ep, t, ho, hex, hd, g, by
      unfold addS
      rw [if_pos hSk]
      exact pm0, addS_nodup nd, hb, hf, hr, hl⟩
    rw [decide_eq_true hSk] at q
    exact q
  | none =>
    dsimp only
    have hnk : k ∉ L := fun z => by
      obtain ⟨e, he, q⟩ := (goodT_mem (P := P) (w := w) g k).1 (pm0.mem_iff.mpr z)
      have c := List.findIdx?_eq_none_iff.mp hfi e he
      rw [q] at c
      cases c
    have hgw : ∀ (b : Bool) {s₁ : Shared} {Q' : Unit → Shared → Prop}, Q' () s₁ → wpAny (model P w) A (match b with | true => rule "set.scan.the-table-gave-way" | false => pure ()) Q' E s₁ :=
      fun b s₁ Q' q => by cases b <;> first | exact wpAny_pure q | exact wpAny_rule q
    have pm := layNew_perm t es ((strKind P w).hash k) (.str k tk)
    have hf1 := layNew_fits t es ((strKind P w).hash k) (.str k tk)
    have hr1 := layNew_ris t es ((strKind P w).hash k) (.str k tk) hr
    have hl1 := layNew_led t es ((strKind P w).hash k) (.str k tk)
    generalize layNew t es ((strKind P w).hash k) (.str k tk) = Z at pm hf1 hr1 hl1 ⊢
    obtain ⟨es1, t1, wasDummy, gave⟩ := Z
    dsimp only at pm hf1 hr1 hl1 ⊢
    rw [Array.toList_push] at pm
    have pc : es1.toList.Perm (((strKind P w).hash k, Value.str k tk) :: es.toList) := pm.trans (List.perm_append_singleton _ _)
    have pk : (es1.toList.map kOf).Perm (k :: es.toList.map kOf) := pc.map kOf
    have eL : addS L k = L ++ [k] := if_neg hnk
    have p1 : (es1.toList.map kOf).Perm (addS L k) := by
      rw [eL]
      exact pk.trans ((List.Perm.cons k pm0).trans (List.perm_append_singleton _ _).symm)
    have g1 : ∀ e ∈ es1.toList, GoodT w e := fun e he => by
      rcases List.mem_cons.mp (pc.mem_iff.mp he) with z | z
      · rw [z]; exact ⟨k, tk, rfl, rfl⟩
      · exact g e z
    have nd1 : (addS L k).Nodup := addS_nodup nd
    have hsz : es1.size = L.length + 1 := by rw [← Array.length_toList, pc.length_eq, List.length_cons, Array.length_toList, hn]
    have hb1 : es1.size < scanBound := by rw [hsz]; exact room
    have hled : w.params.followText "set-order" = true ∨ t1.led = true := hl.imp id fun z => by rw [hl1]; exact z
    have fin : ∀ h', Heap.SameBut a s.heap h' → SetS w h' a (addS L k) → Q true { s with heap := h' } := fun h' sb r => by
      have q := hQ h' sb r
      rw [decide_eq_false hnk] at q
      exact q
    refine wpAny_bind (hgw _ ?_)
    split
    · refine wpAny_bind ?_
      rw [hashByValue_scannable 8 hsc]
      refine wpAny_pure ?_
      refine setS_tail ?_ ho hex hd g1 p1 nd1 hb1 ?_ ?_ ?_ ?_
      · intro b s₁ Q' q; cases b <;> first | exact wpAny_pure q | exact wpAny_rule q
      · first | (split <;> first | exact hf1 | exact SetTable.fits_plain_off hf1) | exact hf1
      · first | (split <;> exact hr1) | exact hr1
      · first | (split <;> exact hled) | exact hled
      · intro h' sb r; dsimp only; exact wpAny_pure (fin h' sb r)
    · refine wpAny_bind (wpAny_pure ?_)
      simp only [↓reduceIte]
      refine setS_tail ?_ ho hex hd g1 p1 nd1 hb1 hf1 hr1 hled ?_
      · intro b s₁ Q' q; cases b <;> first | exact wpAny_pure q | exact wpAny_rule q
      · intro h' sb r; dsimp only; exact wpAny_pure (fin h' sb r)
theorem setS_fresh {h : Heap} {a : Addr} (ho : h.get? a = some { cls := .type "set", dict := none, data := .set #[] 0 (.fresh 0 0 (!w.params.followText "set-order")) }) : SetS w h a [] :=
  ⟨_, #[], 0, _, ho, ⟨rfl, rfl, rfl⟩, rfl, (fun e he => by simp at he), by simp, List.nodup_nil, (by decide), (by rfl), List.Pairwise.nil, by
    show _ ∨ (!w.params.followText "set-order") = true
    cases w.params.followText "set-order"
    · exact .inr rfl
    · exact .inl rfl⟩
theorem setS_loop {I : Addr} {fp wr : List Addr} {G : Array GenState → Array GenState → Prop} {n : Nat} {Pv : Nat → Value → Prop} {St : Nat → Shared → Prop} {R : Result → Shared → Prop}
    (W : WalksS P w A.in1 I fp wr G n Pv St) (S : Addr) (hSf : S ∉ fp) (xs : List Str) (hn : n = xs.length) (hb : xs.length + 1 < scanBound) (hval : ∀ i v, Pv i v → ∃ k t, xs[i]? = some k ∧ v = .str k t) :
    ∀ (k i : Nat) (s : Shared), n - i = k → i ≤ n → St i s → SetS w s.heap S (dedS (xs.take i)) →
      (∀ s', Moved (S :: wr) G s s' → SetS w s'.heap S (dedS xs) → R (.ok (.ret .none)) s') →
      codeAny (model P w) A (.builtin "set.update.loop" ⟨[.ref S, .ref I], []⟩) R s := by
  have hSw : S ∉ wr := fun h => hSf (W.sub _ h)
  have hsub : ∀ b ∈ wr, b ∈ S :: wr := fun b hb => List.mem_cons_of_mem _ hb
  intro k
  induction k with
  | zero =>
    intro i s hk' hi hst hS hR
    have hin : i = n := by omega
    subst hin
    refine codeAny_builtin F.entry_set_update_loop ?_
    rw [Around.under_plainId F.plain_set_update_loop _]
    show wpAny _ A.in1 (pyNext (.ref I) >>= _) _ _ s
    refine wpAny_bind (W.done s _ _ hst fun s' hm => ?_)
    show wpAny _ A.in1 (ret Value.none) _ _ s'
    have e : xs.take i = xs := List.take_of_length_le (by omega)
    rw [e] at hS
    exact wpAny_pure (hR s' (hm.mono hsub) (hS.at fun o e => hm.heap S o hSw e))
  | succ k ih =>
    intro i s hk' hi hst hS hR
    have hlt : i < n := by omega
    refine codeAny_builtin F.entry_set_update_loop ?_
    rw [Around.under_plainId F.plain_set_update_loop _]
    show wpAny _ A.in1 (pyNext (.ref I) >>= _) _ _ s
    refine wpAny_bind (W.item i s _ _ hlt hst fun v s' hP hst' hm => ?_)
    obtain ⟨z, t, hz, rfl⟩ := hval i v hP
    have hS' : SetS w s'.heap S (dedS (xs.take i)) := hS.at fun o e => hm.heap S o hSw e
    show wpAny _ A.in1 (holding [Value.str z t] (setAdd S (.str z t)) >>= _) _ _ s'
    refine wpAny_bind (wpAny_holding ?_)
    unfold setAdd
    refine wpAny_holding ?_
    refine wpAny_bind ((strKind P w).pyHash (k := z) (strKind_is _ _ _ _) ?_)
    have hlen := ded_len (xs.take i)
    rw [List.length_take] at hlen
    refine setS_hashed (s := { s' with toks := s'.toks + 1 }) hS' (by omega) fun h' hsb hS2 => ?_
    have hS3 : SetS w h' S (dedS (xs.take (i + 1))) := by
      have e : dedS (xs.take (i + 1)) = addS (dedS (xs.take i)) z := by
        rw [List.take_add_one, hz]
        show (xs.take i ++ [z]).foldl addS [] = _
        rw [List.foldl_append]
        rfl
      rw [e]
      exact hS2
    refine wpAny_pure ⟨plainId_quiet F.plain_set_update_loop _, ih (i + 1) _ (by omega) hlt (W.frame _ s' _ _ hst' (Nat.le_succ _) fun b hb o e => ?_) hS3 fun s'' hm'' hS'' => ?_⟩
    · rw [hsb.2 b (fun h : b = S => hSf (by rw [← h]; exact hb))]; exact e
    · refine hR s'' (Moved.trans W.gtrans ((hm.mono hsub).then_heap (Nat.le_succ _) fun b o hb e => ?_) hm'') hS''
      rw [hsb.2 b (fun h : b = S => hb (by rw [h]; exact List.mem_cons_self))]; exact e
set_option maxRecDepth 100000 in
set_option maxHeartbeats 3200000 in
theorem call_setL {l : Addr} {items : Array Value} (xs : List Str) {Q : Value → Shared → Prop} (hh : A.handled = none) (hl : s.heap.IsList l items) (hit : StrsAre items.toList xs) (hb : xs.length + 1 < scanBound)
    (h : ∀ (h' : Heap) (tk : Nat), SetS w h' s.heap.objs.size (dedS xs) → (∀ b o, s.heap.get? b = some o → h'.get? b = some o) → Q (.ref s.heap.objs.size) { s with heap := h', toks := tk }) :
    wpAny (model P w) A (call (.type "set") [.ref l]) Q E s := by
  have hisz : items.size = xs.length := by
    rw [← StrsAre.len_eq hit, Array.length_toList]
  obtain ⟨c, tl, hmro⟩ := F.called_set.mro
  have hmade := F.called_set.made
  have hsub := F.called_set.sub
  refine wpAny_call (codeAny_of_tree ?_)
  show wpAny _ _ (callAny (.type "set") _) _ _ _
  refine wpAny_pure ⟨Code.quiet_builtin _ (by decide +kernel), codeAny_builtin F.entry_type_call ?_⟩
  rw [Around.under_plain (weight_type_call_type "set" [.ref l] []) rfl]
  have h1 := F.called_set.notType
  have h2 := F.called_set.canCreate
  have hct := F.typeCall_set_1 (.ref l)
  repeat (any_goals (first | assumption | wp_step))
  refine codeAny_mono (code_set_led1 (.ref l) (E := E) (Q₁ := fun obj s₁ => obj = .ref s.heap.objs.size ∧ s₁ = { s with heap := s.heap.push { cls := .type "set", dict := none, data := .set #[] 0 (.fresh 0 0 (!w.params.followText "set-order")) } }) ⟨rfl, rfl⟩) fun r s₁ hr => ?_
  cases r with
  | error e => exact hr
  | ok fl =>
    cases fl with
    | ret obj =>
      obtain ⟨rfl, rfl⟩ := hr
      have hS : (s.heap.push { cls := .type "set", dict := none, data := .set #[] 0 (.fresh 0 0 (!w.params.followText "set-order")) }).get? s.heap.objs.size = some { cls := .type "set", dict := none, data := .set #[] 0 (.fresh 0 0 (!w.params.followText "set-order")) } := Heap.get?_push_size _ rfl
      have hT : Shared.TypeIs { s with heap := s.heap.push { cls := .type "set", dict := none, data := .set #[] 0 (.fresh 0 0 (!w.params.followText "set-order")) } } (.ref s.heap.objs.size) "set" := ⟨_, hS, rfl⟩
      have hli := F.called_set.init.lookup
      have hbi := F.called_set.init.bind (.ref s.heap.objs.size)
      repeat (any_goals (first | assumption | wp_step))
      refine codeAny_mono (codeAny_call_builtin (R := wants (fun r s₂ => r = .none ∧ ∃ h' tk, s₂ = { s with heap := h', toks := tk } ∧ SetS w h' s.heap.objs.size (dedS xs) ∧
          (∀ b o, s.heap.get? b = some o → h'.get? b = some o)) E) F.called_set.init.plain F.entry_set_init (check_set_init_1 hT ?_)) fun r₂ s₂ hr₂ => ?_
      · obtain ⟨ol, hol, hcl, nl, hdl⟩ := hl
        obtain ⟨ocls, odict, odata, oslots⟩ := ol
        simp only at hcl hdl
        subst hcl; subst hdl
        have hol' : (s.heap.push { cls := .type "set", dict := none, data := .set #[] 0 (.fresh 0 0 (!w.params.followText "set-order")) }).get? l = some { cls := .type "list", dict := odict, data := .seq items nl, slots := oslots } := Heap.get?_push_of_some _ hol
        have hsls := F.sub_list_set
        have hslf := F.sub_list_frozenset
        have hne : (Value.type "list" == Value.type "dict") = false := by decide
        have hl1 : (s.heap.push { cls := .type "set", dict := none, data := .set #[] 0 (.fresh 0 0 (!w.params.followText "set-order")) }).IsList l items := ⟨_, hol', rfl, nl, rfl⟩
        unfold Builtin.«set.__init__» noKeywords Builtin.Frozenset.updateFrom
        generalize hPI : pyIter = PI
        wp_walk
        subst hPI
        refine wpAny_pyIter_list hl1 ?_
        refine wpAny_bind (wpAny_runValue ?_)
        have hlS : l < s.heap.objs.size := Heap.lt_size hol
        have hh3 : A.in1.in1.in1.handled = none := by simp [hh]
        have hneI : l ≠ (s.heap.push { cls := .type "set", dict := none, data := .set #[] 0 (.fresh 0 0 (!w.params.followText "set-order")) }).objs.size := by
          rw [Heap.size_push]; exact Nat.ne_of_lt (Nat.lt_succ_of_lt hlS)
        have hSf : s.heap.objs.size ∉ [(s.heap.push { cls := .type "set", dict := none, data := .set #[] 0 (.fresh 0 0 (!w.params.followText "set-order")) }).objs.size, l] := by
          rw [Heap.size_push]; simp only [List.mem_cons, List.mem_singleton, List.not_mem_nil, or_false, not_or]
          exact ⟨Nat.ne_of_lt (Nat.lt_succ_self _), Nat.ne_of_gt hlS⟩
        have hval : ∀ (i : Nat) (v : Value), items[i]? = some v → ∃ k t, xs[i]? = some k ∧ v = .str k t := fun i v hv => by
          have q : items.toList[i]? = some v := by rw [Array.getElem?_toList]; exact hv
          obtain ⟨t, e⟩ := SS.strs_at hit i v q
          have hlt : i < xs.length := by
            rw [← hisz]
            exact (Array.getElem?_eq_some_iff.mp hv).1
          refine ⟨xs[i], t, List.getElem?_eq_getElem hlt, ?_⟩
          rw [e, List.getD_eq_getElem?_getD, List.getElem?_eq_getElem hlt]
          rfl
        refine setS_loop ((Walks.list hh3 _ l hneI items).toS) s.heap.objs.size
          hSf xs hisz hb hval (items.size - 0) 0 _ (by omega) (Nat.zero_le _)
          ⟨⟨_, Heap.get?_push_size _ rfl, rfl, rfl⟩, (hl1.push _)⟩ ?hS0 ?hR
        case hS0 =>
          have hget : ((s.heap.push { cls := .type "set", dict := none, data := .set #[] 0 (.fresh 0 0 (!w.params.followText "set-order")) }).push { cls := .type "list_iterator", data := .fields #[.ref l, .int 0 0] }).get? s.heap.objs.size
              = some { cls := .type "set", dict := none, data := .set #[] 0 (.fresh 0 0 (!w.params.followText "set-order")) } := Heap.get?_push_of_some _ hS
          exact setS_fresh hget
        case hR =>
          intro s' hm hS'
          obtain ⟨h', g2, d', tk', os'⟩ := s'
          have eg : g2 = s.gens := hm.gens
          have ed : d' = s.drawn := hm.drawn
          have eo : os' = s.os := hm.os
          subst eg; subst ed; subst eo
          show wpAny _ _ _ _ _ _
          refine wpAny_pure ?_
          show wpAny _ _ (ret Value.none) _ _ _
          refine wpAny_pure ⟨rfl, h', tk', rfl, hS', fun b o e => ?_⟩
          have hbl : b < s.heap.objs.size := Heap.lt_size e
          have hb1 : b ≠ s.heap.objs.size := Nat.ne_of_lt hbl
          have hb2 : b ≠ (s.heap.push { cls := .type "set", dict := none, data := .set #[] 0 (.fresh 0 0 (!w.params.followText "set-order")) }).objs.size := by
            rw [Heap.size_push]; exact Nat.ne_of_lt (Nat.lt_succ_of_lt hbl)
          exact hm.heap b o (by simp only [List.mem_cons, List.mem_singleton, List.not_mem_nil, or_false, not_or]; exact ⟨hb1, hb2⟩) (Heap.get?_push_of_some _ (Heap.get?_push_of_some _ e))
      · cases r₂ with
        | error e => exact hr₂
        | ok fl₂ =>
          cases fl₂ with
          | ret r =>
            obtain ⟨rfl, h', tk, rfl, hS', hk'⟩ := hr₂
            repeat (any_goals (first | assumption | wp_step))
            exact h _ _ hS' hk'
          | _ => exact hr₂.elim
    | _ => exact hr.elim
end
/-! ### the rules -/
/-- the set of texts at a -/
def SetSO (w : World) (a : Addr) (L : List Str) : HO := .ext fun h => SetS w h a L
section
variable {X : Cx}
theorem setSO_new {P : Program} {w : World} {H : Hp} {h : Heap} {a : Addr} {L : List Str} (R : SetS w h a L) : ObjOk P w H h a (SetSO w a L) := by
  have ⟨o, _, _, _, ho, _⟩ := R
  exact ⟨R, ⟨o, ho⟩, fun h1 h2 p k => SetS.at p k⟩
/-- set(xs), a list of texts -/
def rSetS (K : PySem.W.Frag) (w : World) : List V → Hp → VK → Prop := fun vs H Q => ∃ (l : Addr) (xs : List Str), vs = [.ref l] ∧ SqL K H l (xs.map V.str) ∧ xs.length ≤ 2000 ∧ ∀ p, H p = none → Q (.ref p) (upd H p (SetSO w p (dedS xs)))
theorem cr_setS (K : PySem.W.Frag) (w : World) (hc : X.calm = true) (hK : X.K = K := by rfl) (hw : X.w = w := by rfl) : CallR X (.type "set") (rSetS K w) := by
  subst hK
  subst hw
  intro pins s σ H vs us Q I r h
  obtain ⟨l, xs, rfl, hl, hz, q⟩ := h
  rw [Vals.ref1 r]
  obtain ⟨its, rv, pl, _⟩ := I.list hl
  refine call_setL xs (I.ok.hd hc) pl.isList (by simpa using strsAre_of rv) (by unfold scanBound; omega) fun h' tk R k => ?_
  exact ⟨.ref s.heap.objs.size, upd H s.heap.objs.size (SetSO X.w s.heap.objs.size (dedS xs)), I.laid (t' := tk) k (Nat.le_refl _) (setSO_new R), rfl, q _ (I.hok.fresh (Nat.le_refl _))⟩
/-- len(set) -/
def rLenSet (w : World) : List V → Hp → VK → Prop := fun vs H Q => ∃ (a : Addr) (L : List Str), vs = [.ref a] ∧ H a = some (SetSO w a L) ∧ Q (.int (L.length : Nat)) H
theorem cr_lenSetS (w : World) (hw : X.w = w := by rfl) : CallR X (.builtin "len") (rLenSet w) := by
  subst hw
  intro pins s σ H vs us Q I r h
  obtain ⟨a, L, rfl, ha, q⟩ := h
  rw [Vals.ref1 r]
  have R : SetS X.w s.heap a L := (I.hok a _ ha).1
  obtain ⟨o, es, ep, t, ho, hex, hd, g, pm, nd, hb, hf, _⟩ := R
  have hn : es.size = L.length := by rw [← pm.length_eq, List.length_map, Array.length_toList]
  exact call_len_set ho hex hd hf (by unfold scanBound at hb; omega) ⟨.int (L.length : Nat), H, I.tok _, ⟨_, by rw [hn]⟩, q⟩
theorem strs_of : ∀ (l : List Value), (∀ v ∈ l, ∃ k tk, v = Value.str k tk) → StrsAre l (l.map fun v => match v with | .str k _ => k | _ => Str.empty)
  | [], _ => .nil
  | v :: l, h => by
    obtain ⟨k, tk, rfl⟩ := h v List.mem_cons_self
    exact .cons k tk (strs_of l fun u hu => h u (List.mem_cons_of_mem _ hu))
/-- sorted(set) -/
def rSortedSS (w : World) : List V → Hp → VK → Prop := fun vs H Q => ∃ (a : Addr) (L : List Str), vs = [.ref a] ∧ H a = some (SetSO w a L) ∧ ∀ ys p, ys.Perm L → sortedS ys = true → H p = none → Q (.ref p) (upd H p (.lst (ys.map V.str)))
theorem cr_sortedSS (w : World) (hc : X.calm = true) (hw : X.w = w := by rfl) : CallR X (.builtin "sorted") (rSortedSS w) := by
  subst hw
  intro pins s σ H vs us Q I r h
  obtain ⟨a, L, rfl, ha, q⟩ := h
  rw [Vals.ref1 r]
  have R : SetS X.w s.heap a L := (I.hok a _ ha).1
  obtain ⟨o, es, ep, t, ho, hex, hd, g, pm0, nd, hb, hf, hr, hl⟩ := R
  refine Calls.call_function_entry kind_sorted plain_sorted entry_sorted (args_sorted1 _) ?_
  unfold Builtin.«sorted»
  refine wpAny_bind (m := checkCount "sorted" 1 1 _) (wpAny_pure ?_)
  refine wpAny_bind (collect_set (A := X.A.in1) (I.ok.hd hc) ⟨o, ho, hex.1, hd⟩ hf hb hr hl fun s1 vs k1 hz g1 o1 pm => ?_)
  have hvl : vs.length < 4096 := by
    rw [pm.length_eq, List.length_map, Array.length_toList]
    exact hb
  have hS := strs_of vs fun v hv => by
    obtain ⟨e, he, q⟩ := List.mem_map.mp (pm.mem_iff.mp hv)
    obtain ⟨k, tk, h1, _⟩ := g e he
    exact ⟨k, tk, by rw [← q]; exact h1⟩
  have pk : (vs.map fun v => match v with | .str k _ => k | _ => Str.empty).Perm L := by
    refine (pm.map _).trans ?_
    rw [List.map_map]
    exact pm0
  have hz2 : vs.length ≤ sizeLine := by rw [sizeLine_eq]; omega
  refine wpAny_bind (wpAny_newList ?_ hz2)
  have hoL : (s1.heap.push (seqObj "list" vs.toArray 0)).get? s1.heap.objs.size = some (seqObj "list" vs.toArray 0) := Heap.get?_push_size _ rfl
  refine wpAny_bind (wpAny_holding (wpAny_call_entry slot_list_sort ⟨_, hoL, rfl⟩ entry_list_sort (list_sort_treeKAny strKind_oneLt hoL hS.keysOf (fun v₁ v₂ rest e => keyKind_strs (by rw [← e]; exact hS)) hz2 fun st' a1 a2 => ⟨_, rfl, ?_⟩) (args_list_sort _)))
  obtain ⟨ys, b1, b2, b3⟩ := sorted_out_str hS a1 a2
  obtain ⟨c, hc'⟩ := sortedHeap_at (vs := vs) (out := (arrOf st').map (·.2)) hoL
  refine wpAny_pure ?_
  have hp : s.heap.objs.size ≤ s1.heap.objs.size := hz
  have hn : H s1.heap.objs.size = none := I.hok.fresh hp
  have hlen : (ys.map V.str).length ≤ sizeLine := by
    rw [List.length_map, b2.length_eq, List.length_map]
    exact hz2
  have kk : ∀ b u, s.heap.get? b = some u → (sortedHeap (s1.heap.push (seqObj "list" vs.toArray 0)) s1.heap.objs.size vs ((arrOf st').map (·.2))).get? b = some u := fun b u e => by
    have q := k1 b u e
    have hlt := Heap.lt_size q
    rw [sortedHeap_old (Nat.ne_of_lt hlt) (by rw [size_push']; exact Nat.lt_succ_of_lt hlt)]
    exact Heap.get?_push_of_some _ q
  have J : Inv X pins σ (upd H s1.heap.objs.size (.lst (ys.map V.str))) { s with heap := sortedHeap (s1.heap.push (seqObj "list" vs.toArray 0)) s1.heap.objs.size vs ((arrOf st').map (·.2)), gens := s1.gens, drawn := s1.drawn, toks := s1.toks } :=
    I.call (ch := []) (Un.laid kk hp hn) (I.hok.laid kk hp ⟨hlen, _, c, vals_of_strs b1, hc'⟩) (by rw [g1]; exact I.bare) (fun _ z => nomatch z)
  have e : ({ s1 with heap := sortedHeap (s1.heap.push (seqObj "list" vs.toArray 0)) s1.heap.objs.size vs ((arrOf st').map (·.2)) } : Shared) = { s with heap := sortedHeap (s1.heap.push (seqObj "list" vs.toArray 0)) s1.heap.objs.size vs ((arrOf st').map (·.2)), gens := s1.gens, drawn := s1.drawn, toks := s1.toks } := by
    cases s1
    cases s
    cases o1
    rfl
  rw [e]
  exact ⟨_, rfl, .ref s1.heap.objs.size, _, J, rfl, q ys _ (b2.trans pk) b3 hn⟩
end
end Ly

set_option maxRecDepth 100000
set_option maxHeartbeats 4000000
/-! the reader takes a row -/
namespace Ly
open PySem PySem.Spec PyProof.Rows L2
/-- all stands but the objects at l -/
def SameL (l : List Addr) (H H' : Hp) : Prop := ∀ b u, b ∉ l → H b = some u → H' b = some u
theorem sl_of {l : List Addr} {H H' : Hp} (s : Same H H') : SameL l H H' := fun b u _ e => s b u e
theorem SameL.refl (l : List Addr) (H : Hp) : SameL l H H := fun _ _ _ e => e
theorem SameL.trans {l : List Addr} {H H1 H2 : Hp} (a : SameL l H H1) (b : SameL l H1 H2) : SameL l H H2 := fun c u n e => b c u n (a c u n e)
theorem sl_put {l : List Addr} {H H' : Hp} {p : Addr} {o : HO} (s : SameL l H H') (hp : p ∈ l) : SameL l H (upd H' p o) := fun b u n e => by
  have nb : b ≠ p := fun z => n (by rw [z]; exact hp)
  rw [upd_ne nb]
  exact s b u n e
theorem sl_new {l : List Addr} {H H' : Hp} {q : Addr} {o : HO} (s : SameL l H H') (hq : H' q = none) : SameL l H (upd H' q o) := s.trans (sl_of (same_new hq))
theorem sl_sx {l : List Addr} {p : Addr} {H H' : Hp} (s : SameX p H H') (hp : p ∈ l) : SameL l H H' := fun b u n e => s b u (fun z => n (by rw [z]; exact hp)) e
theorem sl_mono {l m : List Addr} {H H' : Hp} (s : SameL l H H') (h : ∀ a ∈ l, a ∈ m) : SameL m H H' := fun b u n e => s b u (fun z => n (h b z)) e
theorem sl_same {l : List Addr} {H H1 H2 : Hp} (s : Same H H1) (x : SameL l H1 H2) (hl : ∀ a ∈ l, H a = none) : Same H H2 := fun b u e => x b u (fun z => by
  rw [hl b z] at e
  cases e) (s b u e)
def NoT (l : List Addr) (H : Hp) : Prop := ∀ b ∈ l, ∀ xs, ¬ Rd H b (.tup xs)
theorem sl_sqt {K : PySem.W.Frag} {l : List Addr} {H H' : Hp} {q : Addr} {xs : List V} (s : SameL l H H') (n : NoT l H) (h : SqT K H q xs) : SqT K H' q xs := by
  rcases h with h | h
  · have hq : q ∉ l := fun z => n q z xs h
    rcases h with h | ⟨ob, h⟩
    · exact .inl (.inl (s _ _ hq h))
    · exact .inl (.inr ⟨ob, s _ _ hq h⟩)
  · exact .inr h
theorem noT_ins {H : Hp} {x : Addr} {C dx : Addr} {fs : List (Str × V)} (h : H x = some (.ins C dx fs)) : ∀ xs, ¬ Rd H x (.tup xs) := fun xs r => by
  rcases r with r | ⟨ob, r⟩ <;> (rw [h] at r; cases r)
theorem noT_lst {H : Hp} {x : Addr} {ys : List V} (h : H x = some (.lst ys)) : ∀ xs, ¬ Rd H x (.tup xs) := fun xs r => by
  rcases r with r | ⟨ob, r⟩ <;> (rw [h] at r; cases r)
theorem noT_dT {H : Hp} {x : Addr} {ys : List (List Key × V)} (h : H x = some (.dT ys)) : ∀ xs, ¬ Rd H x (.tup xs) := fun xs r => by
  rcases r with r | ⟨ob, r⟩ <;> (rw [h] at r; cases r)
theorem ReaderAt.noT {K : PySem.W.Frag} {C : Addr} {H : Hp} {x dx i o p w : Addr} {r : RSt} (h : ReaderAt K C H x dx i o p w r) : NoT [x, p, w] H := fun b hb => by
  obtain ⟨xs, hx, _⟩ := h.parts
  obtain ⟨ys, hy, _⟩ := h.wires
  rcases List.mem_cons.mp hb with rfl | hb
  · exact noT_ins h.obj
  rcases List.mem_cons.mp hb with rfl | hb
  · exact noT_lst hx
  rcases List.mem_cons.mp hb with rfl | hb
  · exact noT_dT hy
  · cases hb
theorem dp_pair {K : PySem.W.Frag} {H : Hp} {a : Addr} {p : Prt} (h : SqT K H a [.str p.1, .str p.2]) : Dp K H (.ref a) (dPair p) := dp_strs (xs := [p.1, p.2]) h
theorem sl_pairs {K : PySem.W.Frag} {l : List Addr} {H H' : Hp} (s : SameL l H H') (n : NoT l H) : ∀ {xs : List V} {ps : List Prt}, DpAll K H xs (ps.map dPair) → DpAll K H' xs (ps.map dPair)
  | _, [], .nil => .nil
  | _, q :: r, .cons h hs => by
    obtain ⟨a, rfl, ha⟩ := dp_pair_inv h
    exact .cons (dp_pair (sl_sqt s n ha)) (sl_pairs s n hs)
theorem ReaderAt.ne {K : PySem.W.Frag} {C : Addr} {H : Hp} {x dx i o p w : Addr} {r : RSt} (h : ReaderAt K C H x dx i o p w r) : x ≠ p ∧ x ≠ w ∧ p ≠ w := by
  obtain ⟨xs, hx, _⟩ := h.parts
  obtain ⟨ys, hy, _⟩ := h.wires
  have ho := h.obj
  refine ⟨fun e => ?_, fun e => ?_, fun e => ?_⟩
  · subst e
    rw [hx] at ho
    cases ho
  · subst e
    rw [hy] at ho
    cases ho
  · subst e
    rw [hy] at hx
    cases hx
theorem paired_imp {α β : Type} {R S : α → β → Prop} (f : ∀ x y, R x y → S x y) : ∀ {xs : List α} {ys : List β}, Paired R xs ys → Paired S xs ys
  | _, _, .nil => .nil
  | _, _, .cons h t => .cons (f _ _ h) (paired_imp f t)
theorem ReaderAt.same {K : PySem.W.Frag} {C : Addr} {H H' : Hp} {x dx i o p w : Addr} {r : RSt} (h : ReaderAt K C H x dx i o p w r) (s : Same H H') : ReaderAt K C H' x dx i o p w r := by
  obtain ⟨xs, hx, hd⟩ := h.parts
  obtain ⟨ys, hy, hp⟩ := h.wires
  exact ⟨s _ _ h.obj, same_sqt s h.ins, same_sqt s h.outs, ⟨xs, s _ _ hx, same_dps s hd⟩, ⟨ys, s _ _ hy, paired_imp (fun _ _ z => ⟨z.1, by
    obtain ⟨t, e, ht⟩ := z.2
    exact ⟨t, e, same_sqt s ht⟩⟩) hp⟩⟩
/-! ### o.f, a target among others -/
def gFld (K : PySem.W.Frag) (to : TE) (f : Str) : TG := fun v σ H Q => to σ H fun x H1 => ∃ a C dx fs, x = .ref a ∧ H1 a = some (.ins C dx fs) ∧ Cls K C ∧ NoAttr K C f ∧ fs.length < 1000 ∧ Q σ (upd H1 a (.ins C dx (putF f v fs)))
theorem pg_fld {X : Cx} {K : PySem.W.Frag} {o : Expr} {f : Str} {pos : Pos} {to : TE} (ho : PE X o to) (hK : X.K = K := by rfl) : PG X (.Attribute o f pos) (gFld K to f) := by
  subst hK
  refine ⟨fun pins s σ H v u Q I r h => ?_⟩
  refine PySem.W.kas_attr (thn (ho.run pins s σ H _ I h) fun ov s1 ⟨x, H1, I1, rx, a, C, dx, fs, ex, ea, c, n, l, q⟩ => ?_)
  subst ex
  obtain rfl : ov = Value.ref a := rx
  exact setattr_ok I1 ea c n l r fun s2 I2 => ⟨σ, _, I2, q⟩
/-! ### one row -/
def takePartR (r : RSt) (hs : List Str) : Option RSt :=
  match hs with
  | [a, b] => if (nameOk a && blockOk b && (r.wires.length == 0) && !(r.parts.length == 16) && !decide (a ∈ r.parts.map (·.1))) = true then some { r with parts := r.parts ++ [(a, b)] } else none
  | _ => none
def takeWireR (r : RSt) (hs : List Str) : Option RSt :=
  match hs with
  | [a, b] =>
    match portOf r.parts r.outs a, portOf r.parts r.ins b with
    | some t, some s => if t ∈ r.wires.map (·.1) then none else some { r with wires := r.wires ++ [(t, s)] }
    | _, _ => none
  | _ => none
/-- what is read of a head, its signs seen to -/
def headPorts (h : Str) : List Str := if h = "" then [] else Txt.split h " "
def headOut (h : Str) : List Str := if h = "" then [] else Txt.split (cutS h (some 1) none) " "
def headFin (n : Str) (ins outs : List Str) : Option (Str × List Str × List Str) :=
  if (nameOk n && !decide (n ∈ portNames) && (ins ++ outs).all nameOk && decide (max ins.length outs.length ≤ 8) && decide (ins ++ outs).Nodup) = true then some (n, ins, outs) else none
def headEnd (n ps : Str) : Option (Str × List Str × List Str) :=
  match Txt.split ps ";" with
  | [h0, h1] => if (decide (h1 = "") || Txt.startswith h1 " ") = true then headFin n (headPorts h0) (headOut h1) else none
  | _ => none
def headMid (m : Str) : Option (Str × List Str × List Str) :=
  match Txt.split m "(" with
  | [n, ps] => headEnd n ps
  | _ => none
def headOf (z : Str) : Option (Str × List Str × List Str) :=
  if (Txt.startswith z "block " && Txt.endswith z ")" && decide (Txt.count z "(" = 1) && decide (Txt.count z ";" = 1)) = true then headMid (cutS z (some 6) (some (-1))) else none
def takeR (r : RSt) (z : Str) : Option RSt :=
  match r.name with
  | none => (headOf z).map fun h => { r with name := some h.1, ins := h.2.1, outs := h.2.2 }
  | some _ =>
    if z = "end" then some { r with done := true }
    else if Txt.startswith z "  part " = true then takePartR r (Txt.split (cutS z (some 7) none) " = ")
    else if Txt.startswith z "  " = true then takeWireR r (Txt.split (cutS z (some 2) none) " <- ")
    else none
/-- a reader takes: what stands, what is answered -/
def RTook (K : PySem.W.Frag) (C : Addr) (H : Hp) (x dx p w : Addr) (o : Option RSt) (Q : VK) : Prop := ∀ H', SameL [x, p, w] H H' →
  match o with
  | none => Q (.bl false) H'
  | some r' => ∀ i' o', ReaderAt K C H' x dx i' o' p w r' → Q (.bl true) H'
structure RFew (r : RSt) : Prop where
  p : r.parts.length ≤ 16
  w : r.wires.length ≤ 14000
def spTakePart (K : PySem.W.Frag) (C : Addr) : Sp := fun vs H Q _ => ∃ (x dx i o p w h : Addr) (r : RSt) (hs : List Str), vs = [.ref x, .ref h] ∧ ReaderAt K C H x dx i o p w r ∧ RFew r ∧ SqL K H h (hs.map V.str) ∧ (∀ z ∈ hs, z.length ≤ 100100) ∧
  RTook K C H x dx p w (takePartR r hs) Q
def spTakeWire (K : PySem.W.Frag) (C : Addr) : Sp := fun vs H Q _ => ∃ (x dx i o p w h : Addr) (r : RSt) (hs : List Str), vs = [.ref x, .ref h] ∧ ReaderAt K C H x dx i o p w r ∧ RFew r ∧ SqL K H h (hs.map V.str) ∧ (∀ z ∈ hs, z.length ≤ 100100) ∧
  RTook K C H x dx p w (takeWireR r hs) Q
def spTakeHead (K : PySem.W.Frag) (C : Addr) : Sp := fun vs H Q _ => ∃ (x dx i o p w : Addr) (r : RSt) (z : Str), vs = [.ref x, .str z] ∧ ReaderAt K C H x dx i o p w r ∧ r.name = none ∧ z.length ≤ 100100 ∧
  RTook K C H x dx p w ((headOf z).map fun h => { r with name := some h.1, ins := h.2.1, outs := h.2.2 }) Q
def spTakeRow (K : PySem.W.Frag) (C : Addr) : Sp := fun vs H Q _ => ∃ (x dx i o p w : Addr) (r : RSt) (z : Str), vs = [.ref x, .str z] ∧ ReaderAt K C H x dx i o p w r ∧ RFew r ∧ z.length ≤ 100100 ∧
  RTook K C H x dx p w (takeR r z) Q
/-! ### dicts with other keys -/
section
variable {κ : Type} [DecidableEq κ]
theorem valG_some {kvs : List (κ × V)} {k : κ} : (valV kvs k).isSome = kvs.any fun p => decide (p.1 = k) := by
  unfold valV
  rw [Option.isSome_map]
  induction kvs with
  | nil => rfl
  | cons p r ih =>
    rw [List.find?_cons, List.any_cons]
    cases h : decide (p.1 = k) with
    | true => rfl
    | false => rw [Bool.false_or]; exact ih
theorem putK_new {kvs : List (κ × V)} {k : κ} {v : V} (h : (valV kvs k).isSome = false) : putK kvs k v = kvs ++ [(k, v)] := by
  rw [valG_some] at h
  unfold putK
  rw [if_neg (by rw [h]; simp)]
end
theorem keyP_inj {a b : Prt} (h : keyP a = keyP b) : a = b := by
  unfold keyP at h
  have h1 := (List.cons.inj h).1
  have h2 := (List.cons.inj (List.cons.inj h).2).1
  exact Prod.ext (Sum.inr.inj h1) (Sum.inr.inj h2)
theorem wires_in {K : PySem.W.Frag} {H : Hp} {ws : List (Prt × Prt)} {kvs : List (List Key × V)} (h : Paired (fun (x : Prt × Prt) (q : List Key × V) => q.1 = keyP x.1 ∧ ∃ t, q.2 = V.ref t ∧ SqT K H t [.str x.2.1, .str x.2.2]) ws kvs) (t : Prt) :
    (valV kvs (keyP t)).isSome = decide (t ∈ ws.map (·.1)) := by
  rw [valG_some]
  induction h with
  | nil => simp
  | cons a _ ih =>
    rename_i x q xs ys _
    rw [List.any_cons, ih, a.1, List.map_cons]
    by_cases e : x.1 = t
    · rw [decide_eq_true (by rw [e]), Bool.true_or, decide_eq_true (by rw [e]; exact List.mem_cons_self)]
    · rw [decide_eq_false fun z => e (keyP_inj z), Bool.false_or]
      by_cases h2 : t ∈ xs.map (·.1)
      · rw [decide_eq_true h2, decide_eq_true (List.mem_cons_of_mem _ h2)]
      · rw [decide_eq_false h2, decide_eq_false fun z => (List.mem_cons.mp z).elim (fun e' => e e'.symm) h2]
theorem paired_snoc {α β : Type} {R : α → β → Prop} : ∀ {xs : List α} {ys : List β} {x : α} {y : β}, Paired R xs ys → R x y → Paired R (xs ++ [x]) (ys ++ [y])
  | _, _, _, _, .nil, h => .cons h .nil
  | _, _, _, _, .cons h t, h2 => .cons h (paired_snoc t h2)
theorem paired_len {α β : Type} {R : α → β → Prop} : ∀ {xs : List α} {ys : List β}, Paired R xs ys → xs.length = ys.length
  | _, _, .nil => rfl
  | _, _, .cons _ t => congrArg (· + 1) (paired_len t)
theorem dps_snoc {K : PySem.W.Frag} {H : Hp} : ∀ {xs : List V} {ds : List PyData} {v : V} {d : PyData}, DpAll K H xs ds → Dp K H v d → DpAll K H (xs ++ [v]) (ds ++ [d])
  | _, _, _, _, .nil, h => .cons h .nil
  | _, _, _, _, .cons h t, h2 => .cons h (dps_snoc t h2)
end Ly

set_option maxRecDepth 100000
set_option maxHeartbeats 4000000
/-! texts: what rows say -/
namespace Ly
open PySem PySem.Spec PyProof.Rows L2
abbrev sl (z : Str) : List Nat := z.cps.toList
theorem sl_app (a b : Str) : sl (a ++ b) = sl a ++ sl b := by
  show (a.cps ++ b.cps).toList = _
  rw [Array.toList_append]
theorem sl_inj {a b : Str} (h : sl a = sl b) : a = b := by
  cases a
  cases b
  exact congrArg Str.mk (Array.toList_inj.mp h)
theorem sl_len (a : Str) : (sl a).length = a.length := by
  show a.cps.toList.length = a.cps.size
  simp
theorem starts_iff {x y : Str} : Txt.startswith x y = true ↔ ∃ r, x = y ++ r := by
  unfold Txt.startswith
  rw [Bool.and_eq_true, decide_eq_true_eq, StrLaws.subAt_eq, List.drop_zero]
  constructor
  · rintro ⟨h1, h2⟩
    have e : (sl x).take y.length = sl y := eq_of_beq h2
    refine ⟨⟨((sl x).drop y.length).toArray⟩, sl_inj ?_⟩
    rw [sl_app]
    show sl x = sl y ++ (sl x).drop y.length
    rw [← e, List.take_append_drop]
  · rintro ⟨r, rfl⟩
    refine ⟨by rw [PySem.Str.length_append]; omega, ?_⟩
    show ((sl (y ++ r)).take y.length == sl y) = true
    rw [sl_app, ← sl_len y, List.take_left]
    exact beq_self_eq_true _
theorem ends_iff {x y : Str} : Txt.endswith x y = true ↔ ∃ r, x = r ++ y := by
  unfold Txt.endswith
  rw [Bool.and_eq_true, decide_eq_true_eq, StrLaws.subAt_eq]
  constructor
  · rintro ⟨h1, h2⟩
    have e : ((sl x).drop (x.length - y.length)).take y.length = sl y := eq_of_beq h2
    have hl : ((sl x).drop (x.length - y.length)).length = y.length := by rw [List.length_drop, sl_len]; omega
    rw [List.take_of_length_le (by omega)] at e
    refine ⟨⟨((sl x).take (x.length - y.length)).toArray⟩, sl_inj ?_⟩
    rw [sl_app]
    show sl x = (sl x).take (x.length - y.length) ++ sl y
    rw [← e, List.take_append_drop]
  · rintro ⟨r, rfl⟩
    have hl : (r ++ y : Str).length = r.length + y.length := PySem.Str.length_append r y
    refine ⟨by omega, ?_⟩
    show (((sl (r ++ y)).drop ((r ++ y).length - y.length)).take y.length == sl y) = true
    rw [sl_app, hl, show r.length + y.length - y.length = (sl r).length by rw [sl_len]; omega, List.drop_left, ← sl_len y, List.take_length]
    exact beq_self_eq_true _
theorem cut_pre {a b : Str} {n : Nat} (h : a.length = n) : cutS (a ++ b) (some (n : Int)) none = b := by
  refine sl_inj ?_
  have hl : (a ++ b : Str).length = a.length + b.length := PySem.Str.length_append a b
  show ((sl (a ++ b)).drop (HT.sIx (a ++ b).length 0 (some (n : Int)))).take _ = sl b
  rw [HT.sIx_nat, HT.sIx_none, Nat.min_eq_left (by omega), sl_app, ← h, ← sl_len a, List.drop_left]
  refine List.take_of_length_le ?_
  have h1 := sl_len b
  have h2 := sl_len a
  omega
theorem cut_mid {a b c : Str} {n : Nat} (h : a.length = n) (hc : c.length = 1) : cutS (a ++ b ++ c) (some (n : Int)) (some (-1)) = b := by
  refine sl_inj ?_
  have hl : (a ++ b ++ c : Str).length = a.length + b.length + c.length := by rw [PySem.Str.length_append, PySem.Str.length_append]
  show ((sl (a ++ b ++ c)).drop (HT.sIx (a ++ b ++ c).length 0 (some (n : Int)))).take (HT.sIx (a ++ b ++ c).length (a ++ b ++ c).length (some (-1)) - HT.sIx (a ++ b ++ c).length 0 (some (n : Int))) = sl b
  have e1 : HT.sIx (a ++ b ++ c).length (a ++ b ++ c).length (some (-1)) = a.length + b.length := by
    show (if (-1 : Int) < 0 then ((-1 : Int) + ((a ++ b ++ c).length : Int)).toNat else min (-1 : Int).toNat (a ++ b ++ c).length) = _
    rw [if_pos (by decide), hl]
    omega
  rw [HT.sIx_nat, e1, Nat.min_eq_left (by omega), sl_app, sl_app, List.append_assoc, ← h, ← sl_len a, List.drop_left, show (sl a).length + b.length - (sl a).length = (sl b).length by rw [sl_len b]; omega, List.take_left]
/-! ### how many parts -/
theorem spl_count (c : Nat) : ∀ (l acc : List Nat), ((TL.spl [c] 0 acc l).length : Int) = cnt c l + 1
  | [], acc => by
    rw [TL.spl_nil, cnt_nil]
    rfl
  | d :: r, acc => by
    rw [cnt_cons]
    by_cases h : d = c
    · subst h
      have hp : TL.pre [d] (d :: r) = true := TL.pre_self [d] r
      rw [TL.spl_hit hp, if_pos rfl]
      show ((acc :: TL.spl [d] 0 [] r).length : Int) = _
      have := spl_count d r []
      rw [List.length_cons]
      push_cast
      omega
    · rw [TL.spl_miss (TL.pre_of_head [] r h), if_neg h]
      have := spl_count c r (acc ++ [d])
      omega
theorem split_count {x y : Str} {c : Nat} (h : y = ⟨#[c]⟩) (hk : c < 256) : ((Txt.split x y).length : Int) = Txt.count x y + 1 := by
  subst h
  have e := TL.split_spl x ⟨#[c]⟩ (by simp [TL.tl]) (TL.kind_ok (by simp [hk]))
  have e2 := congrArg List.length e
  rw [List.length_map] at e2
  rw [e2, count_cnt]
  exact spl_count c _ _
theorem count_app {x y z : Str} {c : Nat} (h : z = ⟨#[c]⟩) : Txt.count (x ++ y) z = Txt.count x z + Txt.count y z := by
  subst h
  rw [count_cnt, count_cnt, count_cnt, ← cnt_append]
  rw [show (x ++ y : Str).cps.toList = x.cps.toList ++ y.cps.toList from sl_app x y]
theorem mid_of {z : Str} (h1 : Txt.startswith z "block " = true) (h2 : Txt.endswith z ")" = true) : ∃ m, z = "block " ++ m ++ ")" ∧ cutS z (some 6) (some (-1)) = m := by
  obtain ⟨r, rfl⟩ := starts_iff.mp h1
  obtain ⟨q, e⟩ := ends_iff.mp h2
  have e1 := congrArg sl e
  rw [sl_app, sl_app] at e1
  have hb : sl "block " = [98, 108, 111, 99, 107, 32] := by decide +kernel
  have hc : sl ")" = [41] := by decide +kernel
  have hr : sl r ≠ [] := fun er => by
    rw [hb, hc, er, List.append_nil] at e1
    have := congrArg List.getLast? e1
    rw [List.getLast?_append] at this
    simp at this
  have hl : (sl r).getLast hr = 41 := by
    have := congrArg List.getLast? e1
    rw [hc, List.getLast?_append, List.getLast?_append, List.getLast?_eq_some_getLast hr] at this
    simpa using this
  have er : r = ⟨((sl r).dropLast).toArray⟩ ++ ")" := by
    refine sl_inj ?_
    rw [sl_app, hc, ← hl]
    show sl r = (sl r).dropLast ++ [(sl r).getLast hr]
    rw [List.dropLast_concat_getLast hr]
  generalize (⟨((sl r).dropLast).toArray⟩ : Str) = m at er
  subst er
  refine ⟨m, (PySem.Str.append_assoc _ _ _).symm, ?_⟩
  rw [← PySem.Str.append_assoc]
  exact cut_mid (n := 6) (by decide +kernel) (by decide +kernel)
theorem split_mid {z : Str} (h1 : Txt.startswith z "block " = true) (h2 : Txt.endswith z ")" = true) (h3 : Txt.count z "(" = 1) : (Txt.split (cutS z (some 6) (some (-1))) "(").length = 2 := by
  obtain ⟨m, rfl, e⟩ := mid_of h1 h2
  rw [e]
  have hp : ("(" : Str) = ⟨#[40]⟩ := by decide +kernel
  have hs := split_count (x := m) hp (by decide)
  rw [count_app hp, count_app hp] at h3
  have q1 : Txt.count "block " "(" = 0 := by decide +kernel
  have q2 : Txt.count ")" "(" = 0 := by decide +kernel
  rw [q1, q2] at h3
  omega
theorem dInt (n m : Int) : decide (V.int n = V.int m) = decide (n = m) := by
  by_cases h : n = m
  · rw [decide_eq_true h, decide_eq_true (by rw [h])]
  · rw [decide_eq_false h, decide_eq_false fun z => h (V.int.inj z)]
theorem dStr (n m : Str) : decide (V.str n = V.str m) = decide (n = m) := by
  by_cases h : n = m
  · rw [decide_eq_true h, decide_eq_true (by rw [h])]
  · rw [decide_eq_false h, decide_eq_false fun z => h (V.str.inj z)]
end Ly

set_option maxRecDepth 100000
set_option maxHeartbeats 4000000
/-! enumerate(a tuple) -/
namespace PySem
open Sem (wp)
open AutoSeq1 (wpAny_loadPart')
theorem meets_enumerate_newTup (l : Addr) (items : Array Value) (n : Nat) (dct : Option Addr) (sl : Array (Option Value)) :
    Meets (Builtin.«enumerate.__new__» ⟨[.type "enumerate", .ref l], []⟩) (fun _ R s => s.heap.get? l = some { cls := .type "tuple", dict := dct, data := .seq items n, slots := sl } ∧
      R (.ok (.ret (.ref (s.heap.push { cls := .type "tuple_iterator", data := .fields #[.ref l, .int 0 0] }).objs.size)))
        { s with heap := (s.heap.push { cls := .type "tuple_iterator", data := .fields #[.ref l, .int 0 0] }).push { cls := .type "enumerate", data := .fields #[.none, .bool false, .ref s.heap.objs.size, rawInt 0, .none, .none] } }) :=
  .of_wp fun prog w A R s h => by
    obtain ⟨hp, g, d, tk, os⟩ := s; obtain ⟨hl, h⟩ := h
    have hsub := sub_enumerate
    have hL : Heap.IsTuple (Shared.heap ⟨hp, g, d, tk, os⟩) l items := ⟨_, hl, rfl, n, rfl⟩
    wp_walk using wpAny_loadPart' hl
    refine wpAny_stack_any fun st => wpAny_pure ?_
    split
    · rename_i c _ _ _ _ _
      cases (c == Value.type "enumerate")
      · wp_walk using wpAny_loadPart' hl, wpAny_pyIter_tuple hL
        exact ⟨_, rfl, h⟩
      · wp_walk using wpAny_loadPart' hl, wpAny_pyIter_tuple hL
        exact ⟨_, rfl, h⟩
    · wp_walk using wpAny_loadPart' hl, wpAny_pyIter_tuple hL
      exact ⟨_, rfl, h⟩
section
variable {prog : Program} {w : World} {A : Around} {E : Value → Shared → Prop} {s : Shared}
theorem call_enumerate_tup {l : Addr} {items : Array Value} {Q : Value → Shared → Prop} (hL : s.heap.IsTuple l items)
    (h : ∀ h', IsEnum h' (s.heap.objs.size + 1) s.heap.objs.size 0 .none → h'.IsTupleIter s.heap.objs.size l 0 → h'.objs.size = s.heap.objs.size + 2 →
      (∀ b o, s.heap.get? b = some o → h'.get? b = some o) → Q (.ref (s.heap.objs.size + 1)) { s with heap := h' }) :
    wpAny (model prog w) A (call (.type "enumerate") [.ref l]) Q E s := by
  obtain ⟨⟨c, dct, dt, sl⟩, hl, hc, n, hd⟩ := hL
  replace hc : c = .type "tuple" := hc
  replace hd : dt = .seq items n := hd
  subst hc hd
  refine callType_new F.called_enumerate (by decide) (F.typeCall_enumerate_1 _) (F.newCall_enumerate_1 _) (fun obj => F.args_object_init_2 obj _) F.entry_enumerate_new
    (meets_enumerate_newTup l items n dct sl) ⟨hl, ?_⟩
  have hz : (s.heap.push { cls := .type "tuple_iterator", data := .fields #[.ref l, .int 0 0] }).objs.size = s.heap.objs.size + 1 := Heap.size_push ..
  show _ ∧ _
  rw [hz]
  have he : IsEnum ((s.heap.push { cls := .type "tuple_iterator", data := .fields #[.ref l, .int 0 0] }).push
      { cls := .type "enumerate", data := .fields #[.none, .bool false, .ref s.heap.objs.size, rawInt 0, .none, .none] }) (s.heap.objs.size + 1) s.heap.objs.size 0 .none := by
    have := Heap.get?_push_size (s.heap.push { cls := .type "tuple_iterator", data := .fields #[.ref l, .int 0 0] })
      (o := { cls := .type "enumerate", data := .fields #[.none, .bool false, .ref s.heap.objs.size, rawInt 0, .none, .none] }) rfl
    rw [hz] at this; exact this
  refine ⟨⟨_, he, rfl⟩, h _ he ⟨_, Heap.get?_push_of_some _ (Heap.get?_push_size _ rfl), rfl, rfl⟩ (by rw [Heap.size_push, hz]) fun b o x => Heap.get?_push_of_some _ (Heap.get?_push_of_some _ x)⟩
end
end PySem
namespace Ly
open PySem PySem.Spec PyProof.Rows L2
/-- the tuple at a, each item in a new pair with its number -/
def IteT (K : PySem.W.Frag) (a : Addr) : It :=
  ⟨fun i H => ∃ (xs : List V) (x : V), SqT K H a xs ∧ xs[i]? = some x, fun i H v H' => ∃ T x, v = .ref T ∧ H T = none ∧ H' = upd H T (.tup [.int (i : Nat), x]) ∧ ∀ xs, SqT K H a xs → xs[i]? = some x, fun i H => ∃ xs : List V, SqT K H a xs ∧ xs.length = i⟩
theorem turn_enumT {P : Program} {w : World} {K : PySem.W.Frag} {elts : List Expr} {kk : Nat} {tpos : Pos} (a e it : Addr) :
    Turn P w K (.Tuple elts kk tpos) (IteT K a) [e, it] e (fun i h => (∃ old, IsEnum h e it ((i : Nat) : Int) old) ∧ h.IsTupleIter it a i ∧ e ≠ it ∧ a ≠ it ∧ a ≠ e) where
  mem := by simp
  obj := fun i h st b hb => by
    obtain ⟨⟨old, he⟩, ⟨o, ho, hc, hd⟩, _⟩ := st
    have e' : b = e ∨ b = it := by simpa using hb
    rcases e' with z | z
    · rw [z]; exact ⟨_, he, fun v q => nomatch q⟩
    · rw [z]; exact ⟨o, ho, fun v q => by rw [hd] at q; cases q⟩
  keep := fun i h h' st k => let ⟨⟨old, he⟩, hi, hne⟩ := st; ⟨⟨old, k e (by simp) _ he⟩, hi.at fun o q => k it (by simp) o q, hne⟩
  item := by
    intro X hP hw hK hc i pins s σ H E I hf st hg
    subst hP hw hK
    obtain ⟨⟨old, he⟩, hit, hne, hai, hae⟩ := st
    obtain ⟨xs, x, hq, hx⟩ := hg
    obtain ⟨its, rv, p, hz⟩ := I.tuple hq
    obtain ⟨u, hu, ru⟩ := rv.get hx
    have hel : e < s.heap.objs.size := Heap.lt_size he
    have hil : it < s.heap.objs.size := by obtain ⟨_, q, _⟩ := hit; exact Heap.lt_size q
    have hlt : i < its.toArray.size := by
      have := (List.getElem?_eq_some_iff.mp hu).1
      simpa using this
    refine wpAny_pyNext_enum_itemD (Draws.tuple (A := X.A.in1) (by simp [I.ok.hd hc]) it a hai its.toArray) he ⟨hit, p⟩ hlt hne (by simp [hne, Ne.symm hae]) fun x' h' tk hP' ho hst' hT hsz hk => ?_
    have hxu : x' = u := by
      have : its[i]? = some x' := by simpa using hP'
      rw [hu] at this
      exact (Option.some.inj this).symm
    subst hxu
    refine ⟨_, rfl, wpAny_letOwnedTupleGo_enum (s := { s with heap := h', toks := tk + 1 }) ho fun h'' he' sb => ?_⟩
    have hT2 : h''.get? s.heap.objs.size = some { cls := .type "tuple", data := .seq #[.int i tk, x'] } := (sb.2 _ (Nat.ne_of_gt hel)).trans hT
    have new : ObjOk X.prog X.w (upd H s.heap.objs.size (.tup [.int (i : Nat), x])) h'' s.heap.objs.size (.tup [.int (i : Nat), x]) :=
      ⟨by show 2 ≤ sizeLine; decide, [.int i tk, x'], .cons ⟨_, rfl⟩ (.cons ru .nil), ⟨_, hT2, rfl, _, rfl⟩⟩
    have I1 : Inv X pins σ (upd H s.heap.objs.size (.tup [.int (i : Nat), x])) { s with heap := h'', toks := tk + 1 } :=
      I.turnedNew (ch := [e, it]) (fun b ob hb q => (sb.2 b (fun z => hb (by simp [z]))).trans (hk b ob (fun z => hb (by simp [z])) (fun z => hb (by simp [z])) q)) hf (Nat.le_refl _) new
    refine ⟨.ref s.heap.objs.size, _, I1, rfl, ⟨_, x, rfl, I.hok.fresh (Nat.le_refl _), rfl, fun ys hy => by rw [I.tuple_inj hy hq]; exact hx⟩, ⟨⟨x', ?_⟩, hst'.1.at fun o q => (sb.2 it (Ne.symm hne)).trans q, hne, hai, hae⟩, fun b hb => ?_⟩
    · have e1 : ((i + 1 : Nat) : Int) = (i : Int) + 1 := by omega
      rw [e1]; exact he'
    · have hb' : b < s.heap.objs.size := by
        have e' : b = e ∨ b = it := by simpa using hb
        rcases e' with z | z
        · rw [z]; exact hel
        · rw [z]; exact hil
      rw [upd_ne (Nat.ne_of_lt hb')]
      exact (hf b hb).1
  done := by
    intro X hP hw hK hc i pins s σ H E I hf st hg
    subst hP hw hK
    obtain ⟨⟨old, he⟩, hit, hne, hai, hae⟩ := st
    obtain ⟨xs, hq, hx⟩ := hg
    obtain ⟨its, rv, p, hz⟩ := I.tuple hq
    obtain ⟨f0, f1, f2, f3, f4, f5⟩ := hf it (by simp)
    have hl := rv.length
    have hi : i = its.toArray.size := by simp; omega
    subst hi
    exact wpAny_pyNext_enum_endD (Draws.tuple (A := X.A.in1) (by simp [I.ok.hd hc]) it a hai its.toArray) he ⟨hit, p⟩ fun h' eb => ⟨rfl, I.turned (t' := s.toks) (fun b o hb q => eb b o hb q) f0 f1 f3 f4 f5⟩
  self := fun A i s Q E st h => let ⟨⟨_, he⟩, _⟩ := st; wpAny_pyIter_enum he h
def iEnumT (K : PySem.W.Frag) (ta : TA) : TI := fun σ H R => ta σ H fun vs H1 => ∃ a xs, vs = [.ref a] ∧ SqT K H1 a xs ∧ R (IteT K a) H1
theorem pi_enumT {X : Cx} (K : PySem.W.Frag) {e : Expr} {ta : TA} {p pos tpos : Pos} {elts : List Expr} {kk : Nat} (hg : Gl X "enumerate") (hm : X.mg "enumerate" = none) (ha : PA X [e] ta) (hs : starEach [e] X.env = [(false, eval e X.env)] := by rfl) (hK : X.K = K := by rfl) :
    PI X (.Tuple elts kk tpos) (.Call (.Name "enumerate" p) [e] [] pos) (iEnumT K ta) := by
  subst hK
  refine ⟨fun pins s σ H R I h => ?_⟩
  refine Call_ (ld_blt I hg hm boot_enumerate (PyProof.Rows.callWith_type1 (thn (ha.run pos pins s σ H _ I h) fun us s1 ⟨vs, H1, I1, r1, q1⟩ => ?_) hs rfl))
  obtain ⟨a, xs, ex, hq, q⟩ := q1
  subst ex
  cases r1 with
  | cons r rr =>
    cases rr
    cases r
    obtain ⟨its, rv, p', hz⟩ := I1.tuple hq
    have hal : a < s1.heap.objs.size := by obtain ⟨_, q, _⟩ := p'; exact Heap.lt_size q
    refine call_enumerate_tup p' fun h' he hit hsz hk => wpAny_pyIter_enum he ?_
    have I2 : Inv X pins σ H1 { s1 with heap := h' } := I1.kept (t' := s1.toks) hk
    refine ⟨s1.heap.objs.size + 1, [s1.heap.objs.size + 1, s1.heap.objs.size], _, _, H1, rfl, I2, turn_enumT a (s1.heap.objs.size + 1) s1.heap.objs.size, ⟨⟨.none, he⟩, hit, Nat.succ_ne_self _, Nat.ne_of_lt hal, Nat.ne_of_lt (Nat.lt_succ_of_lt hal)⟩, fun b hb => ?_, q⟩
    have e' : b = s1.heap.objs.size + 1 ∨ b = s1.heap.objs.size := by simpa using hb
    have hle : s1.heap.objs.size ≤ b := by
      rcases e' with z | z
      · rw [z]; exact Nat.le_add_right _ _
      · rw [z]; exact Nat.le_refl _
    exact I1.fpOk hle (I1.hok.fresh hle)
theorem walk_enumT {K : PySem.W.Frag} {a : Addr} {xs : List V} : Walk (IteT K a) xs.length (fun H => SqT K H a xs) (YPair (fun i => some (.int (i : Nat))) (fun i => xs[i]?)) := by
  refine ⟨fun i _ hi q => ⟨xs, xs[i], q, by simp [hi]⟩, fun _ q => ⟨xs, q, rfl⟩, fun i H v H' _ q y => ?_⟩
  obtain ⟨T, x, h1, h2, h3, h4⟩ := y
  exact ⟨T, .int (i : Nat), x, h1, h2, h3, rfl, h4 xs q⟩
/-- a dict comprehension over what is walked -/
theorem dc_it {J : It} {n : Nat} {G : Hp → Prop} {Y : Nat → Hp → V → Hp → Prop} (w : Walk J n G Y) {g : TG} {tt : TT} {tk tv : TE} {vs : List Nat} {σ : L2.St} {H1 : Hp} {D : Addr} {Qd : Hp → Prop} (Pv : Nat → Hp → Prop) (h0 : Pv 0 (upd H1 D (.dK []))) (hG : ∀ i H, i ≤ n → Pv i H → G H)
    (hs : ∀ i x H H', i < n → Pv i H → Y i H x H' → g x (wipe σ vs) H' fun σ2 H2 => wipe σ2 vs = wipe σ vs ∧ tt σ2 H2 fun b H3 =>
      if b = true then tk σ2 H3 fun y H4 => tv σ2 H4 fun z H5 => ∃ kvs k, y = kV k ∧ H5 D = some (.dK kvs) ∧ kvs.length < sizeLine ∧ Pv (i + 1) (upd H5 D (.dK (putK kvs k z))) else Pv (i + 1) H3) (hd : ∀ H, Pv n H → Qd H) :
    ∃ W : Nat → Nat → Hp → Prop, (∃ m, W 0 m (upd H1 D (.dK []))) ∧ ∀ i m H, W i m H →
      (J.stop i H ∧ Qd H) ∨ (J.go i H ∧ ∃ Nx : Hp → Prop, (∀ H', Nx H' → ∃ m', m' < m ∧ W (i + 1) m' H') ∧ ∀ x H', J.yld i H x H' → g x (wipe σ vs) H' fun σ2 H2 => wipe σ2 vs = wipe σ vs ∧ tt σ2 H2 fun b H3 =>
        if b = true then tk σ2 H3 fun y H4 => tv σ2 H4 fun z H5 => ∃ kvs k, y = kV k ∧ H5 D = some (.dK kvs) ∧ kvs.length < sizeLine ∧ Nx (upd H5 D (.dK (putK kvs k z))) else Nx H3) := by
  refine ⟨fun i m H => m = n - i ∧ i ≤ n ∧ Pv i H, ⟨n, by simp, Nat.zero_le _, h0⟩, ?_⟩
  rintro i m H ⟨rfl, hi, p⟩
  have q := hG i H hi p
  by_cases hlt : i < n
  · refine .inr ⟨w.goes i H hlt q, Pv (i + 1), fun H' p' => ⟨n - (i + 1), by omega, rfl, hlt, p'⟩, fun x H' y => hs i x H H' hlt p (w.yields i H x H' hlt q y)⟩
  · have e : i = n := by omega
    subst e
    exact .inl ⟨w.stops H q, hd H p⟩
end Ly

set_option maxRecDepth 100000
set_option maxHeartbeats 4000000
/-! diagrams -/
namespace Ly
open PySem PySem.Spec PyProof.Rows L2
/-- what a reader has read hangs together -/
structure ROk (r : RSt) : Prop where
  few : RFew r
  nm : ∀ n, r.name = some n → nameOk n = true
  i : r.ins.length ≤ 8 ∧ ∀ y ∈ r.ins, nameOk y = true
  o : r.outs.length ≤ 8 ∧ ∀ y ∈ r.outs, nameOk y = true
  nd : (r.parts.map (·.1)).Nodup
  p : ∀ q ∈ r.parts, nameOk q.1 = true ∧ blockOk q.2 = true
  wn : (r.wires.map (·.1)).Nodup
  w1 : ∀ x ∈ r.wires, (x.1.1 = "" ∧ x.1.2 ∈ r.outs) ∨ (x.1.1 ∈ r.parts.map (·.1) ∧ nameOk x.1.2 = true)
  w2 : ∀ x ∈ r.wires, (x.2.1 = "" ∧ x.2.2 ∈ r.ins) ∨ (x.2.1 ∈ r.parts.map (·.1) ∧ nameOk x.2.2 = true)
/-- where a part stands -/
def posOf (ps : List Prt) (a : Str) : Nat := (ps.map (·.1)).idxOf a
def keyW (ps : List Prt) (t : Prt) : List At := [.i (posOf ps t.1 : Nat), .s t.2]
/-- what feeds a target -/
def lookW (ws : List (Prt × Prt)) (t : Prt) : Prt := ((ws.find? fun x => decide (x.1 = t)).map (·.2)).getD ("", "")
def outerT (outs : List Str) (ws : List (Prt × Prt)) : List Prt := (outs.map fun o => (("" : Str), o)).filter fun t => decide (t ∈ ws.map (·.1))
/-- the order that a diagram gives the wires -/
def IsOrd (outs : List Str) (ps : List Prt) (ws zs : List (Prt × Prt)) : Prop :=
  ∃ inn : List Prt, inn.Perm ((ws.map (·.1)).filter fun t => !decide (t.1 = "")) ∧ SrtO.Srtd (fun x y => lexA (keyW ps x) (keyW ps y)) inn ∧ zs = (inn ++ outerT outs ws).map fun t => (t, lookW ws t)
def fsD (n : Str) (i o p w : Addr) (t : Str) : List (Str × V) := [("name", .str n), ("inputs", .ref i), ("outputs", .ref o), ("parts", .ref p), ("wires", .ref w), ("text", .str t)]
def fsD4 (n : Str) (i o p : Addr) : List (Str × V) := [("name", .str n), ("inputs", .ref i), ("outputs", .ref o), ("parts", .ref p)]
def fsD5 (n : Str) (i o p w : Addr) : List (Str × V) := [("name", .str n), ("inputs", .ref i), ("outputs", .ref o), ("parts", .ref p), ("wires", .ref w)]
theorem fsD_name {n i o p w t} : (fsD n i o p w t).lookup ("name" : Str) = some (.str n) := by kernel_rfl
theorem fsD_inputs {n i o p w t} : (fsD n i o p w t).lookup ("inputs" : Str) = some (.ref i) := by kernel_rfl
theorem fsD_outputs {n i o p w t} : (fsD n i o p w t).lookup ("outputs" : Str) = some (.ref o) := by kernel_rfl
theorem fsD_parts {n i o p w t} : (fsD n i o p w t).lookup ("parts" : Str) = some (.ref p) := by kernel_rfl
theorem fsD_wires {n i o p w t} : (fsD n i o p w t).lookup ("wires" : Str) = some (.ref w) := by kernel_rfl
theorem fsD_text {n i o p w t} : (fsD n i o p w t).lookup ("text" : Str) = some (.str t) := by kernel_rfl
theorem fsD4_parts {n i o p} : (fsD4 n i o p).lookup ("parts" : Str) = some (.ref p) := by kernel_rfl
theorem fsD4_outputs {n i o p} : (fsD4 n i o p).lookup ("outputs" : Str) = some (.ref o) := by kernel_rfl
theorem fsD5_name {n i o p w} : (fsD5 n i o p w).lookup ("name" : Str) = some (.str n) := by kernel_rfl
theorem fsD5_inputs {n i o p w} : (fsD5 n i o p w).lookup ("inputs" : Str) = some (.ref i) := by kernel_rfl
theorem fsD5_outputs {n i o p w} : (fsD5 n i o p w).lookup ("outputs" : Str) = some (.ref o) := by kernel_rfl
theorem fsD5_parts {n i o p w} : (fsD5 n i o p w).lookup ("parts" : Str) = some (.ref p) := by kernel_rfl
theorem fsD5_wires {n i o p w} : (fsD5 n i o p w).lookup ("wires" : Str) = some (.ref w) := by kernel_rfl
theorem fsD_put4 {n : Str} {i o p : Addr} : putF "parts" (.ref p) (fsB n i o) = fsD4 n i o p := by kernel_rfl
theorem fsD_put5 {n : Str} {i o p w : Addr} : putF "wires" (.ref w) (fsD4 n i o p) = fsD5 n i o p w := by kernel_rfl
theorem fsD_put6 {n : Str} {i o p w : Addr} {t : Str} : putF "text" (.str t) (fsD5 n i o p w) = fsD n i o p w t := by kernel_rfl
/-- a diagram at x -/
def DiagAt (K : PySem.W.Frag) (C : Addr) (H : Hp) (x : Addr) (n : Str) (ins outs : List Str) (ps : List Prt) (ws : List (Prt × Prt)) : Prop :=
  ∃ dx i o p w, H x = some (.ins C dx (fsD n i o p w (textOfD n ins outs ps ws))) ∧ SqT K H i (ins.map V.str) ∧ SqT K H o (outs.map V.str) ∧ Dp K H (.ref p) (.tuple (ps.map dPair)) ∧ Dp K H (.ref w) (.tuple (ws.map dWire))
/-- Diagram.__init__ of what was read -/
def spDI (K : PySem.W.Frag) (C : Addr) : Sp := fun vs H Q _ => ∃ (x dx i o p w : Addr) (n : Str) (r : RSt), vs = [.ref x, .str n, .ref i, .ref o, .ref p, .ref w] ∧ H x = some (.ins C dx []) ∧ ROk r ∧ r.name = some n ∧
  SqT K H i (r.ins.map V.str) ∧ SqT K H o (r.outs.map V.str) ∧ PartsAt K H p r.parts ∧ WiresAt K H w r.wires ∧
  ∀ H' ws, SameX x H H' → IsOrd r.outs r.parts r.wires ws → DiagAt K C H' x n r.ins r.outs r.parts ws → Q .non H'
theorem nameOk_len {z : Str} (h : nameOk z = true) : 1 ≤ z.length ∧ z.length ≤ 8 := by
  unfold nameOk at h
  simp only [Bool.and_eq_true, decide_eq_true_eq] at h
  exact h.1.1
theorem nameOk_ne {z : Str} (h : nameOk z = true) : z ≠ "" := fun e => by
  have := (nameOk_len h).1
  rw [e] at this
  exact absurd this (by decide +kernel)
theorem posOf_inj {ps : List Prt} {a b : Str} (ha : a ∈ ps.map (·.1)) (hb : b ∈ ps.map (·.1)) (h : posOf ps a = posOf ps b) : a = b := by
  unfold posOf at h
  have h1 := List.idxOf_lt_length_of_mem ha
  have h2 := List.idxOf_lt_length_of_mem hb
  have e1 := List.getElem_idxOf h1
  have e2 := List.getElem_idxOf h2
  rw [← e1, ← e2]
  congr 1
theorem posOf_get {ps : List Prt} (nd : (ps.map (·.1)).Nodup) {j : Nat} {q : Prt} (h : ps[j]? = some q) : posOf ps q.1 = j := by
  unfold posOf
  have hj : j < (ps.map (·.1)).length := by
    rw [List.length_map]
    exact (List.getElem?_eq_some_iff.mp h).1
  have e : (ps.map (·.1))[j] = q.1 := by
    have := (List.getElem?_eq_some_iff.mp h).2
    simp [this]
  rw [← e]
  exact nd.idxOf_getElem j hj
theorem pl_get {α β : Type} {R : α → β → Prop} : ∀ {xs : List α} {ys : List β} {i : Nat} {y : β}, Paired R xs ys → ys[i]? = some y → ∃ x, xs[i]? = some x ∧ R x y
  | _, _, _, _, .nil, h => by simp at h
  | _, _, 0, _, .cons h t, e => by
    rw [List.getElem?_cons_zero] at e
    cases e
    exact ⟨_, rfl, h⟩
  | _, _, i + 1, _, .cons h t, e => by
    rw [List.getElem?_cons_succ] at e
    obtain ⟨x, h1, h2⟩ := pl_get t e
    exact ⟨x, by rw [List.getElem?_cons_succ]; exact h1, h2⟩
theorem pl_get' {α β : Type} {R : α → β → Prop} : ∀ {xs : List α} {ys : List β} {i : Nat} {x : α}, Paired R xs ys → xs[i]? = some x → ∃ y, ys[i]? = some y ∧ R x y
  | _, _, _, _, .nil, h => by simp at h
  | _, _, 0, _, .cons h t, e => by
    rw [List.getElem?_cons_zero] at e
    cases e
    exact ⟨_, rfl, h⟩
  | _, _, i + 1, _, .cons h t, e => by
    rw [List.getElem?_cons_succ] at e
    obtain ⟨y, h1, h2⟩ := pl_get' t e
    exact ⟨y, by rw [List.getElem?_cons_succ]; exact h1, h2⟩
/-- the places of the first i parts -/
def PosKV (ps : List Prt) (i : Nat) (kvs : List (Key × V)) : Prop := kvs.length ≤ i ∧ ∀ j q, j < i → ps[j]? = some q → valV kvs (Sum.inr q.1) = some (.int (j : Nat))
theorem posKV_put {ps : List Prt} (nd : (ps.map (·.1)).Nodup) {i : Nat} {q : Prt} {kvs : List (Key × V)} (h : PosKV ps i kvs) (hq : ps[i]? = some q) : PosKV ps (i + 1) (putK kvs (Sum.inr q.1) (.int (i : Nat))) := by
  refine ⟨Nat.le_trans (length_putK _ _ _) (by have := h.1; omega), fun j q' hj hq' => ?_⟩
  rw [valV_put]
  by_cases e : q'.1 = q.1
  · have e1 := posOf_get nd hq
    have e2 := posOf_get nd hq'
    rw [e] at e2
    have : i = j := e1.symm.trans e2
    subst this
    rw [if_pos (by rw [e])]
  · rw [if_neg fun z => e (Sum.inr.inj z)]
    have : j ≠ i := fun z => by
      subst z
      rw [hq] at hq'
      cases hq'
      exact e rfl
    exact h.2 j q' (by omega) hq'
theorem posKV_at {ps : List Prt} (nd : (ps.map (·.1)).Nodup) {kvs : List (Key × V)} (h : PosKV ps ps.length kvs) {a : Str} (ha : a ∈ ps.map (·.1)) : valV kvs (Sum.inr a) = some (.int (posOf ps a : Nat)) := by
  obtain ⟨q, hq, rfl⟩ := List.mem_map.mp ha
  obtain ⟨j, hj, e⟩ := List.getElem_of_mem hq
  have e2 : ps[j]? = some q := by rw [List.getElem?_eq_getElem hj, e]
  rw [posOf_get nd e2]
  exact h.2 j q hj e2
/-! ### the rows of inner -/
def InnAt (H : Hp) (ps : List Prt) (t : Prt) (v : V) : Prop := ∃ a q, v = .ref a ∧ H a = some (.tup [.int (posOf ps t.1 : Nat), .str t.2, .ref q]) ∧ H q = some (.tup [.str t.1, .str t.2])
def TgtAt (H : Hp) (t : Prt) (v : V) : Prop := ∃ q, v = .ref q ∧ H q = some (.tup [.str t.1, .str t.2])
theorem InnAt.same {H H' : Hp} {ps : List Prt} {t : Prt} {v : V} (s : Same H H') (h : InnAt H ps t v) : InnAt H' ps t v := by
  obtain ⟨a, q, e, h1, h2⟩ := h
  exact ⟨a, q, e, s _ _ h1, s _ _ h2⟩
theorem TgtAt.same {H H' : Hp} {t : Prt} {v : V} (s : Same H H') (h : TgtAt H t v) : TgtAt H' t v := by
  obtain ⟨q, e, h2⟩ := h
  exact ⟨q, e, s _ _ h2⟩
def kH (H : Hp) (v : V) : List At :=
  match v with
  | .ref a => match H a with
    | some (.tup [.int n, .str z, .ref _]) => [.i n, .s z]
    | _ => []
  | _ => []
def tH (H : Hp) (v : V) : Prt :=
  match v with
  | .ref a => match H a with
    | some (.tup [.int _, .str _, .ref q]) => match H q with
      | some (.tup [.str a, .str b]) => (a, b)
      | _ => ("", "")
    | _ => ("", "")
  | _ => ("", "")
theorem inn_kH {H : Hp} {ps : List Prt} {t : Prt} {v : V} (h : InnAt H ps t v) : kH H v = keyW ps t ∧ tH H v = t := by
  obtain ⟨a, q, rfl, h1, h2⟩ := h
  unfold kH tH
  dsimp only
  rw [h1]
  dsimp only
  rw [h2]
  exact ⟨rfl, rfl⟩
theorem inn_map {H : Hp} {ps : List Prt} : ∀ {ts : List Prt} {vs : List V}, Paired (InnAt H ps) ts vs → vs.map (tH H) = ts
  | _, _, .nil => rfl
  | _, _, .cons h t => by rw [List.map_cons, (inn_kH h).2, inn_map t]
theorem inn_mem {H : Hp} {ps : List Prt} : ∀ {ts : List Prt} {vs : List V}, Paired (InnAt H ps) ts vs → ∀ v ∈ vs, tH H v ∈ ts ∧ InnAt H ps (tH H v) v
  | _, _, .nil, v, hv => by cases hv
  | _, _, .cons h t, v, hv => by
    rcases List.mem_cons.mp hv with rfl | hv
    · rw [(inn_kH h).2]
      exact ⟨List.mem_cons_self, h⟩
    · obtain ⟨h1, h2⟩ := inn_mem t v hv
      exact ⟨List.mem_cons_of_mem _ h1, h2⟩
theorem map_inj_nd {α β : Type} {f : α → β} : ∀ {l : List α}, (l.map f).Nodup → ∀ x ∈ l, ∀ y ∈ l, f x = f y → x = y
  | [], _, x, hx, _, _, _ => by cases hx
  | a :: l, h, x, hx, y, hy, e => by
    rw [List.map_cons, List.nodup_cons] at h
    rcases List.mem_cons.mp hx with ex | hx'
    · rcases List.mem_cons.mp hy with ey | hy'
      · rw [ex, ey]
      · exact absurd (List.mem_map.mpr ⟨y, hy', by rw [← e, ex]⟩) h.1
    · rcases List.mem_cons.mp hy with ey | hy'
      · exact absurd (List.mem_map.mpr ⟨x, hx', by rw [e, ey]⟩) h.1
      · exact map_inj_nd h.2 x hx' y hy' e
theorem keyW_inj {ps : List Prt} {t u : Prt} (ht : t.1 ∈ ps.map (·.1)) (hu : u.1 ∈ ps.map (·.1)) (h : keyW ps t = keyW ps u) : t = u := by
  unfold keyW at h
  have h1 := (List.cons.inj h).1
  have h2 := (List.cons.inj (List.cons.inj h).2).1
  have e2 := At.s.inj h2
  have e1 := At.i.inj h1
  exact Prod.ext (posOf_inj ht hu (by omega)) e2
theorem inn_pair {H : Hp} {ps : List Prt} : ∀ {ys : List V}, (∀ v ∈ ys, InnAt H ps (tH H v) v) → Paired (InnAt H ps) (ys.map (tH H)) ys
  | [], _ => .nil
  | y :: r, h => .cons (h y List.mem_cons_self) (inn_pair fun v hv => h v (List.mem_cons_of_mem _ hv))
theorem rSort_inn {K : PySem.W.Frag} {H : Hp} {Q : VK} {ps : List Prt} {ts : List Prt} {vs : List V} {a : Addr} (ha : SqL K H a vs) (h : Paired (InnAt H ps) ts vs) (nd : ts.Nodup) (ht : ∀ t ∈ ts, t.1 ∈ ps.map (·.1))
    (q : ∀ inn ys p, inn.Perm ts → SrtO.Srtd (fun x y => lexA (keyW ps x) (keyW ps y)) inn → Paired (InnAt H ps) inn ys → H p = none → Q (.ref p) (upd H p (.lst ys))) : rSortedAt K [.ref a] H Q := by
  have hm := inn_map h
  have hi := inn_mem h
  refine ⟨a, vs, kH H, rfl, ha, fun x hx => ?_, fun x hx => ?_, fun x hx y hy => ?_, fun x hx y hy e => ?_, fun ys p hs hp hn => ?_⟩
  · obtain ⟨_, b, c, e, h1, h2⟩ := hi x hx
    refine ⟨b, [.ref c], e, ?_⟩
    rw [(inn_kH (hi x hx).2).1, h1]
    rfl
  · rw [(inn_kH (hi x hx).2).1]
    unfold keyW
    simp
  · rw [(inn_kH (hi x hx).2).1, (inn_kH (hi y hy).2).1]
    rfl
  · rw [(inn_kH (hi x hx).2).1, (inn_kH (hi y hy).2).1] at e
    exact map_inj_nd (f := tH H) (by rw [hm]; exact nd) x hx y hy (keyW_inj (ht _ (hi x hx).1) (ht _ (hi y hy).1) e)
  · have hy : ∀ v ∈ ys, InnAt H ps (tH H v) v := fun v hv => (hi v (hp.mem_iff.mp hv)).2
    refine q (ys.map (tH H)) ys p ?_ ?_ (inn_pair hy) hn
    · rw [← hm]
      exact hp.map _
    · refine List.pairwise_map.mpr (List.Pairwise.imp_of_mem (fun {x y} hx hy' e => ?_) hs)
      have e' : lexA (kH H y) (kH H x) = false := e
      rw [(inn_kH (hy x hx)).1, (inn_kH (hy y hy')).1] at e'
      exact e'
/-! ### what feeds -/
theorem wires_get {K : PySem.W.Frag} {H : Hp} {ws : List (Prt × Prt)} {kvs : List (List Key × V)} (h : Paired (fun (x : Prt × Prt) (q : List Key × V) => q.1 = keyP x.1 ∧ ∃ t, q.2 = V.ref t ∧ SqT K H t [.str x.2.1, .str x.2.2]) ws kvs) {t : Prt} (ht : t ∈ ws.map (·.1)) :
    ∃ s, valV kvs (keyP t) = some (.ref s) ∧ SqT K H s [.str (lookW ws t).1, .str (lookW ws t).2] := by
  induction h with
  | nil => cases ht
  | cons a p ih =>
    rename_i x q xs ys
    unfold lookW
    by_cases e : x.1 = t
    · obtain ⟨e1, s, e2, hs⟩ := a
      refine ⟨s, ?_, ?_⟩
      · unfold valV
        rw [List.find?_cons_of_pos (by rw [e1, e]; simp)]
        show some q.2 = _
        rw [e2]
      · rw [List.find?_cons_of_pos (by simp [e])]
        exact hs
    · have ht' : t ∈ xs.map (·.1) := by
        rw [List.map_cons] at ht
        exact (List.mem_cons.mp ht).elim (fun z => absurd z.symm e) id
      obtain ⟨s, e1, hs⟩ := ih ht'
      refine ⟨s, ?_, ?_⟩
      · unfold valV at e1 ⊢
        rw [List.find?_cons_of_neg (by rw [a.1]; simp only [decide_eq_true_eq]; exact fun z => e (keyP_inj z))]
        exact e1
      · rw [List.find?_cons_of_neg (by simp [e])]
        exact hs
theorem paired_app {α β : Type} {R : α → β → Prop} : ∀ {xs : List α} {ys : List β} {xs' : List α} {ys' : List β}, Paired R xs ys → Paired R xs' ys' → Paired R (xs ++ xs') (ys ++ ys')
  | _, _, _, _, .nil, h => h
  | _, _, _, _, .cons h t, h2 => .cons h (paired_app t h2)
theorem sl_wires {K : PySem.W.Frag} {l : List Addr} {H H' : Hp} (s : SameL l H H') (n : NoT l H) : ∀ {xs : List V} {zs : List (Prt × Prt)}, DpAll K H xs (zs.map dWire) → DpAll K H' xs (zs.map dWire)
  | _, [], .nil => .nil
  | _, q :: r, .cons h hs => by
    obtain ⟨a, t, u, rfl, ha, ht, hu⟩ := dp_wire_inv h
    exact .cons (.tup (sl_sqt s n ha) (.cons (dp_pair (sl_sqt s n ht)) (.cons (dp_pair (sl_sqt s n hu)) .nil))) (sl_wires s n hs)
theorem dp_wire {K : PySem.W.Frag} {H : Hp} {a t u : Addr} {x : Prt × Prt} (h : SqT K H a [.ref t, .ref u]) (ht : SqT K H t [.str x.1.1, .str x.1.2]) (hu : SqT K H u [.str x.2.1, .str x.2.2]) : Dp K H (.ref a) (dWire x) :=
  .tup h (.cons (dp_pair ht) (.cons (dp_pair hu) .nil))
theorem lookW_mem {ws : List (Prt × Prt)} {t : Prt} (h : t ∈ ws.map (·.1)) : (t, lookW ws t) ∈ ws := by
  unfold lookW
  cases e : ws.find? fun x => decide (x.1 = t) with
  | none =>
    obtain ⟨y, hy, rfl⟩ := List.mem_map.mp h
    have := List.find?_eq_none.mp e y hy
    simp at this
  | some y =>
    have h1 := List.mem_of_find?_eq_some e
    have h2 := List.find?_some e
    have e2 : y.1 = t := by simpa using h2
    show (t, y.2) ∈ ws
    rw [← e2]
    exact h1
theorem blockOk_len {z : Str} (h : blockOk z = true) : z.length ≤ 100 := by
  unfold blockOk at h
  rcases Bool.or_eq_true_iff.mp h with h | h
  · cases e : primOf z with
    | none => rw [e] at h; cases h
    | some nc =>
      obtain ⟨n, c⟩ := nc
      rw [← text_prim e]
      exact textOf_len (primOf_ok e)
  · have := (nameOk_len (Bool.and_eq_true_iff.mp h).1).2
    omega
theorem ord_short {r : RSt} {n : Str} (h : ROk r) (hn : r.name = some n) {zs : List (Prt × Prt)} (ho : IsOrd r.outs r.parts r.wires zs) : DShort n r.ins r.outs r.parts zs := by
  have nl := nameOk_len (h.nm n hn)
  obtain ⟨inn, hp, _, rfl⟩ := ho
  have hwl : ∀ x ∈ r.wires, (x.1.1.length ≤ 100 ∧ x.1.2.length ≤ 100) ∧ x.2.1.length ≤ 100 ∧ x.2.2.length ≤ 100 := fun x hx => by
    have part : ∀ a, a ∈ r.parts.map (·.1) → a.length ≤ 100 := fun a ha => by
      obtain ⟨q, hq, rfl⟩ := List.mem_map.mp ha
      have := (nameOk_len (h.p q hq).1).2
      omega
    have e0 : (("" : Str)).length = 0 := by decide +kernel
    refine ⟨?_, ?_⟩
    · rcases h.w1 x hx with ⟨e1, e2⟩ | ⟨e1, e2⟩
      · have := (nameOk_len (h.o.2 _ e2)).2
        rw [e1, e0]
        exact ⟨by omega, by omega⟩
      · have := (nameOk_len e2).2
        exact ⟨part _ e1, by omega⟩
    · rcases h.w2 x hx with ⟨e1, e2⟩ | ⟨e1, e2⟩
      · have := (nameOk_len (h.i.2 _ e2)).2
        rw [e1, e0]
        exact ⟨by omega, by omega⟩
      · have := (nameOk_len e2).2
        exact ⟨part _ e1, by omega⟩
  have hmem : ∀ t ∈ inn ++ outerT r.outs r.wires, t ∈ r.wires.map (·.1) := fun t ht => by
    rcases List.mem_append.mp ht with ht | ht
    · exact (List.mem_filter.mp (hp.mem_iff.mp ht)).1
    · have := (List.mem_filter.mp ht).2
      simpa using this
  refine ⟨by omega, ⟨by have := h.i.1; omega, fun y hy => by have := (nameOk_len (h.i.2 y hy)).2; omega⟩, ⟨by have := h.o.1; omega, fun y hy => by have := (nameOk_len (h.o.2 y hy)).2; omega⟩, ⟨by have := h.few.p; omega, fun y hy => ⟨by have := (nameOk_len (h.p y hy).1).2; omega, blockOk_len (h.p y hy).2⟩⟩, ?_, fun x hx => ?_⟩
  · have h1 := hp.length_eq
    have h2 := List.length_filter_le (fun t : Prt => !decide (t.1 = "")) (r.wires.map (·.1))
    have h3 := List.length_filter_le (fun t : Prt => decide (t ∈ r.wires.map (·.1))) (r.outs.map fun o => (("" : Str), o))
    have h4 := h.few.w
    have h5 := h.o.1
    rw [List.length_map] at h2 h3
    rw [List.length_map, List.length_append]
    unfold outerT
    omega
  · obtain ⟨t, ht, rfl⟩ := List.mem_map.mp hx
    exact hwl _ (lookW_mem (hmem t ht))
end Ly

set_option maxRecDepth 100000
set_option maxHeartbeats 4000000
/-! whole texts -/
namespace Ly
open PySem PySem.Spec PyProof.Rows L2
def loopR : List Str → RSt → Nat → Except Nat RSt
  | [], r, k => if r.done = true then .ok r else .error k
  | z :: zs, r, k => if r.done = true then .error k else match takeR r z with
    | none => .error k
    | some r' => loopR zs r' (k + 1)
/-- a text, read: what was read, or the first wrong row -/
def parseR (z : Str) : Except Nat RSt := loopR (Txt.split z "\n") rs0 0
/-- .. and before the first row there is nothing -/
structure RInv (r : RSt) : Prop extends ROk r where
  z : r.name = none → r.parts = [] ∧ r.wires = [] ∧ r.done = false
theorem rinv0 : RInv rs0 := ⟨⟨⟨by decide, by decide⟩, fun n e => (by cases e), ⟨by decide, fun y hy => (by cases hy)⟩, ⟨by decide, fun y hy => (by cases hy)⟩, List.nodup_nil, fun q hq => (by cases hq), List.nodup_nil, fun x hx => (by cases hx), fun x hx => (by cases hx)⟩, fun _ => ⟨rfl, rfl, rfl⟩⟩
theorem headOf_ok {z n : Str} {ins outs : List Str} (h : headOf z = some (n, ins, outs)) : nameOk n = true ∧ n ∉ portNames ∧ (∀ y ∈ ins ++ outs, nameOk y = true) ∧ max ins.length outs.length ≤ 8 ∧ (ins ++ outs).Nodup := by
  unfold headOf at h
  split at h
  case isFalse => cases h
  unfold headMid at h
  split at h
  case h_2 => cases h
  unfold headEnd at h
  split at h
  case h_2 => cases h
  split at h
  case isFalse => cases h
  unfold headFin at h
  split at h
  case isFalse => cases h
  rename_i hc
  have h := Option.some.inj h
  injection h with h1 h2
  injection h2 with h2 h3
  rw [h1, h2, h3] at hc
  simp only [Bool.and_eq_true, Bool.not_eq_true', decide_eq_true_eq, decide_eq_false_iff_not, List.all_eq_true] at hc
  exact ⟨hc.1.1.1.1, hc.1.1.1.2, hc.1.1.2, hc.1.2, hc.2⟩
theorem portOf_ok {ps : List Prt} {own : List Str} {z : Str} {t : Prt} (h : portOf ps own z = some t) : (t.1 = "" ∧ t.2 ∈ own) ∨ (t.1 ∈ ps.map (·.1) ∧ nameOk t.2 = true) := by
  unfold portOf at h
  split at h
  · split at h
    · rename_i hin
      cases h
      exact .inl ⟨rfl, hin⟩
    · cases h
  · split at h
    · rename_i hc
      cases h
      simp only [Bool.and_eq_true, decide_eq_true_eq] at hc
      exact .inr hc
    · cases h
  · cases h
theorem takeR_inv {r r' : RSt} {z : Str} (hi : RInv r) (hw : r.wires.length + 1 ≤ 14000) (h : takeR r z = some r') : RInv r' ∧ r'.wires.length ≤ r.wires.length + 1 := by
  unfold takeR at h
  cases hn : r.name with
  | none =>
    rw [hn] at h
    obtain ⟨hp, hw0, hd⟩ := hi.z hn
    cases hh : headOf z with
    | none => rw [hh] at h; cases h
    | some y =>
      obtain ⟨n, ins, outs⟩ := y
      rw [hh] at h
      cases h
      obtain ⟨h1, h2, h3, h4, h5⟩ := headOf_ok hh
      refine ⟨⟨⟨⟨hi.few.p, hi.few.w⟩, fun m e => (by cases e; exact h1), ⟨by dsimp only; omega, fun y hy => h3 y (List.mem_append_left _ hy)⟩, ⟨by dsimp only; omega, fun y hy => h3 y (List.mem_append_right _ hy)⟩, hi.nd, hi.p, hi.wn, fun x hx => ?_, fun x hx => ?_⟩, fun e => (by cases e)⟩, by dsimp only; omega⟩
      · dsimp only at hx
        rw [hw0] at hx
        cases hx
      · dsimp only at hx
        rw [hw0] at hx
        cases hx
  | some m =>
    rw [hn] at h
    dsimp only at h
    split at h
    · cases h
      exact ⟨⟨⟨⟨hi.few.p, hi.few.w⟩, fun k e => hi.nm k (hn.trans e), hi.i, hi.o, hi.nd, hi.p, hi.wn, hi.w1, hi.w2⟩, fun e => (by cases e)⟩, by dsimp only; omega⟩
    split at h
    · unfold takePartR at h
      split at h
      case h_2 => cases h
      rename_i a b _
      split at h
      case isFalse => cases h
      rename_i hc
      cases h
      simp only [Bool.and_eq_true, Bool.not_eq_true', decide_eq_false_iff_not, beq_iff_eq] at hc
      obtain ⟨⟨⟨⟨c1, c2⟩, c3⟩, c4⟩, c5⟩ := hc
      have hwe : r.wires = [] := List.length_eq_zero_iff.mp c3
      have hlt : r.parts.length ≠ 16 := beq_eq_false_iff_ne.mp c4
      have hp16 := hi.few.p
      refine ⟨⟨⟨⟨by simp only [List.length_append, List.length_singleton]; omega, hi.few.w⟩, hi.nm, hi.i, hi.o, ?_, ?_, hi.wn, fun x hx => ?_, fun x hx => ?_⟩, fun e => (by rw [hn] at e; cases e)⟩, by dsimp only; omega⟩
      · dsimp only
        rw [List.map_append, List.nodup_append]
        refine ⟨hi.nd, by simp, fun y hy q hq e => ?_⟩
        simp only [List.map_cons, List.map_nil, List.mem_singleton] at hq
        rw [hq] at e
        exact c5 (e ▸ hy)
      · intro q hq
        rcases List.mem_append.mp hq with hq | hq
        · exact hi.p q hq
        · rw [List.mem_singleton.mp hq]
          exact ⟨c1, c2⟩
      · dsimp only at hx
        rw [hwe] at hx
        cases hx
      · dsimp only at hx
        rw [hwe] at hx
        cases hx
    split at h
    · unfold takeWireR at h
      split at h
      case h_2 => cases h
      split at h
      case h_2 => cases h
      rename_i t s e1 e2
      split at h
      · cases h
      rename_i hc
      cases h
      refine ⟨⟨⟨⟨hi.few.p, by simp only [List.length_append, List.length_singleton]; omega⟩, hi.nm, hi.i, hi.o, hi.nd, hi.p, ?_, fun x hx => ?_, fun x hx => ?_⟩, fun e => (by rw [hn] at e; cases e)⟩, by simp only [List.length_append, List.length_singleton]; omega⟩
      · dsimp only
        rw [List.map_append, List.nodup_append]
        refine ⟨hi.wn, by simp, fun y hy q hq e => ?_⟩
        simp only [List.map_cons, List.map_nil, List.mem_singleton] at hq
        rw [hq] at e
        exact hc (e ▸ hy)
      · rcases List.mem_append.mp hx with hx | hx
        · exact hi.w1 x hx
        · rw [List.mem_singleton.mp hx]
          exact portOf_ok e1
      · rcases List.mem_append.mp hx with hx | hx
        · exact hi.w2 x hx
        · rw [List.mem_singleton.mp hx]
          exact portOf_ok e2
    · cases h
/-- Reader.result -/
def spResult (K : PySem.W.Frag) (C CD : Addr) : Sp := fun vs H Q _ => ∃ (x dx i o p w : Addr) (r : RSt) (n : Str), vs = [.ref x] ∧ ReaderAt K C H x dx i o p w r ∧ ROk r ∧ r.name = some n ∧
  ∀ y H' ws, Same H H' → H y = none → IsOrd r.outs r.parts r.wires ws → DiagAt K CD H' y n r.ins r.outs r.parts ws → Q (.ref y) H'
structure TextFits (z : Str) : Prop where
  len : z.length ≤ 1000000
  rows : (Txt.split z "\n").length ≤ 13000
  row : ∀ y ∈ Txt.split z "\n", y.length ≤ 100100
/-- Diagram.parse of a text that is right -/
def spDParse0 (K : PySem.W.Frag) (CD : Addr) : Sp := fun vs H Q _ => ∃ (z : Str) (r : RSt), vs = [.ref CD, .str z] ∧ TextFits z ∧ parseR z = .ok r ∧
  ∀ y H' ws n, r.name = some n → Same H H' → H y = none → IsOrd r.outs r.parts r.wires ws → DiagAt K CD H' y n r.ins r.outs r.parts ws → Q (.ref y) H'
/-- Diagram.parse -/
def spDParse (K : PySem.W.Frag) (CD CE : Addr) : Sp := fun vs H Q E => ∃ (z : Str), vs = [.ref CD, .str z] ∧ TextFits z ∧
  (∀ r, parseR z = .ok r → ∀ y H' ws n, r.name = some n → Same H H' → H y = none → IsOrd r.outs r.parts r.wires ws → DiagAt K CD H' y n r.ins r.outs r.parts ws → Q (.ref y) H') ∧
  ∀ k, parseR z = .error k → ∀ d H', Same H H' → H' d = some (.xd [("row", .int (k : Nat))]) → E (.ref CE) (some d) H'
/-- Diagram.__str__ -/
def spDStr (C : Addr) : Sp := fun vs H Q _ => ∃ (x dx : Addr) (n : Str) (i o p w : Addr) (t : Str), vs = [.ref x] ∧ H x = some (.ins C dx (fsD n i o p w t)) ∧ t.length ≤ sizeLine ∧ Q (.str t) H
end Ly

set_option maxRecDepth 100000
set_option maxHeartbeats 4000000
/-! a text form, read -/
namespace Ly
open PySem PySem.Spec PyProof.Rows L2
def LowT (z : Str) : Prop := ∀ c ∈ sl z, 97 ≤ c ∧ c ≤ 122
theorem nameOk_low {z : Str} (h : nameOk z = true) : LowT z := fun c hc => by
  unfold nameOk at h
  simp only [Bool.and_eq_true] at h
  have := List.all_eq_true.mp h.2 c hc
  unfold isLet at this
  simpa using this
theorem nameOk_res {z : Str} (h : nameOk z = true) : z ∉ reserved := by
  unfold nameOk at h
  simp only [Bool.and_eq_true, Bool.not_eq_true', decide_eq_false_iff_not] at h
  exact h.1.2
def BlkT (z : Str) : Prop := ∀ c ∈ sl z, c = 32 ∨ (48 ≤ c ∧ c ≤ 57) ∨ (97 ≤ c ∧ c ≤ 122)
theorem textOf_blk {n : Str} {c : Option Int} (h : OkC n c) : BlkT (textOf n c) := by
  have hn : ∀ n ∈ portNames, BlkT n := by
    unfold BlkT
    decide +kernel
  have h1 := hn n h.1
  cases c with
  | none => exact h1
  | some v =>
    have hv := h.2 v rfl
    intro d hd
    have e : sl (textOf n (some v)) = sl n ++ (sl " " ++ sl (Str.ofString (toString v))) := by
      show sl (n ++ " " ++ _) = _
      rw [sl_app, sl_app, List.append_assoc]
    rw [e] at hd
    rcases List.mem_append.mp hd with hd | hd
    · exact h1 d hd
    rcases List.mem_append.mp hd with hd | hd
    · have : sl " " = [32] := by decide +kernel
      rw [this] at hd
      exact .inl (List.mem_singleton.mp hd)
    · obtain ⟨m, rfl⟩ := Int.eq_ofNat_of_zero_le hv.1
      have := TL.numL_digits m d (by rw [← TL.tl_num m]; exact hd)
      exact .inr (.inl this)
theorem blockOk_blk {z : Str} (h : blockOk z = true) : BlkT z := by
  unfold blockOk at h
  rcases Bool.or_eq_true_iff.mp h with h | h
  · cases e : primOf z with
    | none => rw [e] at h; cases h
    | some nc =>
      obtain ⟨n, c⟩ := nc
      rw [← text_prim e]
      exact textOf_blk (primOf_ok e)
  · exact fun c hc => .inr (.inr (nameOk_low (Bool.and_eq_true_iff.mp h).1 c hc))
theorem low_not {z : Str} (h : LowT z) {c : Nat} (hc : c < 97 ∨ 122 < c) : c ∉ sl z := fun hm => by
  have := h c hm
  omega
theorem join_two (y a b : Str) : Txt.join y [a, b] = a ++ y ++ b := by
  rw [TL.join_eq]
  rfl
theorem split_2y {y : Str} {s : Nat} {S : List Nat} (ey : sl y = s :: S) (hk : y.cps.all (· < 256) = true) {a b : Str} (ha : s ∉ sl a) (hb : s ∉ sl b) : Txt.split (a ++ y ++ b) y = [a, b] := by
  rw [← join_two]
  refine TL.split_join ey hk (by simp) fun p hp => ?_
  rcases List.mem_cons.mp hp with rfl | hp
  · exact ha
  · rw [List.mem_singleton.mp hp]
    exact hb
theorem split_1y {y : Str} {s : Nat} {S : List Nat} (ey : sl y = s :: S) (hk : y.cps.all (· < 256) = true) {a : Str} (ha : s ∉ sl a) : Txt.split a y = [a] := by
  have := TL.split_join ey hk (parts := [a]) (by simp) fun p hp => by rw [List.mem_singleton.mp hp]; exact ha
  rw [TL.join_eq] at this
  exact this
theorem sl_blk : sl "block " = [98, 108, 111, 99, 107, 32] := by decide +kernel
theorem sl_op : sl "(" = [40] := by decide +kernel
theorem sl_cl : sl ")" = [41] := by decide +kernel
theorem sl_sc : sl ";" = [59] := by decide +kernel
theorem sl_sp : sl " " = [32] := by decide +kernel
theorem sl_em : sl "" = [] := by decide +kernel
theorem sl_nl : sl "\n" = [10] := by decide +kernel
theorem sl_dot : sl "." = [46] := by decide +kernel
theorem sl_pt : sl "  part " = [32, 32, 112, 97, 114, 116, 32] := by decide +kernel
theorem sl_eq : sl " = " = [32, 61, 32] := by decide +kernel
theorem sl_ar : sl " <- " = [32, 60, 45, 32] := by decide +kernel
theorem sl_s2 : sl "  " = [32, 32] := by decide +kernel
theorem sl_end : sl "end" = [101, 110, 100] := by decide +kernel
/-- letters and spaces -/
def LsT (z : Str) : Prop := ∀ c ∈ sl z, c = 32 ∨ (97 ≤ c ∧ c ≤ 122)
theorem join_ls {y : Str} {xs : List Str} (hy : LsT y) (h : ∀ x ∈ xs, LsT x) : LsT (Txt.join y xs) := fun c hc => by
  rw [TL.join_eq] at hc
  have e := TL.tl_join y xs
  have hm : ∀ (ps : List (List Nat)), (∀ p ∈ ps, ∀ c ∈ p, c = 32 ∨ (97 ≤ c ∧ c ≤ 122)) → ∀ c ∈ TL.joinL (sl y) ps, c = 32 ∨ (97 ≤ c ∧ c ≤ 122) := by
    intro ps
    induction ps with
    | nil => intro _ c hc; cases hc
    | cons p r ih =>
      intro hp c hc
      cases r with
      | nil => exact hp p List.mem_cons_self c hc
      | cons q r =>
        have hc' : c ∈ p ++ (sl y ++ TL.joinL (sl y) (q :: r)) := hc
        rcases List.mem_append.mp hc' with hc | hc
        · exact hp p List.mem_cons_self c hc
        rcases List.mem_append.mp hc with hc | hc
        · exact hy c hc
        · exact ih (fun q hq => hp q (List.mem_cons_of_mem _ hq)) c hc
  refine hm (xs.map sl) (fun p hp => ?_) c (e ▸ hc)
  obtain ⟨x, hx, rfl⟩ := List.mem_map.mp hp
  exact h x hx
theorem low_ls {z : Str} (h : LowT z) : LsT z := fun c hc => .inr (h c hc)
theorem ls_not {z : Str} (h : LsT z) {c : Nat} (hc : c ≠ 32 ∧ (c < 97 ∨ 122 < c)) : c ∉ sl z := fun hm => by
  have := h c hm
  omega
theorem cnt0 {z y : Str} {c : Nat} (hy : y = ⟨#[c]⟩) (h : c ∉ sl z) : Txt.count z y = 0 := by
  subst hy
  rw [count_cnt]
  exact cnt_none c _ h
/-- what a diagram's data must be -/
structure DataOk (n : Str) (ins outs : List Str) (ps : List Prt) (ws : List (Prt × Prt)) : Prop where
  n : nameOk n = true ∧ n ∉ portNames
  io : (∀ y ∈ ins ++ outs, nameOk y = true) ∧ ins.length ≤ 8 ∧ outs.length ≤ 8 ∧ (ins ++ outs).Nodup
  p : ps.length ≤ 16 ∧ (∀ q ∈ ps, nameOk q.1 = true ∧ blockOk q.2 = true) ∧ (ps.map (·.1)).Nodup
  wn : (ws.map (·.1)).Nodup
  w1 : ∀ x ∈ ws, (x.1.1 = "" ∧ x.1.2 ∈ outs) ∨ (x.1.1 ∈ ps.map (·.1) ∧ nameOk x.1.2 = true)
  w2 : ∀ x ∈ ws, (x.2.1 = "" ∧ x.2.2 ∈ ins) ∨ (x.2.1 ∈ ps.map (·.1) ∧ nameOk x.2.2 = true)
theorem head_back {n : Str} {ins outs : List Str} (hn : nameOk n = true ∧ n ∉ portNames) (io : (∀ y ∈ ins ++ outs, nameOk y = true) ∧ ins.length ≤ 8 ∧ outs.length ≤ 8 ∧ (ins ++ outs).Nodup) : headOf (headText n ins outs) = some (n, ins, outs) := by
  have lown := nameOk_low hn.1
  have hsp : LsT " " := fun c hc => by rw [sl_sp] at hc; exact .inl (List.mem_singleton.mp hc)
  have hem : LsT "" := fun c hc => by rw [sl_em] at hc; cases hc
  have lsJ : LsT (Txt.join " " ins) := join_ls hsp fun x hx => low_ls (nameOk_low (io.1 x (List.mem_append_left _ hx)))
  have lsO : LsT (Txt.join "" (outs.map fun o => " " ++ o)) := join_ls hem fun x hx => by
    obtain ⟨o, ho, rfl⟩ := List.mem_map.mp hx
    intro c hc
    rw [sl_app] at hc
    rcases List.mem_append.mp hc with hc | hc
    · exact hsp c hc
    · exact low_ls (nameOk_low (io.1 o (List.mem_append_right _ ho))) c hc
  have ehead : headText n ins outs = "block " ++ (n ++ "(" ++ (Txt.join " " ins ++ ";" ++ Txt.join "" (outs.map fun o => " " ++ o))) ++ ")" := by
    unfold headText
    simp only [PySem.Str.append_assoc]
  have hp : ("(" : Str) = ⟨#[40]⟩ := by decide +kernel
  have hs : (";" : Str) = ⟨#[59]⟩ := by decide +kernel
  have c1 : Txt.startswith (headText n ins outs) "block " = true := starts_iff.mpr ⟨_, by rw [ehead, PySem.Str.append_assoc]⟩
  have c2 : Txt.endswith (headText n ins outs) ")" = true := ends_iff.mpr ⟨_, ehead⟩
  have q1 : Txt.count "block " "(" = 0 := by decide +kernel
  have q2 : Txt.count ")" "(" = 0 := by decide +kernel
  have q3 : Txt.count "(" "(" = 1 := by decide +kernel
  have q4 : Txt.count ";" "(" = 0 := by decide +kernel
  have r1 : Txt.count "block " ";" = 0 := by decide +kernel
  have r2 : Txt.count ")" ";" = 0 := by decide +kernel
  have r3 : Txt.count "(" ";" = 0 := by decide +kernel
  have r4 : Txt.count ";" ";" = 1 := by decide +kernel
  have c3 : Txt.count (headText n ins outs) "(" = 1 := by
    rw [ehead]
    simp only [count_app hp, q1, q2, q3, q4, cnt0 hp (low_not lown (by decide)), cnt0 hp (ls_not lsJ (by decide)), cnt0 hp (ls_not lsO (by decide))]
    rfl
  have c4 : Txt.count (headText n ins outs) ";" = 1 := by
    rw [ehead]
    simp only [count_app hs, r1, r2, r3, r4, cnt0 hs (low_not lown (by decide)), cnt0 hs (ls_not lsJ (by decide)), cnt0 hs (ls_not lsO (by decide))]
    rfl
  unfold headOf
  rw [c1, c2, decide_eq_true c3, decide_eq_true c4, show (true && true && true && true) = true from rfl, if_pos rfl, ehead]
  have hcm : ∀ X : Str, cutS ("block " ++ X ++ ")") (some 6) (some (-1)) = X := fun X => cut_mid (n := 6) (by decide +kernel) (by decide +kernel)
  rw [hcm]
  unfold headMid
  have hrest : (40 : Nat) ∉ sl (Txt.join " " ins ++ ";" ++ Txt.join "" (outs.map fun o => " " ++ o)) := by
    rw [sl_app, sl_app, sl_sc]
    intro hm
    rcases List.mem_append.mp hm with hm | hm
    · rcases List.mem_append.mp hm with hm | hm
      · exact ls_not lsJ (by decide) hm
      · simp at hm
    · exact ls_not lsO (by decide) hm
  rw [split_2y (s := 40) (S := []) sl_op (by decide +kernel) (low_not lown (by decide)) hrest]
  dsimp only
  unfold headEnd
  rw [split_2y (s := 59) (S := []) sl_sc (by decide +kernel) (ls_not lsJ (by decide)) (ls_not lsO (by decide))]
  dsimp only
  have names : ∀ y ∈ ins ++ outs, y ≠ "" ∧ (32 : Nat) ∉ sl y := fun y hy => ⟨nameOk_ne (io.1 y hy), low_not (nameOk_low (io.1 y hy)) (by decide)⟩
  have hj : ∀ xs : List Str, (∀ y ∈ xs, y ≠ "" ∧ (32 : Nat) ∉ sl y) → headPorts (Txt.join " " xs) = xs := fun xs hx => by
    unfold headPorts
    cases xs with
    | nil =>
      rw [if_pos (by rw [TL.join_eq]; rfl)]
    | cons a r =>
      have ne : Txt.join " " (a :: r) ≠ "" := fun e => by
        have e1 := congrArg sl e
        rw [TL.join_eq] at e1
        have e2 := TL.tl_join " " (a :: r)
        have e3 : TL.joinL (sl " ") ((a :: r).map sl) = [] := by
          rw [sl_em] at e1
          rw [← e1]
          exact e2.symm
        have ha : sl a = [] := by
          cases r with
          | nil => exact e3
          | cons b r => exact (List.append_eq_nil_iff.mp (show sl a ++ _ = [] from e3)).1
        exact (hx a List.mem_cons_self).1 (sl_inj (by rw [ha, sl_em]))
      rw [if_neg ne]
      exact TL.split_join (s := 32) (S := []) sl_sp (by decide +kernel) (by simp) fun p hp => (hx p hp).2
  have hO : (decide (Txt.join "" (outs.map fun o => " " ++ o) = "") || Txt.startswith (Txt.join "" (outs.map fun o => " " ++ o)) " ") = true ∧ headOut (Txt.join "" (outs.map fun o => " " ++ o)) = outs := by
    cases ho : outs with
    | nil =>
      have e : Txt.join "" (([] : List Str).map fun o => " " ++ o) = "" := by rw [TL.join_eq]; rfl
      rw [e]
      exact ⟨by rw [decide_eq_true rfl]; rfl, by unfold headOut; rw [if_pos rfl]⟩
    | cons a r =>
      have key : ∀ (xs : List Str) (a : Str), Txt.join "" ((a :: xs).map fun o => " " ++ o) = " " ++ Txt.join " " (a :: xs) := by
        intro xs
        induction xs with
        | nil => intro a; rw [TL.join_eq, TL.join_eq]; rfl
        | cons b xs ih =>
          intro a
          have := ih b
          rw [TL.join_eq, TL.join_eq] at this ⊢
          show " " ++ a ++ "" ++ Str.join "" ((b :: xs).map fun o => " " ++ o) = " " ++ (a ++ " " ++ Str.join " " (b :: xs))
          rw [this]
          refine sl_inj ?_
          simp only [sl_app, sl_em, List.append_nil, List.append_assoc]
      rw [key r a]
      have ne : (" " : Str) ++ Txt.join " " (a :: r) ≠ "" := fun e => by
        have e1 := congrArg sl e
        rw [sl_app, sl_sp, sl_em] at e1
        cases e1
      refine ⟨by rw [show Txt.startswith ((" " : Str) ++ Txt.join " " (a :: r)) " " = true from starts_iff.mpr ⟨_, rfl⟩, Bool.or_true], ?_⟩
      unfold headOut
      have hcp : ∀ X : Str, cutS (" " ++ X) (some 1) none = X := fun X => cut_pre (n := 1) (by decide +kernel)
      rw [if_neg ne, hcp]
      exact TL.split_join (s := 32) (S := []) sl_sp (by decide +kernel) (by simp) fun p hp => (names p (List.mem_append_right _ (by rw [ho]; exact hp))).2
  rw [hO.1, if_pos rfl, hO.2, hj ins fun y hy => names y (List.mem_append_left _ hy)]
  unfold headFin
  have hall : (ins ++ outs).all nameOk = true := List.all_eq_true.mpr io.1
  rw [hn.1, decide_eq_false hn.2, hall, decide_eq_true (show max ins.length outs.length ≤ 8 by omega), decide_eq_true io.2.2.2]
  rfl
/-! ### parts -/
theorem part_starts (p : Prt) : Txt.startswith (partText p) "  part " = true ∧ cutS (partText p) (some 7) none = p.1 ++ " = " ++ p.2 ∧ partText p ≠ "end" := by
  have e : partText p = "  part " ++ (p.1 ++ " = " ++ p.2) := by
    unfold partText
    simp only [PySem.Str.append_assoc]
  refine ⟨starts_iff.mpr ⟨_, e⟩, by rw [e]; exact cut_pre (n := 7) (by decide +kernel), fun z => ?_⟩
  rw [e] at z
  have := congrArg sl z
  rw [sl_app, sl_pt, sl_end] at this
  cases this
theorem split_part {p : Prt} (h1 : LowT p.1) (h2 : BlkT p.2) : Txt.split (p.1 ++ " = " ++ p.2) " = " = [p.1, p.2] := by
  refine TL.map_tl_inj ?_
  rw [TL.split_spl _ " = " (by rw [show TL.tl " = " = [32, 61, 32] from sl_eq]; simp) (TL.kind_ok (by decide +kernel))]
  have e : TL.tl (p.1 ++ " = " ++ p.2) = sl p.1 ++ ([32, 61, 32] ++ sl p.2) := by
    show sl (p.1 ++ " = " ++ p.2) = _
    rw [sl_app, sl_app, sl_eq, List.append_assoc]
  rw [e, show TL.tl " = " = [32, 61, 32] from sl_eq, TL.spl_part1 (low_not h1 (by decide)), List.nil_append, TL.spl_last, List.nil_append]
  · rfl
  · intro i hi
    cases hp : TL.pre [32, 61, 32] ((sl p.2).drop i) with
    | false => rfl
    | true =>
      exfalso
      have e : ((sl p.2).drop i).take 3 = [32, 61, 32] := eq_of_beq hp
      have hm : (61 : Nat) ∈ sl p.2 := List.mem_of_mem_drop (List.mem_of_mem_take (by rw [e]; decide))
      have := h2 61 hm
      omega
theorem take_part {r : RSt} {p : Prt} (hn : r.name.isSome = true) (h : nameOk p.1 = true ∧ blockOk p.2 = true) (hw : r.wires = []) (hl : r.parts.length < 16) (hd : p.1 ∉ r.parts.map (·.1)) : takeR r (partText p) = some { r with parts := r.parts ++ [p] } := by
  obtain ⟨m, hm⟩ := Option.isSome_iff_exists.mp hn
  obtain ⟨c1, c2, c3⟩ := part_starts p
  unfold takeR
  rw [hm]
  dsimp only
  rw [if_neg c3, c1, if_pos rfl, c2, split_part (nameOk_low h.1) (blockOk_blk h.2)]
  unfold takePartR
  dsimp only
  have h16 : (r.parts.length == 16) = false := beq_eq_false_iff_ne.mpr (by omega)
  rw [h.1, h.2, h16, decide_eq_false hd, hw, ← hm]
  rfl
theorem loop_cons {r r' : RSt} {z : Str} {zs : List Str} {k : Nat} (hd : r.done = false) (ht : takeR r z = some r') : loopR (z :: zs) r k = loopR zs r' (k + 1) := by
  show (if r.done = true then Except.error k else match takeR r z with | none => Except.error k | some r' => loopR zs r' (k + 1)) = _
  rw [hd, if_neg (by decide), ht]
theorem loop_done {r : RSt} {k : Nat} (hd : r.done = true) : loopR [] r k = .ok r := by
  show (if r.done = true then Except.ok r else Except.error k) = _
  rw [if_pos hd]
theorem take_parts : ∀ (ps : List Prt) {r : RSt} {k : Nat} {rest : List Str}, r.name.isSome = true → r.done = false → r.wires = [] → (∀ p ∈ ps, nameOk p.1 = true ∧ blockOk p.2 = true) → ((r.parts ++ ps).map (·.1)).Nodup → (r.parts ++ ps).length ≤ 16 →
    loopR (ps.map partText ++ rest) r k = loopR rest { r with parts := r.parts ++ ps } (k + ps.length)
  | [], r, k, rest, _, _, _, _, _, _ => by
    rw [List.append_nil]
    rfl
  | p :: ps, r, k, rest, hn, hd, hw, hp, nd, hl => by
    have hl2 := hl
    rw [List.length_append, List.length_cons] at hl2
    have hnot : p.1 ∉ r.parts.map (·.1) := fun hm => by
      rw [List.map_append, List.map_cons] at nd
      exact (List.nodup_append.mp nd).2.2 _ hm _ List.mem_cons_self rfl
    have ht := take_part hn (hp p List.mem_cons_self) hw (by omega) hnot
    show loopR (partText p :: (ps.map partText ++ rest)) r k = _
    rw [loop_cons hd ht]
    rw [take_parts ps (r := { r with parts := r.parts ++ [p] }) hn hd hw (fun q hq => hp q (List.mem_cons_of_mem _ hq)) (by dsimp only; rw [List.append_assoc]; exact nd) (by dsimp only; rw [List.append_assoc]; exact hl)]
    dsimp only
    have ek : k + 1 + ps.length = k + (ps.length + 1) := by omega
    rw [List.append_assoc, List.length_cons, ek]
    rfl
/-! ### wires -/
/-- a port as a diagram's text has it -/
def PortOk (own : List Str) (ps : List Prt) (t : Prt) : Prop := (t.1 = "" ∧ t.2 ∈ own) ∨ (t.1 ∈ ps.map (·.1) ∧ nameOk t.2 = true)
theorem port_signs {own : List Str} {ps : List Prt} {t : Prt} (h : PortOk own ps t) (ho : ∀ y ∈ own, nameOk y = true) (hp : ∀ q ∈ ps, nameOk q.1 = true) : (∀ c ∈ sl (portText t), c = 46 ∨ (97 ≤ c ∧ c ≤ 122)) ∧ portText t ≠ "part" ∧ portOf ps own (portText t) = some t := by
  rcases h with ⟨h1, h2⟩ | ⟨h1, h2⟩
  · have hn := ho _ h2
    have hl := nameOk_low hn
    have e : portText t = t.2 := by
      unfold portText
      rw [if_pos h1]
    rw [e]
    refine ⟨fun c hc => .inr (hl c hc), fun z => nameOk_res hn (by rw [z]; decide +kernel), ?_⟩
    unfold portOf
    rw [split_1y (s := 46) (S := []) sl_dot (by decide +kernel) (low_not hl (by decide))]
    dsimp only
    rw [if_pos h2]
    exact congrArg some (Prod.ext h1.symm rfl)
  · have hn1 : nameOk t.1 = true := by
      obtain ⟨q, hq, e⟩ := List.mem_map.mp h1
      rw [← e]
      exact hp q hq
    have l1 := nameOk_low hn1
    have l2 := nameOk_low h2
    have e : portText t = t.1 ++ "." ++ t.2 := by
      unfold portText
      rw [if_neg (nameOk_ne hn1)]
    rw [e]
    refine ⟨fun c hc => ?_, fun z => ?_, ?_⟩
    · rw [sl_app, sl_app, sl_dot] at hc
      rcases List.mem_append.mp hc with hc | hc
      · rcases List.mem_append.mp hc with hc | hc
        · exact .inr (l1 c hc)
        · exact .inl (List.mem_singleton.mp hc)
      · exact .inr (l2 c hc)
    · have e1 := congrArg sl z
      rw [sl_app, sl_app, sl_dot] at e1
      have : (46 : Nat) ∈ sl "part" := by
        rw [← e1]
        simp
      exact absurd this (by decide +kernel)
    · unfold portOf
      rw [split_2y (s := 46) (S := []) sl_dot (by decide +kernel) (low_not l1 (by decide)) (low_not l2 (by decide))]
      dsimp only
      rw [decide_eq_true h1, h2]
      rfl
theorem wire_starts {x : Prt × Prt} (h1 : ∀ c ∈ sl (portText x.1), c = 46 ∨ (97 ≤ c ∧ c ≤ 122)) (hp : portText x.1 ≠ "part") (h2 : ∀ c ∈ sl (portText x.2), c = 46 ∨ (97 ≤ c ∧ c ≤ 122)) :
    wireText x ≠ "end" ∧ Txt.startswith (wireText x) "  part " = false ∧ Txt.startswith (wireText x) "  " = true ∧ Txt.split (cutS (wireText x) (some 2) none) " <- " = [portText x.1, portText x.2] := by
  have e : wireText x = "  " ++ (portText x.1 ++ " <- " ++ portText x.2) := by
    unfold wireText
    simp only [PySem.Str.append_assoc]
  have n32 : ∀ {u : Str}, (∀ c ∈ sl u, c = 46 ∨ (97 ≤ c ∧ c ≤ 122)) → (32 : Nat) ∉ sl u := fun h hm => by
    have := h 32 hm
    omega
  refine ⟨fun z => ?_, ?_, starts_iff.mpr ⟨_, e⟩, ?_⟩
  · rw [e] at z
    have := congrArg sl z
    rw [sl_app, sl_s2, sl_end] at this
    cases this
  · cases c : Txt.startswith (wireText x) "  part " with
    | false => rfl
    | true =>
      exfalso
      obtain ⟨r, er⟩ := starts_iff.mp c
      rw [e] at er
      have e1 := congrArg sl er
      rw [sl_app, sl_s2, sl_app, sl_app, sl_ar, sl_app, sl_pt] at e1
      have e2 : sl (portText x.1) ++ (32 :: ([60, 45, 32] ++ sl (portText x.2))) = [112, 97, 114, 116] ++ (32 :: sl r) := by
        have := List.append_cancel_left (as := [32, 32]) (show [32, 32] ++ (sl (portText x.1) ++ (32 :: ([60, 45, 32] ++ sl (portText x.2)))) = [32, 32] ++ ([112, 97, 114, 116] ++ (32 :: sl r)) by
          rw [← List.append_assoc] at e1 ⊢
          simpa using e1)
        exact this
      have tw : ∀ (l m : List Nat), 32 ∉ l → (l ++ (32 :: m)).takeWhile (fun c => decide (c ≠ 32)) = l := by
        intro l m hl
        induction l with
        | nil => simp
        | cons a l ih =>
          have ha : a ≠ 32 := fun z => hl (by rw [z]; exact List.mem_cons_self)
          rw [List.cons_append, List.takeWhile_cons, if_pos (by simpa using ha), ih fun z => hl (List.mem_cons_of_mem _ z)]
      have e3 := congrArg (List.takeWhile fun c => decide (c ≠ 32)) e2
      rw [tw _ _ (n32 h1), tw _ _ (by decide)] at e3
      exact hp (sl_inj (by rw [e3]; decide +kernel))
  · have hcp : ∀ X : Str, cutS ("  " ++ X) (some 2) none = X := fun X => cut_pre (n := 2) (by decide +kernel)
    rw [e, hcp]
    exact split_2y (s := 32) (S := [60, 45, 32]) sl_ar (by decide +kernel) (n32 h1) (n32 h2)
theorem take_wire {r : RSt} {x : Prt × Prt} (hn : r.name.isSome = true) (ho : ∀ y ∈ r.outs, nameOk y = true) (hi : ∀ y ∈ r.ins, nameOk y = true) (hp : ∀ q ∈ r.parts, nameOk q.1 = true) (h1 : PortOk r.outs r.parts x.1) (h2 : PortOk r.ins r.parts x.2) (hd : x.1 ∉ r.wires.map (·.1)) :
    takeR r (wireText x) = some { r with wires := r.wires ++ [x] } := by
  obtain ⟨m, hm⟩ := Option.isSome_iff_exists.mp hn
  obtain ⟨a1, a2, a3⟩ := port_signs h1 ho hp
  obtain ⟨b1, b2, b3⟩ := port_signs h2 hi hp
  obtain ⟨c1, c2, c3, c4⟩ := wire_starts a1 a2 b1
  unfold takeR
  rw [hm]
  dsimp only
  rw [if_neg c1, c2, if_neg (by decide), c3, if_pos rfl, c4]
  unfold takeWireR
  dsimp only
  rw [a3, b3]
  dsimp only
  rw [if_neg hd, ← hm]
theorem take_wires : ∀ (ws : List (Prt × Prt)) {r : RSt} {k : Nat} {rest : List Str}, r.name.isSome = true → r.done = false → (∀ y ∈ r.outs, nameOk y = true) → (∀ y ∈ r.ins, nameOk y = true) → (∀ q ∈ r.parts, nameOk q.1 = true) →
    (∀ x ∈ ws, PortOk r.outs r.parts x.1 ∧ PortOk r.ins r.parts x.2) → ((r.wires ++ ws).map (·.1)).Nodup → loopR (ws.map wireText ++ rest) r k = loopR rest { r with wires := r.wires ++ ws } (k + ws.length)
  | [], r, k, rest, _, _, _, _, _, _, _ => by
    rw [List.append_nil]
    rfl
  | x :: ws, r, k, rest, hn, hd, ho, hi, hp, hx, nd => by
    have hnot : x.1 ∉ r.wires.map (·.1) := fun hm => by
      rw [List.map_append, List.map_cons] at nd
      exact (List.nodup_append.mp nd).2.2 _ hm _ List.mem_cons_self rfl
    have ht := take_wire hn ho hi hp (hx x List.mem_cons_self).1 (hx x List.mem_cons_self).2 hnot
    show loopR (wireText x :: (ws.map wireText ++ rest)) r k = _
    rw [loop_cons hd ht]
    rw [take_wires ws (r := { r with wires := r.wires ++ [x] }) hn hd ho hi hp (fun q hq => hx q (List.mem_cons_of_mem _ hq)) (by dsimp only; rw [List.append_assoc]; exact nd)]
    dsimp only
    have ek : k + 1 + ws.length = k + (ws.length + 1) := by omega
    rw [List.append_assoc, List.length_cons, ek]
    rfl
/-! ### the text -/
theorem rows_nl {n : Str} {ins outs : List Str} {ps : List Prt} {ws : List (Prt × Prt)} (h : DataOk n ins outs ps ws) : ∀ z ∈ textRows n ins outs ps ws, (10 : Nat) ∉ sl z := by
  have hon : ∀ y ∈ outs, nameOk y = true := fun y hy => h.io.1 y (List.mem_append_right _ hy)
  have hin : ∀ y ∈ ins, nameOk y = true := fun y hy => h.io.1 y (List.mem_append_left _ hy)
  have hpn : ∀ q ∈ ps, nameOk q.1 = true := fun q hq => (h.p.2.1 q hq).1
  intro z hz hm
  unfold textRows at hz
  simp only [List.mem_append, List.mem_singleton, List.mem_map] at hz
  rcases hz with ((rfl | ⟨p, hp, rfl⟩) | ⟨x, hx, rfl⟩) | rfl
  · unfold headText at hm
    simp only [sl_app, List.mem_append, sl_blk, sl_op, sl_sc, sl_cl] at hm
    have hsp : LsT " " := fun c hc => by rw [sl_sp] at hc; exact .inl (List.mem_singleton.mp hc)
    have hem : LsT "" := fun c hc => by rw [sl_em] at hc; cases hc
    rcases hm with (((((hm | hm) | hm) | hm) | hm) | hm) | hm
    · revert hm; decide
    · exact low_not (nameOk_low h.n.1) (by decide) hm
    · revert hm; decide
    · exact ls_not (join_ls hsp fun x hx => low_ls (nameOk_low (hin x hx))) (by decide) hm
    · revert hm; decide
    · refine ls_not (join_ls hem fun x hx => ?_) (by decide) hm
      obtain ⟨o, ho, rfl⟩ := List.mem_map.mp hx
      intro c hc
      rw [sl_app] at hc
      rcases List.mem_append.mp hc with hc | hc
      · exact hsp c hc
      · exact low_ls (nameOk_low (hon o ho)) c hc
    · revert hm; decide
  · unfold partText at hm
    simp only [sl_app, List.mem_append, sl_pt, sl_eq] at hm
    rcases hm with ((hm | hm) | hm) | hm
    · revert hm; decide
    · exact low_not (nameOk_low (h.p.2.1 p hp).1) (by decide) hm
    · revert hm; decide
    · have := blockOk_blk (h.p.2.1 p hp).2 10 hm
      omega
  · obtain ⟨a1, a2, a3⟩ := port_signs (h.w1 x hx) hon hpn
    obtain ⟨b1, b2, b3⟩ := port_signs (h.w2 x hx) hin hpn
    unfold wireText at hm
    simp only [sl_app, List.mem_append, sl_s2, sl_ar] at hm
    rcases hm with ((hm | hm) | hm) | hm
    · revert hm; decide
    · have := a1 10 hm
      omega
    · revert hm; decide
    · have := b1 10 hm
      omega
  · rw [sl_end] at hm
    revert hm
    decide
theorem split_textD {n : Str} {ins outs : List Str} {ps : List Prt} {ws : List (Prt × Prt)} (h : DataOk n ins outs ps ws) : Txt.split (textOfD n ins outs ps ws) "\n" = textRows n ins outs ps ws := by
  unfold textOfD
  exact TL.split_join (s := 10) (S := []) sl_nl (by decide +kernel) (by unfold textRows; simp) (rows_nl h)
/-- THE READ-BACK -/
theorem parse_text {n : Str} {ins outs : List Str} {ps : List Prt} {ws : List (Prt × Prt)} (h : DataOk n ins outs ps ws) : parseR (textOfD n ins outs ps ws) = .ok ⟨some n, ins, outs, ps, ws, true⟩ := by
  have hon : ∀ y ∈ outs, nameOk y = true := fun y hy => h.io.1 y (List.mem_append_right _ hy)
  have hin : ∀ y ∈ ins, nameOk y = true := fun y hy => h.io.1 y (List.mem_append_left _ hy)
  have hpn : ∀ q ∈ ps, nameOk q.1 = true := fun q hq => (h.p.2.1 q hq).1
  unfold parseR
  rw [split_textD h]
  have e : textRows n ins outs ps ws = headText n ins outs :: (ps.map partText ++ (ws.map wireText ++ [("end" : Str)])) := by
    unfold textRows
    simp
  have ht : takeR rs0 (headText n ins outs) = some { rs0 with name := some n, ins := ins, outs := outs } := by
    unfold takeR
    show (headOf (headText n ins outs)).map _ = _
    rw [head_back h.n h.io]
    rfl
  rw [e, loop_cons rfl ht]
  rw [take_parts ps (r := { rs0 with name := some n, ins := ins, outs := outs }) rfl rfl rfl h.p.2.1 h.p.2.2 h.p.1]
  dsimp only
  rw [show rs0.parts ++ ps = ps from rfl]
  rw [take_wires ws (r := { rs0 with name := some n, ins := ins, outs := outs, parts := ps }) rfl rfl hon hin hpn (fun x hx => ⟨h.w1 x hx, h.w2 x hx⟩) h.wn]
  dsimp only
  rw [show rs0.wires ++ ws = ws from rfl]
  have he : takeR { rs0 with name := some n, ins := ins, outs := outs, parts := ps, wires := ws } "end" = some { rs0 with name := some n, ins := ins, outs := outs, parts := ps, wires := ws, done := true } := by
    unfold takeR
    dsimp only
    rw [if_pos rfl]
  rw [loop_cons rfl he, loop_done rfl]
end Ly

set_option maxRecDepth 100000
set_option maxHeartbeats 4000000
/-! drawn diagrams -/
namespace Ly
open PySem PySem.Spec PyProof.Rows L2
def WordsOk (ws : List Str) : Prop := (∀ y ∈ ws, nameOk y = true) ∧ ws.Nodup
def ltrs : Str := "abcdefghijklmnopqrstuvwxyz"
theorem ltrs_at : ∀ i : Nat, i < 26 → ltrs.cps.toList[i]? = some (97 + i) := by decide +kernel
theorem ltrs_len : ltrs.length = 26 := by decide +kernel
theorem sl_fold (d : Nat) : ∀ (n : Nat) (acc : Array Nat), ((List.replicate n #[d]).foldl (· ++ ·) acc).toList = acc.toList ++ List.replicate n d
  | 0, acc => by simp
  | n + 1, acc => by
    rw [List.replicate_succ, List.foldl_cons, sl_fold d n, List.replicate_succ]
    simp
theorem sl_mul (d n : Nat) : sl (Txt.mul ⟨#[d]⟩ (n : Int)) = List.replicate n d := by
  unfold Txt.mul
  by_cases h0 : (n : Int) < 1
  · rw [if_pos h0]
    have : n = 0 := by omega
    subst this
    rfl
  · rw [if_neg h0]
    by_cases h1 : ((n : Int) == 1 || (⟨#[d]⟩ : Str).length == 0) = true
    · rw [if_pos h1]
      have : n = 1 := by
        rcases Bool.or_eq_true_iff.mp h1 with h | h
        · have := eq_of_beq h
          omega
        · cases h
      subst this
      rfl
    · rw [if_neg h1, Int.toNat_natCast]
      show ((List.replicate n #[d]).foldl (· ++ ·) #[]).toList = _
      rw [sl_fold]
      rfl
theorem mulOk_small {x : Str} {n : Nat} (hx : x.length = 1) (hn : n ≤ 100) : MulOk x (n : Int) := by
  refine ⟨?_, fun h0 h1 => ?_, fun h0 h1 => ?_⟩
  · rw [decide_eq_false (by omega), decide_eq_false (by omega)]
    rfl
  · rw [hx]
    have h2 : (0 : Int) < n := by omega
    have h3 : (1 : Int) ≤ (2 ^ 63 - 1) / (n : Int) := by
      rw [Int.le_ediv_iff_mul_le h2]
      omega
    omega
  · rw [hx, Int.toNat_natCast, Nat.one_mul]
    exact PyProof.Rows.short24 (by omega)
def sgnS (f k : Nat) : Str := ⟨#[97 + (f + 5 * k) % 26]⟩
def wordS (f m d w k : Nat) : Str := if w = 0 then sgnS f k ++ Txt.mul ⟨#[d]⟩ (m : Int) else if w = 1 then Txt.mul ⟨#[d]⟩ (m : Int) ++ sgnS f k else Txt.mul "q" ((1 + k / 6 : Nat) : Int) ++ sgnS f k
theorem q_is : ("q" : Str) = ⟨#[113]⟩ := by decide +kernel
theorem sl_word (f m d w k : Nat) : sl (wordS f m d w k) = if w = 0 then (97 + (f + 5 * k) % 26) :: List.replicate m d else if w = 1 then List.replicate m d ++ [97 + (f + 5 * k) % 26] else List.replicate (1 + k / 6) 113 ++ [97 + (f + 5 * k) % 26] := by
  unfold wordS
  split
  · rw [sl_app, sl_mul]
    rfl
  · split
    · rw [sl_app, sl_mul]
      rfl
    · rw [sl_app, q_is, sl_mul]
      rfl
theorem word_low {f m d w k : Nat} (hd : 97 ≤ d ∧ d ≤ 122) : LowT (wordS f m d w k) := fun c hc => by
  rw [sl_word] at hc
  have h26 : (f + 5 * k) % 26 < 26 := Nat.mod_lt _ (by decide)
  split at hc
  · rcases List.mem_cons.mp hc with rfl | hc
    · omega
    · rw [List.eq_of_mem_replicate hc]; exact hd
  · split at hc
    · rcases List.mem_append.mp hc with hc | hc
      · rw [List.eq_of_mem_replicate hc]; exact hd
      · rw [List.mem_singleton.mp hc]; omega
    · rcases List.mem_append.mp hc with hc | hc
      · rw [List.eq_of_mem_replicate hc]; omega
      · rw [List.mem_singleton.mp hc]; omega
theorem word_len {f m d w k : Nat} (hm : m ≤ 7) (hk : k < 14) : 1 ≤ (wordS f m d w k).length ∧ (wordS f m d w k).length ≤ 8 := by
  rw [← sl_len, sl_word]
  split
  · simp; omega
  · split
    · simp; omega
    · simp; omega
theorem rep_no {m d : Nat} {a b : Nat} {r : List Nat} (h : List.replicate m d = a :: b :: r) (ne : a ≠ b) : False := by
  have h1 : a = d := List.eq_of_mem_replicate (by rw [h]; exact List.mem_cons_self)
  have h2 : b = d := List.eq_of_mem_replicate (by rw [h]; exact List.mem_cons_of_mem _ List.mem_cons_self)
  omega
theorem word_res {f m d w k : Nat} : wordS f m d w k ∉ reserved := fun hm => by
  have hs : sl (wordS f m d w k) ∈ reserved.map sl := List.mem_map.mpr ⟨_, hm, rfl⟩
  have er : reserved.map sl = [[98, 108, 111, 99, 107], [112, 97, 114, 116], [101, 110, 100], [115, 101, 108, 102]] := by decide +kernel
  rw [er, sl_word] at hs
  simp only [List.mem_cons, List.not_mem_nil, or_false] at hs
  split at hs
  · rcases hs with h | h | h | h <;> exact rep_no (List.cons.inj h).2 (by decide)
  · split at hs
    · rcases hs with h | h | h | h <;> (have h2 := congrArg List.dropLast h; rw [List.dropLast_concat] at h2; exact rep_no h2 (by decide))
    · rw [Nat.add_comm 1, List.replicate_succ, List.cons_append] at hs
      rcases hs with h | h | h | h <;> exact absurd (List.cons.inj h).1 (by decide)
theorem word_ok {f m d w k : Nat} (hd : 97 ≤ d ∧ d ≤ 122) (hm : m ≤ 7) (hk : k < 14) : nameOk (wordS f m d w k) = true := by
  obtain ⟨h1, h2⟩ := word_len (f := f) (d := d) (w := w) hm hk
  unfold nameOk
  rw [decide_eq_true h1, decide_eq_true h2, decide_eq_false word_res]
  have : (wordS f m d w k).cps.toList.all isLet = true := List.all_eq_true.mpr fun c hc => by
    have := word_low hd c hc
    unfold isLet
    simpa using this
  rw [this]
  rfl
theorem word_inj {f m d w k j : Nat} (hk : k < 14) (hj : j < 14) (h : wordS f m d w k = wordS f m d w j) : k = j := by
  have e := congrArg sl h
  rw [sl_word, sl_word] at e
  have key : 97 + (f + 5 * k) % 26 = 97 + (f + 5 * j) % 26 → k = j := fun q => by omega
  split at e
  · exact key (List.cons.inj e).1
  · split at e
    · have := congrArg List.getLast? e
      rw [List.getLast?_concat, List.getLast?_concat] at this
      exact key (Option.some.inj this)
    · have := congrArg List.getLast? e
      rw [List.getLast?_concat, List.getLast?_concat] at this
      exact key (Option.some.inj this)
def wordsL (f m d w n : Nat) : List Str := (List.range n).map (wordS f m d w)
theorem words_ok {f m d w n : Nat} (hd : 97 ≤ d ∧ d ≤ 122) (hm : m ≤ 7) (hn : n ≤ 14) : WordsOk (wordsL f m d w n) := by
  refine ⟨fun y hy => ?_, ?_⟩
  · obtain ⟨k, hk, rfl⟩ := List.mem_map.mp hy
    have := List.mem_range.mp hk
    exact word_ok hd hm (by omega)
  · refine List.pairwise_map.mpr (List.Pairwise.imp_of_mem (fun {k j} hk hj ne e => ?_) List.nodup_range)
    have h1 := List.mem_range.mp hk
    have h2 := List.mem_range.mp hj
    exact ne (word_inj (by omega) (by omega) e)
def spWords : Sp := fun vs H Q _ => ∃ (p : Addr) (n : Nat) (a b : Int), vs = [.ref p, .int (n : Nat)] ∧ FeedAt H p a b ∧ n ≤ 14 ∧
  ∀ q ws H' a' b', H q = none → SameX p H H' → FeedAt H' p a' b' → H' q = some (.lst (ws.map V.str)) → ws.length = n → WordsOk ws → Q (.ref q) H'
def spBlock (K : PySem.W.Frag) : Sp := fun vs H Q _ => ∃ (p q : Addr) (ws : List Str) (a b : Int), vs = [.ref p, .ref q] ∧ FeedAt H p a b ∧ SqL K H q (ws.map V.str) ∧ q ≠ p ∧ 0 < ws.length ∧ ws.length ≤ 1000 ∧ (∀ y ∈ ws, nameOk y = true) ∧
  ∀ z H' a' b', SameX p H H' → FeedAt H' p a' b' → blockOk z = true → Q (.str z) H'
/-! ### z and a word -/
theorem z_ok {y : Str} (h : nameOk y = true) : nameOk ("z" ++ cutS y none (some 7)) = true ∧ ("z" ++ cutS y none (some 7)) ∉ portNames := by
  have hz : sl ("z" : Str) = [122] := by decide +kernel
  have hl := cutS_length y none (some 7)
  have hc7 : (cutS y none (some 7)).length ≤ 7 := by
    rw [← sl_len]
    show (((sl y).drop _).take (HT.sIx y.length y.length (some 7) - HT.sIx y.length 0 none)).length ≤ 7
    rw [show HT.sIx y.length 0 none = 0 from rfl, show (some 7 : Option Int) = some ((7 : Nat) : Int) from rfl, HT.sIx_nat, List.length_take]
    omega
  have hlow : LowT ("z" ++ cutS y none (some 7)) := fun c hc => by
    rw [sl_app, hz] at hc
    rcases List.mem_append.mp hc with hc | hc
    · rw [List.mem_singleton.mp hc]; decide
    · have : c ∈ ((sl y).drop (HT.sIx y.length 0 none)).take (HT.sIx y.length y.length (some 7) - HT.sIx y.length 0 none) := hc
      exact nameOk_low h c (List.mem_of_mem_drop (List.mem_of_mem_take this))
  have hhd : ∀ z : Str, (sl z).head? ≠ some 122 → ("z" ++ cutS y none (some 7)) ≠ z := fun z hne e => by
    refine hne ?_
    rw [← e, sl_app, hz]
    rfl
  have hlen : (("z" : Str) ++ cutS y none (some 7)).length = 1 + (cutS y none (some 7)).length := by
    rw [PySem.Str.length_append]
    have : (("z" : Str)).length = 1 := by decide +kernel
    omega
  refine ⟨?_, fun hm => ?_⟩
  · unfold nameOk
    have hr : ("z" ++ cutS y none (some 7)) ∉ reserved := fun hm => hhd _ ((show ∀ z ∈ reserved, (sl z).head? ≠ some 122 by decide +kernel) _ hm) rfl
    have ha : (("z" : Str) ++ cutS y none (some 7)).cps.toList.all isLet = true := List.all_eq_true.mpr fun c hc => by
      have := hlow c hc
      unfold isLet
      simpa using this
    rw [decide_eq_true (by rw [hlen]; omega), decide_eq_true (by rw [hlen]; omega), decide_eq_false hr, ha]
    rfl
  · exact hhd _ ((show ∀ z ∈ portNames, (sl z).head? ≠ some 122 by decide +kernel) _ hm) rfl
theorem blk_name {z : Str} (h : nameOk z = true ∧ z ∉ portNames) : blockOk z = true := by
  unfold blockOk
  rw [h.1, decide_eq_false h.2, Bool.true_and, Bool.not_false, Bool.or_true]
theorem blk_prim {n : Str} {c : Option Int} (h : PText n c) : blockOk (textOf n c) = true := by
  unfold blockOk
  rw [primOf_text h]
  rfl
theorem blk_plain : ∀ z ∈ plain7, blockOk z = true := by decide +kernel
end Ly

set_option maxRecDepth 100000
set_option maxHeartbeats 4000000
/-! drawn diagrams, their rows, another order -/
namespace Ly
open PySem PySem.Spec PyProof.Rows L2
/-- a diagram as a tuple: name, inputs, outputs, parts, a dict of wires -/
structure TupD (K : PySem.W.Frag) (H : Hp) (t n' : Addr) (n : Str) (ins outs : List Str) (ps : List Prt) (ws : List (Prt × Prt)) : Prop where
  ex : ∃ i o p, SqT K H t [.str n, .ref i, .ref o, .ref p, .ref n'] ∧ SqT K H i (ins.map V.str) ∧ SqT K H o (outs.map V.str) ∧ Dp K H (.ref p) (.tuple (ps.map dPair))
  w : WiresAt K H n' ws
def spDraw (K : PySem.W.Frag) : Sp := fun vs H Q _ => ∃ (p q : Addr) (wd : List Str) (a b : Int), vs = [.ref p, .ref q] ∧ FeedAt H p a b ∧ SqL K H q (wd.map V.str) ∧ q ≠ p ∧ wd.length = 14 ∧ WordsOk wd ∧
  ∀ t m n ins outs ps ws H' a' b', SameX p H H' → FeedAt H' p a' b' → H t = none → H m = none → TupD K H' t m n ins outs ps ws → DataOk n ins outs ps ws → ps.length ≤ 4 → ws.length ≤ 35 → Q (.ref t) H'
/-- the order that the law gives the wires -/
def LOrd (outs : List Str) (ps : List Prt) (ws zs : List (Prt × Prt)) : Prop :=
  ∃ tss : List (List Prt), Paired (fun (p : Prt) (ts : List Prt) => ts.Perm ((ws.map (·.1)).filter fun t => decide (t.1 = p.1)) ∧ SrtO.Srtd (fun x y => lexA [.s x.1, .s x.2] [.s y.1, .s y.2]) ts) ps tss ∧ zs = (tss.flatten ++ outerT outs ws).map fun t => (t, lookW ws t)
def spLRows (K : PySem.W.Frag) : Sp := fun vs H Q _ => ∃ (t m : Addr) (n : Str) (ins outs : List Str) (ps : List Prt) (ws : List (Prt × Prt)), vs = [.ref t] ∧ TupD K H t m n ins outs ps ws ∧ DataOk n ins outs ps ws ∧ ws.length ≤ 200 ∧
  ∀ u l v zs H', Same H H' → H u = none → H l = none → H v = none → l ≠ v → H' u = some (.tup [.ref l, .ref v]) → H' l = some (.lst ((textRows n ins outs ps zs).map V.str)) → Dp K H' (.ref v) (.tuple (zs.map dWire)) → LOrd outs ps ws zs → Q (.ref u) H'
def spOrder (K : PySem.W.Frag) : Sp := fun vs H Q _ => ∃ (p l : Addr) (xs ys : List Str) (z : Str) (a b : Int), vs = [.ref p, .ref l, .int (ys.length : Nat)] ∧ FeedAt H p a b ∧ SqL K H l ((xs ++ ys ++ [z]).map V.str) ∧ l ≠ p ∧ xs.length ≤ 1000 ∧ ys.length ≤ 1000 ∧
  ∀ q ys' H' a' b', SameX p H H' → FeedAt H' p a' b' → H q = none → ys'.Perm ys → H' q = some (.lst ((xs ++ ys' ++ [z]).map V.str)) → Q (.ref q) H'
/-! ### one order -/
theorem srtd_one_way {α : Type} {lt : α → α → Bool} : ∀ {l m : List α}, (∀ x ∈ l, ∀ y ∈ l, lt x y = false → lt y x = false → x = y) → l.Perm m → SrtO.Srtd lt l → SrtO.Srtd lt m → l = m
  | [], m, _, hp, _, _ => by
    have := hp.length_eq
    exact (List.length_eq_zero_iff.mp this.symm).symm
  | x :: l, [], _, hp, _, _ => by
    have := hp.length_eq
    cases this
  | x :: l, y :: m, hlt, hp, hl, hm => by
    have e : x = y := by
      have h1 : x ∈ y :: m := hp.mem_iff.mp List.mem_cons_self
      have h2 : y ∈ x :: l := hp.mem_iff.mpr List.mem_cons_self
      have h2' := h2
      rcases List.mem_cons.mp h1 with e | h1
      · exact e
      rcases List.mem_cons.mp h2 with e | h2
      · exact e.symm
      have a1 := (List.pairwise_cons.mp hl).1 y h2
      have a2 := (List.pairwise_cons.mp hm).1 x h1
      exact hlt x List.mem_cons_self y h2' a2 a1
    subst e
    rw [srtd_one_way (fun a ha b hb => hlt a (List.mem_cons_of_mem _ ha) b (List.mem_cons_of_mem _ hb)) (List.Perm.cons_inv hp) (List.pairwise_cons.mp hl).2 (List.pairwise_cons.mp hm).2]
theorem lex_two {a b : At} {x y : At} : lexA [a, x] [b, y] = if a = b then (if x = y then false else atLt x y) else atLt a b := rfl
def R1 (ws : List (Prt × Prt)) (p : Prt) (ts : List Prt) : Prop := ts.Perm ((ws.map (·.1)).filter fun t => decide (t.1 = p.1)) ∧ SrtO.Srtd (fun x y => lexA [.s x.1, .s x.2] [.s y.1, .s y.2]) ts
theorem r1_mem {ws : List (Prt × Prt)} {p : Prt} {ts : List Prt} (h : R1 ws p ts) {t : Prt} (ht : t ∈ ts) : t.1 = p.1 := by
  have := (List.mem_filter.mp (h.1.mem_iff.mp ht)).2
  simpa using this
theorem r1_perm {ws : List (Prt × Prt)} : ∀ {qs : List Prt} {tss : List (List Prt)}, Paired (R1 ws) qs tss → (qs.map (·.1)).Nodup → tss.flatten.Perm ((ws.map (·.1)).filter fun t => decide (t.1 ∈ qs.map (·.1)))
  | _, _, .nil, _ => by simp
  | _, _, .cons (l₁ := qs) (a := q) (b := ts) h t, nd => by
    rw [List.map_cons, List.nodup_cons] at nd
    have ih := r1_perm t nd.2
    rw [List.flatten_cons]
    refine (List.Perm.append h.1 ih).trans ?_
    rw [List.perm_iff_count]
    intro u
    rw [List.count_append]
    have zero : ∀ {f : Prt → Bool}, f u = false → List.count u ((ws.map (·.1)).filter f) = 0 := fun hf => List.count_eq_zero.mpr fun hm => by
      have := (List.mem_filter.mp hm).2
      rw [hf] at this
      cases this
    by_cases e : u.1 = q.1
    · have n2 : u.1 ∉ qs.map (·.1) := by rw [e]; exact nd.1
      rw [List.count_filter (p := fun t : Prt => decide (t.1 = q.1)) (by simpa using e), zero (f := fun t : Prt => decide (t.1 ∈ qs.map (·.1))) (by simpa using n2), List.count_filter (p := fun t : Prt => decide (t.1 ∈ (q :: qs).map (·.1))) (by rw [e]; simp)]
      rfl
    · rw [zero (f := fun t : Prt => decide (t.1 = q.1)) (by simpa using e), Nat.zero_add]
      by_cases e2 : u.1 ∈ qs.map (·.1)
      · rw [List.count_filter (p := fun t : Prt => decide (t.1 ∈ qs.map (·.1))) (by simpa using e2), List.count_filter (p := fun t : Prt => decide (t.1 ∈ (q :: qs).map (·.1))) (by rw [List.map_cons]; simpa using Or.inr (by simpa using e2))]
      · rw [zero (f := fun t : Prt => decide (t.1 ∈ qs.map (·.1))) (by simpa using e2), zero (f := fun t : Prt => decide (t.1 ∈ (q :: qs).map (·.1))) (by
          rw [List.map_cons, decide_eq_false]
          intro hm
          rcases List.mem_cons.mp hm with h | h
          · exact e h
          · exact e2 h)]
theorem r1_sorted {ws : List (Prt × Prt)} {ps : List Prt} (nd : (ps.map (·.1)).Nodup) : ∀ {qs pre : List Prt} {tss : List (List Prt)}, Paired (R1 ws) qs tss → ps = pre ++ qs → SrtO.Srtd (fun x y => lexA (keyW ps x) (keyW ps y)) tss.flatten ∧ ∀ t ∈ tss.flatten, pre.length ≤ posOf ps t.1
  | _, _, _, .nil, _ => ⟨List.Pairwise.nil, fun t ht => (by cases ht)⟩
  | _, pre, _, .cons (l₁ := qs) (a := q) (b := ts) (l₂ := ss) h t, e => by
    obtain ⟨ih1, ih2⟩ := r1_sorted nd (pre := pre ++ [q]) t (by rw [e, List.append_assoc]; rfl)
    have hq : posOf ps q.1 = pre.length := posOf_get nd (by rw [e, List.getElem?_append_right (Nat.le_refl _), Nat.sub_self]; rfl)
    have hts : ∀ t ∈ ts, posOf ps t.1 = pre.length := fun t ht => by rw [r1_mem h ht, hq]
    have hrest : ∀ u ∈ ss.flatten, pre.length + 1 ≤ posOf ps u.1 := fun u hu => by
      have := ih2 u hu
      rwa [List.length_append, List.length_singleton] at this
    rw [List.flatten_cons]
    refine ⟨List.pairwise_append.mpr ⟨?_, ih1, fun x hx y hy => ?_⟩, fun u hu => ?_⟩
    · refine List.Pairwise.imp_of_mem (fun {x y} hx hy hl => ?_) h.2
      have ex := r1_mem h hx
      have ey := r1_mem h hy
      have hl' : lexA [.s y.1, .s y.2] [.s x.1, .s x.2] = false := hl
      rw [lex_two] at hl'
      show lexA (keyW ps y) (keyW ps x) = false
      unfold keyW
      rw [lex_two, hts x hx, hts y hy, if_pos rfl]
      rw [ex, ey, if_pos rfl] at hl'
      rw [ex, ey] at *
      exact hl'
    · show lexA (keyW ps y) (keyW ps x) = false
      unfold keyW
      have h1 := hts x hx
      have h2 := hrest y hy
      rw [lex_two, if_neg (fun z => by have := At.i.inj z; omega)]
      exact decide_eq_false (by omega)
    · rcases List.mem_append.mp hu with hu | hu
      · rw [hts u hu]
        exact Nat.le_refl _
      · have := hrest u hu
        omega
theorem lookW_perm {ws ws' : List (Prt × Prt)} (nd : (ws.map (·.1)).Nodup) (hp : ws'.Perm ws) {t : Prt} (ht : t ∈ ws.map (·.1)) : lookW ws' t = lookW ws t := by
  have h1 := lookW_mem ht
  have h2 := hp.mem_iff.mp (lookW_mem (ws := ws') ((hp.map (·.1)).mem_iff.mpr ht))
  have := map_inj_nd nd _ h2 _ h1 rfl
  exact (Prod.mk.inj this).2
theorem ord_same {n : Str} {ins outs : List Str} {ps : List Prt} {ws ws' zs zs' : List (Prt × Prt)} (hd : DataOk n ins outs ps ws) (hp : ws'.Perm ws) (h : IsOrd outs ps ws' zs') (hl : LOrd outs ps ws zs) : zs' = zs := by
  obtain ⟨inn, h1, h2, rfl⟩ := h
  obtain ⟨tss, h3, rfl⟩ := hl
  have h3' : Paired (R1 ws) ps tss := h3
  have hmap := hp.map (·.1)
  have hf : ((ws.map (·.1)).filter fun t => decide (t.1 ∈ ps.map (·.1))) = (ws.map (·.1)).filter fun t : Prt => !decide (t.1 = ("" : Str)) := by
    refine List.filter_congr fun t ht => ?_
    obtain ⟨x, hx, rfl⟩ := List.mem_map.mp ht
    rcases hd.w1 x hx with ⟨e1, e2⟩ | ⟨e1, e2⟩
    · rw [decide_eq_true e1, decide_eq_false]
      · rfl
      · intro hm
        obtain ⟨q, hq, e⟩ := List.mem_map.mp hm
        exact nameOk_ne (hd.p.2.1 q hq).1 (e.trans e1)
    · rw [decide_eq_true e1, decide_eq_false]
      · rfl
      · intro z
        obtain ⟨q, hq, e⟩ := List.mem_map.mp e1
        exact nameOk_ne (hd.p.2.1 q hq).1 (e.trans z)
  have pp : inn.Perm tss.flatten := by
    have a1 := r1_perm h3' hd.p.2.2
    rw [hf] at a1
    exact (h1.trans (hmap.filter _)).trans a1.symm
  have hin : ∀ t ∈ tss.flatten, t ∈ ws.map (·.1) ∧ t.1 ∈ ps.map (·.1) := fun t ht => by
    have := List.mem_filter.mp ((r1_perm h3' hd.p.2.2).mem_iff.mp ht)
    exact ⟨this.1, by simpa using this.2⟩
  have e1 : inn = tss.flatten := srtd_one_way (fun x hx y hy a b => by
    have ex := (hin x (pp.mem_iff.mp hx)).2
    have ey := (hin y (pp.mem_iff.mp hy)).2
    rcases lex_tri (keyW ps x) (keyW ps y) with e | e | e
    · exact keyW_inj ex ey e
    · rw [a] at e; cases e
    · rw [b] at e; cases e) pp h2 (r1_sorted hd.p.2.2 (pre := []) h3' rfl).1
  have e2 : outerT outs ws' = outerT outs ws := by
    unfold outerT
    refine List.filter_congr fun t _ => ?_
    by_cases h : t ∈ ws.map (·.1)
    · rw [decide_eq_true h, decide_eq_true (hmap.mem_iff.mpr h)]
    · rw [decide_eq_false h, decide_eq_false fun z => h (hmap.mem_iff.mp z)]
  rw [e1, e2]
  refine List.map_congr_left fun t ht => ?_
  have hm : t ∈ ws.map (·.1) := by
    rcases List.mem_append.mp ht with ht | ht
    · exact (hin t ht).1
    · have := (List.mem_filter.mp ht).2
      simpa using this
  rw [lookW_perm hd.wn hp hm]
/-! ### small things for the draw -/
theorem cut_lo {α : Type} (f : α → V) (xs : List α) {a b : Nat} (ha : a ≤ b) (hb : b ≤ xs.length) : cutV (xs.map f) (some (a : Int)) (some (b : Int)) = ((xs.drop a).take (b - a)).map f := by
  unfold cutV
  rw [List.length_map, HT.sIx_nat, HT.sIx_nat, Nat.min_eq_left (show a ≤ xs.length by omega), Nat.min_eq_left hb, ← List.map_drop, ← List.map_take]
theorem cut_hi {α : Type} (f : α → V) (xs : List α) {b : Nat} (hb : b ≤ xs.length) : cutV (xs.map f) none (some (b : Int)) = (xs.take b).map f := by
  unfold cutV
  rw [List.length_map, HT.sIx_nat, HT.sIx_none, Nat.min_eq_left hb, List.drop_zero, Nat.sub_zero, ← List.map_take]
theorem sql_sx {K : PySem.W.Frag} {p l : Addr} {H H1 : Hp} {xs : List V} (s : SameX p H H1) (n : l ≠ p) (h : SqL K H l xs) : SqL K H1 l xs := by
  rcases h with (h | ⟨ob, h⟩) | h
  · exact .inl (.inl (s _ _ n h))
  · exact .inl (.inr ⟨ob, s _ _ n h⟩)
  · exact .inr h
/-- a row of a part, as drawn -/
def PartAt (H : Hp) (q : Prt) (v : V) : Prop := ∃ a, v = .ref a ∧ H a = some (.tup [.str q.1, .str q.2])
theorem PartAt.same {H H' : Hp} {t : Prt} {v : V} (s : Same H H') (h : PartAt H t v) : PartAt H' t v := by
  obtain ⟨q, e, h2⟩ := h
  exact ⟨q, e, s _ _ h2⟩
/-- .. where one list alone has changed -/
theorem PartAt.sx {p : Addr} {H H' : Hp} {t : Prt} {v : V} (s : SameX p H H') (hp : ∀ xs, H p ≠ some (.tup xs)) (h : PartAt H t v) : PartAt H' t v := by
  obtain ⟨q, e, h2⟩ := h
  exact ⟨q, e, s _ _ (fun z => hp _ (z ▸ h2)) h2⟩
theorem feed_nt {H : Hp} {p : Addr} {a b : Int} (h : FeedAt H p a b) : ∀ xs, H p ≠ some (.tup xs) := fun xs e => by
  rw [h.1] at e
  cases e
theorem lst_nt {H : Hp} {p : Addr} {ys : List V} (h : H p = some (.lst ys)) : ∀ xs, H p ≠ some (.tup xs) := fun xs e => by
  rw [h] at e
  cases e
theorem cut_any {α : Type} (f : α → V) (xs : List α) (b : Nat) : cutV (xs.map f) none (some (b : Int)) = (xs.take b).map f := by
  rcases Nat.le_total b xs.length with h | h
  · exact cut_hi f xs h
  · unfold cutV
    rw [List.length_map, HT.sIx_nat, HT.sIx_none, Nat.min_eq_right h, List.drop_zero, Nat.sub_zero, List.take_of_length_le (by rw [List.length_map]; exact Nat.le_refl _), List.take_of_length_le h]
theorem nodup_pairs {a : Str} {l : List Str} (h : l.Nodup) : (l.map fun y => (a, y)).Nodup := List.pairwise_map.mpr (h.imp fun ne e => ne (Prod.mk.inj e).2)
/-! ### data compared -/
def OkS (z : Str) : Prop := PySem.PyData.strOk z = true
theorem okS_of {z : Str} (h : ∀ c ∈ sl z, c < 1114112) : OkS z := by
  show z.cps.all (· < 0x110000) = true
  rw [← Array.all_toList]
  exact List.all_eq_true.mpr fun c hc => decide_eq_true (h c hc)
theorem okS_low {z : Str} (h : LowT z) : OkS z := okS_of fun c hc => by have := h c hc; omega
theorem okS_name {z : Str} (h : nameOk z = true) : OkS z := okS_low (nameOk_low h)
theorem okS_blk {z : Str} (h : BlkT z) : OkS z := okS_of fun c hc => by have := h c hc; omega
theorem okS_em : OkS "" := okS_of fun c hc => by rw [sl_em] at hc; cases hc
theorem shp_list {α : Type} {f : α → PyData} {k : Nat} (hk : k ≤ 63) : ∀ {l : List α}, (∀ x ∈ l, (f x).canLay0 = true ∧ (f x).depth ≤ k) → PyData.canLayAll0 (l.map f) = true ∧ PyData.depthAll (l.map f) ≤ k
  | [], _ => ⟨rfl, Nat.zero_le _⟩
  | x :: l, h => by
    obtain ⟨h1, h2⟩ := h x List.mem_cons_self
    obtain ⟨h3, h4⟩ := shp_list hk (l := l) fun y hy => h y (List.mem_cons_of_mem _ hy)
    refine ⟨?_, ?_⟩
    · show ((f x).canLay0 && PyData.canLayAll0 (l.map f)) = true
      rw [h1, h3]
      rfl
    · show max (f x).depth (PyData.depthAll (l.map f)) ≤ k
      omega
theorem shp_pair {p : Prt} (h : OkS p.1 ∧ OkS p.2) : (dPair p).canLay0 = true ∧ (dPair p).depth ≤ 1 := by
  refine ⟨?_, Nat.le_refl _⟩
  show (PySem.PyData.strOk p.1 && (PySem.PyData.strOk p.2 && true)) = true
  rw [h.1, h.2]
  rfl
theorem shp_pairs {l : List Prt} (h : ∀ x ∈ l, OkS x.1 ∧ OkS x.2) : SeqAt.shaped (.list (l.map dPair)) = true ∧ SeqAt.shaped (.tuple (l.map dPair)) = true := by
  obtain ⟨h1, h2⟩ := shp_list (f := dPair) (k := 1) (by decide) (l := l) fun x hx => shp_pair (h x hx)
  have e : decide (PyData.depthAll (l.map dPair) + 1 ≤ 64) = true := decide_eq_true (by omega)
  refine ⟨?_, ?_⟩
  · show (PyData.canLayAll0 (l.map dPair) && decide (PyData.depthAll (l.map dPair) + 1 ≤ 64)) = true
    rw [h1, e]
    rfl
  · show (PyData.canLayAll0 (l.map dPair) && decide (PyData.depthAll (l.map dPair) + 1 ≤ 64)) = true
    rw [h1, e]
    rfl
theorem shp_wires {l : List (Prt × Prt)} (h : ∀ x ∈ l, (OkS x.1.1 ∧ OkS x.1.2) ∧ OkS x.2.1 ∧ OkS x.2.2) : SeqAt.shaped (.tuple (l.map dWire)) = true := by
  obtain ⟨h1, h2⟩ := shp_list (f := dWire) (k := 2) (by decide) (l := l) fun x hx => by
    obtain ⟨a1, a2⟩ := shp_pair (h x hx).1
    obtain ⟨b1, b2⟩ := shp_pair (h x hx).2
    refine ⟨?_, ?_⟩
    · show ((dPair x.1).canLay0 && ((dPair x.2).canLay0 && true)) = true
      rw [a1, b1]
      rfl
    · show max (dPair x.1).depth (max (dPair x.2).depth 0) + 1 ≤ 2
      omega
  show (PyData.canLayAll0 (l.map dWire) && decide (PyData.depthAll (l.map dWire) + 1 ≤ 64)) = true
  rw [h1, decide_eq_true (show PyData.depthAll (l.map dWire) + 1 ≤ 64 by omega)]
  rfl
theorem dp_parts {K : PySem.W.Frag} {H : Hp} : ∀ {ps : List Prt} {vs : List V}, Paired (PartAt H) ps vs → DpAll K H vs (ps.map dPair)
  | _, _, .nil => .nil
  | _, _, .cons h t => by
    obtain ⟨a, rfl, ha⟩ := h
    exact .cons (dp_pair (SqT.of ha)) (dp_parts t)
theorem part_sl {l : List Addr} {H H' : Hp} {t : Prt} {v : V} (s : SameL l H H') (n : NoT l H) (h : PartAt H t v) : PartAt H' t v := by
  obtain ⟨a, e, ha⟩ := h
  exact ⟨a, e, s _ _ (fun hm => n a hm _ (.inl ha)) ha⟩
end Ly

set_option maxRecDepth 100000
set_option maxHeartbeats 4000000
/-! targets, sorted -/
namespace Ly
open PySem PySem.Spec PyProof.Rows L2
def tT (H : Hp) (v : V) : Prt :=
  match v with
  | .ref a => match H a with
    | some (.tup [.str x, .str y]) => (x, y)
    | _ => ("", "")
  | _ => ("", "")
theorem part_tT {H : Hp} {t : Prt} {v : V} (h : PartAt H t v) : tT H v = t := by
  obtain ⟨a, rfl, ha⟩ := h
  unfold tT
  dsimp only
  rw [ha]
theorem tgt_map {H : Hp} : ∀ {ts : List Prt} {vs : List V}, Paired (PartAt H) ts vs → vs.map (tT H) = ts
  | _, _, .nil => rfl
  | _, _, .cons h t => by rw [List.map_cons, part_tT h, tgt_map t]
theorem tgt_mem {H : Hp} : ∀ {ts : List Prt} {vs : List V}, Paired (PartAt H) ts vs → ∀ v ∈ vs, tT H v ∈ ts ∧ PartAt H (tT H v) v
  | _, _, .nil, v, hv => by cases hv
  | _, _, .cons h t, v, hv => by
    rcases List.mem_cons.mp hv with rfl | hv
    · rw [part_tT h]
      exact ⟨List.mem_cons_self, h⟩
    · obtain ⟨h1, h2⟩ := tgt_mem t v hv
      exact ⟨List.mem_cons_of_mem _ h1, h2⟩
theorem tgt_pair {H : Hp} : ∀ {ys : List V}, (∀ v ∈ ys, PartAt H (tT H v) v) → Paired (PartAt H) (ys.map (tT H)) ys
  | [], _ => .nil
  | y :: r, h => .cons (h y List.mem_cons_self) (tgt_pair fun v hv => h v (List.mem_cons_of_mem _ hv))
def kT (t : Prt) : List At := [.s t.1, .s t.2]
theorem rSort_tgt {K : PySem.W.Frag} {H : Hp} {Q : VK} {ts : List Prt} {vs : List V} {a : Addr} (ha : SqL K H a vs) (h : Paired (PartAt H) ts vs) (nd : ts.Nodup)
    (q : ∀ ts' ys p, ts'.Perm ts → SrtO.Srtd (fun x y => lexA (kT x) (kT y)) ts' → Paired (PartAt H) ts' ys → H p = none → Q (.ref p) (upd H p (.lst ys))) : rSortedAt K [.ref a] H Q := by
  have hm := tgt_map h
  have hi := tgt_mem h
  refine ⟨a, vs, fun v => kT (tT H v), rfl, ha, fun x hx => ?_, fun x hx => (by unfold kT; simp), fun x hx y hy => rfl, fun x hx y hy e => ?_, fun ys p hs hp hn => ?_⟩
  · obtain ⟨_, b, e, h1⟩ := hi x hx
    exact ⟨b, [], e, h1⟩
  · have e1 : tT H x = tT H y := by
      have e' : kT (tT H x) = kT (tT H y) := e
      unfold kT at e'
      exact Prod.ext (At.s.inj (List.cons.inj e').1) (At.s.inj (List.cons.inj (List.cons.inj e').2).1)
    exact map_inj_nd (f := tT H) (by rw [hm]; exact nd) x hx y hy e1
  · have hy : ∀ v ∈ ys, PartAt H (tT H v) v := fun v hv => (hi v (hp.mem_iff.mp hv)).2
    refine q (ys.map (tT H)) ys p ?_ (List.pairwise_map.mpr hs) (tgt_pair hy) hn
    rw [← hm]
    exact hp.map _
/-! ### another order -/
def spOrd (K : PySem.W.Frag) : Sp := fun vs H Q _ => ∃ (p l : Addr) (xs ys : List Str) (z : Str) (a b : Int), vs = [.ref p, .ref l, .int (ys.length : Nat)] ∧ FeedAt H p a b ∧ SqL K H l ((xs ++ ys ++ [z]).map V.str) ∧ l ≠ p ∧ xs.length ≤ 1000 ∧ ys.length ≤ 1000 ∧ (∀ y ∈ ys, OkS y) ∧
  ∀ q ys' H' a' b', SameX p H H' → FeedAt H' p a' b' → H q = none → ys'.Perm ys → H' q = some (.lst ((xs ++ ys' ++ [z]).map V.str)) → Q (.ref q) H'
theorem sx_mut {p a : Addr} {H H' : Hp} {o : HO} (s : SameX p H H') (ha : H a = none) : SameX p H (upd H' a o) := fun b u nb e => by
  rw [upd_ne (fun z => by rw [z, ha] at e; cases e)]
  exact s b u nb e
theorem cut_end (xs : List V) (z : V) : cutV (xs ++ [z]) (some (-1)) none = [z] := by
  unfold cutV
  have e : HT.sIx (xs ++ [z]).length 0 (some (-1)) = xs.length := by
    show (if (-1 : Int) < 0 then ((-1 : Int) + ((xs ++ [z]).length : Int)).toNat else min (-1 : Int).toNat (xs ++ [z]).length) = _
    rw [if_pos (by decide), List.length_append, List.length_singleton]
    omega
  rw [e, HT.sIx_none, List.drop_left, List.length_append, List.length_singleton]
  rw [List.take_of_length_le (by simp)]
theorem cut_pre2 (xs ys : List V) : cutV (xs ++ ys) none (some (xs.length : Int)) = xs := by
  unfold cutV
  rw [HT.sIx_none, HT.sIx_nat, List.drop_zero, List.length_append, Nat.min_eq_left (by omega), Nat.sub_zero, List.take_left]
theorem cut_mid2 (xs ys : List V) (z : V) : cutV (xs ++ ys ++ [z]) (some (xs.length : Int)) (some (-1)) = ys := by
  unfold cutV
  have e : HT.sIx (xs ++ ys ++ [z]).length (xs ++ ys ++ [z]).length (some (-1)) = xs.length + ys.length := by
    show (if (-1 : Int) < 0 then ((-1 : Int) + ((xs ++ ys ++ [z]).length : Int)).toNat else min (-1 : Int).toNat (xs ++ ys ++ [z]).length) = _
    rw [if_pos (by decide)]
    simp only [List.length_append, List.length_singleton]
    omega
  rw [e, HT.sIx_nat, Nat.min_eq_left (by simp only [List.length_append]; omega), List.append_assoc, List.drop_left, Nat.add_sub_cancel_left, List.take_left]
theorem erase_map {α β : Type} (f : α → β) : ∀ (l : List α) (i : Nat), (l.map f).eraseIdx i = (l.eraseIdx i).map f
  | [], _ => rfl
  | x :: l, 0 => rfl
  | x :: l, i + 1 => by
    show f x :: (l.map f).eraseIdx i = f x :: (l.eraseIdx i).map f
    rw [erase_map f l i]
theorem shp_strs {l : List Str} (h : ∀ x ∈ l, OkS x) : SeqAt.shaped (.list (l.map PyData.str)) = true := by
  obtain ⟨h1, h2⟩ := shp_list (f := PyData.str) (k := 0) (by decide) (l := l) fun x hx => ⟨h x hx, Nat.le_refl _⟩
  show (PyData.canLayAll0 (l.map PyData.str) && decide (PyData.depthAll (l.map PyData.str) + 1 ≤ 64)) = true
  rw [h1, decide_eq_true (show PyData.depthAll (l.map PyData.str) + 1 ≤ 64 by omega)]
  rfl
end Ly

set_option maxRecDepth 100000
set_option maxHeartbeats 4000000
/-! rows in another order, read; list(text) -/
namespace Ly
open PySem PySem.Spec PyProof.Rows L2
theorem vals_get : ∀ {xs : List V} {us : List Value}, xs.length = us.length → (∀ (i : Nat) (x : V) (u : Value), xs[i]? = some x → us[i]? = some u → RelV x u) → Vals xs us
  | [], [], _, _ => .nil
  | x :: xs, u :: us, hl, h => .cons (h 0 x u rfl rfl) (vals_get (by simpa using hl) fun i x u hx hu => h (i + 1) x u (by rw [List.getElem?_cons_succ]; exact hx) (by rw [List.getElem?_cons_succ]; exact hu))
  | [], _ :: _, hl, _ => by simp at hl
  | _ :: _, [], hl, _ => by simp at hl
/-- list(a text) -/
theorem cr_listStr {X : Cx} (hc : X.calm = true) : CallR X (.type "list") (fun xs H Q => ∃ z : Str, xs = [.str z] ∧ z.length ≤ sizeLine ∧ ∀ p, H p = none → Q (.ref p) (upd H p (.lst (z.cps.toList.map fun c => V.str ⟨#[c]⟩)))) := by
  intro pins s σ H xs us Q I r h
  obtain ⟨z, rfl, hz, q⟩ := h
  obtain ⟨u, rfl, rx⟩ := vals1 r
  obtain ⟨t, rfl⟩ := rx
  refine call_list_str (I.ok.hd hc) z t (fun h' tk acc c' kp e items => ?_) hz
  have hl : (z.cps.toList.map fun c => V.str ⟨#[c]⟩).length = acc.toList.length := by
    rw [List.length_map, Array.length_toList, Array.length_toList, items.1]
  have hv : Vals (z.cps.toList.map fun c => V.str ⟨#[c]⟩) acc.toList := vals_get hl fun i x u hx hu => by
    obtain ⟨c, t', h1, h2⟩ := items.2 i u (by rw [← Array.getElem?_toList]; exact hu)
    rw [List.getElem?_map, Array.getElem?_toList, h1] at hx
    cases hx
    exact ⟨t', h2⟩
  refine ⟨.ref s.heap.objs.size, _, I.laid (t' := tk) kp (Nat.le_refl _) (show ObjOk X.prog X.w _ h' _ (.lst (z.cps.toList.map fun c => V.str ⟨#[c]⟩)) from ⟨?_, acc.toList, c', hv, e⟩), rfl, q _ (I.hok.fresh (Nat.le_refl _))⟩
  rw [List.length_map, Array.length_toList]
  exact hz
/-! ### perms -/
theorem perm_map_inv {α β : Type} {f : α → β} {a b : List β} (h : a.Perm b) : ∀ l : List α, b = l.map f → ∃ l' : List α, l'.Perm l ∧ a = l'.map f := by
  induction h with
  | nil =>
    intro l e
    have : l = [] := List.map_eq_nil_iff.mp e.symm
    exact ⟨[], by rw [this], rfl⟩
  | cons x _ ih =>
    intro l e
    cases l with
    | nil => cases e
    | cons y l =>
      obtain ⟨e1, e2⟩ := List.cons.inj e
      obtain ⟨l', h1, h2⟩ := ih l e2
      exact ⟨y :: l', h1.cons y, by rw [List.map_cons, ← e1, h2]⟩
  | swap x y r =>
    intro l e
    match l, e with
    | [], e => cases e
    | [_], e => cases (List.cons.inj e).2
    | u :: v :: l, e =>
      obtain ⟨e1, e2⟩ := List.cons.inj e
      obtain ⟨e3, e4⟩ := List.cons.inj e2
      exact ⟨v :: u :: l, List.Perm.swap _ _ _, by rw [List.map_cons, List.map_cons, ← e1, ← e3, ← e4]⟩
  | trans _ _ ih1 ih2 =>
    intro l e
    obtain ⟨l1, h1, h2⟩ := ih2 l e
    obtain ⟨l2, h3, h4⟩ := ih1 l1 h2
    exact ⟨l2, h3.trans h1, h4⟩
theorem look_back {ws : List (Prt × Prt)} (nd : (ws.map (·.1)).Nodup) : (ws.map (·.1)).map (fun t => (t, lookW ws t)) = ws := by
  rw [List.map_map]
  have : ∀ x ∈ ws, ((fun t => (t, lookW ws t)) ∘ (·.1)) x = x := fun x hx => by
    have h1 := lookW_mem (ws := ws) (t := x.1) (List.mem_map.mpr ⟨x, hx, rfl⟩)
    exact map_inj_nd nd _ h1 _ hx rfl
  rw [List.map_congr_left this]
  simp
theorem lord_perm {n : Str} {ins outs : List Str} {ps : List Prt} {ws zs : List (Prt × Prt)} (hd : DataOk n ins outs ps ws) (hl : LOrd outs ps ws zs) : zs.Perm ws := by
  obtain ⟨tss, h3, rfl⟩ := hl
  have h3' : Paired (R1 ws) ps tss := h3
  have hp1 := r1_perm h3' hd.p.2.2
  have hkeys : (tss.flatten ++ outerT outs ws).Perm (ws.map (·.1)) := by
    have hn1 : tss.flatten.Nodup := hp1.nodup_iff.mpr (hd.wn.filter _)
    have hon : outs.Nodup := (List.nodup_append.mp hd.io.2.2.2).2.1
    have hn2 : (outerT outs ws).Nodup := (nodup_pairs hon).filter _
    have hm1 : ∀ t, t ∈ tss.flatten ↔ t ∈ ws.map (·.1) ∧ t.1 ∈ ps.map (·.1) := fun t => by
      rw [hp1.mem_iff, List.mem_filter]
      simp
    have hm2 : ∀ t, t ∈ outerT outs ws ↔ t ∈ ws.map (·.1) ∧ t.1 = "" ∧ t.2 ∈ outs := fun t => by
      unfold outerT
      rw [List.mem_filter]
      constructor
      · rintro ⟨h1, h2⟩
        obtain ⟨o, ho, rfl⟩ := List.mem_map.mp h1
        exact ⟨by simpa using h2, rfl, ho⟩
      · rintro ⟨h1, h2, h3⟩
        exact ⟨List.mem_map.mpr ⟨t.2, h3, Prod.ext h2.symm rfl⟩, by simpa using h1⟩
    refine (List.perm_ext_iff_of_nodup ?_ hd.wn).mpr fun t => ?_
    · rw [List.nodup_append]
      refine ⟨hn1, hn2, fun a ha b hb e => ?_⟩
      have h1 := ((hm1 a).mp ha).2
      have h2 := ((hm2 b).mp hb).2.1
      rw [e] at h1
      obtain ⟨q, hq, e2⟩ := List.mem_map.mp h1
      exact nameOk_ne (hd.p.2.1 q hq).1 (e2.trans h2)
    · rw [List.mem_append, hm1, hm2]
      constructor
      · rintro (h | h)
        · exact h.1
        · exact h.1
      · intro h
        obtain ⟨x, hx, rfl⟩ := List.mem_map.mp h
        rcases hd.w1 x hx with h1 | h1
        · exact .inr ⟨h, h1⟩
        · exact .inl ⟨h, h1.1⟩
  have := hkeys.map fun t => (t, lookW ws t)
  rwa [look_back hd.wn] at this
theorem DataOk.perm {n : Str} {ins outs : List Str} {ps : List Prt} {ws ws' : List (Prt × Prt)} (h : DataOk n ins outs ps ws) (hp : ws'.Perm ws) : DataOk n ins outs ps ws' :=
  ⟨h.n, h.io, h.p, (hp.map _).nodup_iff.mpr h.wn, fun x hx => h.w1 x (hp.mem_iff.mp hx), fun x hx => h.w2 x (hp.mem_iff.mp hx)⟩
theorem data_lens {n : Str} {ins outs : List Str} {ps : List Prt} {ws : List (Prt × Prt)} (h : DataOk n ins outs ps ws) : ∀ x ∈ ws, (x.1.1.length ≤ 8 ∧ x.1.2.length ≤ 8) ∧ x.2.1.length ≤ 8 ∧ x.2.2.length ≤ 8 := fun x hx => by
  have hem : (("" : Str)).length = 0 := by decide +kernel
  have part : ∀ a, a ∈ ps.map (·.1) → a.length ≤ 8 := fun a ha => by
    obtain ⟨q, hq, rfl⟩ := List.mem_map.mp ha
    exact (nameOk_len (h.p.2.1 q hq).1).2
  refine ⟨?_, ?_⟩
  · rcases h.w1 x hx with ⟨e1, e2⟩ | ⟨e1, e2⟩
    · rw [e1, hem]
      exact ⟨by omega, (nameOk_len (h.io.1 _ (List.mem_append_right _ e2))).2⟩
    · exact ⟨part _ e1, (nameOk_len e2).2⟩
  · rcases h.w2 x hx with ⟨e1, e2⟩ | ⟨e1, e2⟩
    · rw [e1, hem]
      exact ⟨by omega, (nameOk_len (h.io.1 _ (List.mem_append_left _ e2))).2⟩
    · exact ⟨part _ e1, (nameOk_len e2).2⟩
theorem rows_lens {n : Str} {ins outs : List Str} {ps : List Prt} {ws : List (Prt × Prt)} (h : DataOk n ins outs ps ws) : ∀ z ∈ textRows n ins outs ps ws, z.length ≤ 300 := by
  have la : ∀ x y : Str, (x ++ y : Str).length = x.length + y.length := fun x y => PySem.Str.length_append x y
  have hn8 := (nameOk_len h.n.1).2
  have hin8 : ∀ y ∈ ins, y.length ≤ 8 := fun y hy => (nameOk_len (h.io.1 y (List.mem_append_left _ hy))).2
  have hou8 : ∀ y ∈ outs.map (fun o => (" " : Str) ++ o), y.length ≤ 9 := fun y hy => by
    obtain ⟨x, hx, rfl⟩ := List.mem_map.mp hy
    have := (nameOk_len (h.io.1 x (List.mem_append_right _ hx))).2
    have hsp : ((" " : Str)).length = 1 := by decide +kernel
    rw [la]
    omega
  have hil := h.io.2.1
  have hol := h.io.2.2.1
  have hji := join_len (a := " ") hin8
  have hjo := join_len (a := "") hou8
  rw [List.length_map] at hjo
  have lb : (("block " : Str)).length = 6 ∧ (("(" : Str)).length = 1 ∧ ((";" : Str)).length = 1 ∧ ((")" : Str)).length = 1 ∧ (("" : Str)).length = 0 ∧ ((" " : Str)).length = 1 := by decide +kernel
  have lpt : (("  part " : Str)).length = 7 ∧ ((" = " : Str)).length = 3 ∧ (("  " : Str)).length = 2 ∧ ((" <- " : Str)).length = 4 ∧ (("end" : Str)).length = 3 := by decide +kernel
  rw [lb.2.2.2.2.2] at hji
  rw [lb.2.2.2.2.1] at hjo
  intro z hz
  unfold textRows at hz
  simp only [List.mem_append, List.mem_singleton, List.mem_map] at hz
  rcases hz with ((rfl | ⟨p, hp, rfl⟩) | ⟨x, hx, rfl⟩) | rfl
  · unfold headText
    rw [la, la, la, la, la, la]
    omega
  · have h1 := (nameOk_len (h.p.2.1 p hp).1).2
    have h2 := blockOk_len (h.p.2.1 p hp).2
    unfold partText
    rw [la, la, la]
    omega
  · have hs := data_lens h x hx
    have h1 := portText_len (n := 8) hs.1.1 hs.1.2
    have h2 := portText_len (n := 8) hs.2.1 hs.2.2
    unfold wireText
    rw [la, la, la]
    omega
  · omega
theorem rows_count {n : Str} {ins outs : List Str} {ps : List Prt} {ws : List (Prt × Prt)} : (textRows n ins outs ps ws).length = 2 + ps.length + ws.length := by
  unfold textRows
  simp only [List.length_append, List.length_map, List.length_singleton]
  omega
theorem text_len {n : Str} {ins outs : List Str} {ps : List Prt} {ws : List (Prt × Prt)} (h : DataOk n ins outs ps ws) (hw : ws.length ≤ 300) : (textOfD n ins outs ps ws).length ≤ 100000 := by
  have h1 := join_len (a := "\n") (rows_lens h)
  rw [rows_count] at h1
  have h2 := h.p.1
  have lnl : (("\n" : Str)).length = 1 := by decide +kernel
  rw [lnl] at h1
  unfold textOfD
  omega
theorem text_fits {n : Str} {ins outs : List Str} {ps : List Prt} {ws : List (Prt × Prt)} (h : DataOk n ins outs ps ws) (hw : ws.length ≤ 300) : TextFits (textOfD n ins outs ps ws) := by
  have h2 := h.p.1
  refine ⟨Nat.le_trans (text_len h hw) (by decide), ?_, ?_⟩
  · rw [split_textD h, rows_count]
    omega
  · rw [split_textD h]
    exact fun y hy => Nat.le_trans (rows_lens h y hy) (by decide)
/-! ### equal data -/
theorem eqv_all {α : Type} {f : α → PyData} (h : ∀ x, PyData.eqv (f x) (f x) = true) : ∀ l : List α, PyData.eqvAll (l.map f) (l.map f) = true
  | [] => rfl
  | x :: l => by
    show (PyData.eqv (f x) (f x) && PyData.eqvAll (l.map f) (l.map f)) = true
    rw [h x, eqv_all h l]
    rfl
theorem eqv_pair (p : Prt) : PyData.eqv (dPair p) (dPair p) = true := by
  show ((p.1 == p.1) && ((p.2 == p.2) && true)) = true
  simp
theorem eqv_wire (x : Prt × Prt) : PyData.eqv (dWire x) (dWire x) = true := by
  show (PyData.eqv (dPair x.1) (dPair x.1) && (PyData.eqv (dPair x.2) (dPair x.2) && true)) = true
  rw [eqv_pair, eqv_pair]
  rfl
theorem pe_conK (K : PySem.W.Frag) {X : Cx} {e : Expr} {f : Str} {pos : Pos} {ta : TE} (he : PE X e ta) (hb : attributeBase e f X.env (eval e X.env) = eval e X.env) (hK : X.K = K := by rfl) : PE X (.Attribute e f pos) (tCon K ta f) := hK ▸ pe_con he hb
end Ly

set_option maxRecDepth 100000
set_option maxHeartbeats 4000000
/-! many parts; the law's diagram, read -/
namespace Ly
open PySem PySem.Spec PyProof.Rows L2
def spMany : Sp := fun vs H Q _ => ∃ (p : Addr) (a b : Int), vs = [.ref p] ∧ FeedAt H p a b ∧ ∀ H', SameX p H H' → Q (.bl true) H'
def ltr16 : Str := "abcdefghijklmnop"
def L16 : List Str := ltr16.cps.toList.map fun c => ⟨#[c]⟩
theorem l16_ok : (∀ y ∈ L16, nameOk y = true) ∧ L16.Nodup ∧ L16.length = 16 := by decide +kernel
theorem cut_from {α : Type} (f : α → V) (xs : List α) {a : Nat} (ha : a ≤ xs.length) : cutV (xs.map f) (some (a : Int)) none = (xs.drop a).map f := by
  unfold cutV
  rw [List.length_map, HT.sIx_nat, HT.sIx_none, Nat.min_eq_left ha, ← List.map_drop, List.take_of_length_le (by rw [List.length_map, List.length_drop]; omega)]
theorem at_prev (xs : List Str) {i : Nat} (hi : i < xs.length) : ∃ y, y ∈ xs ∧ atI (xs.map V.str) ((i : Int) - 1) = some (.str y) := by
  cases i with
  | zero =>
    have hn : xs.length - 1 < xs.length := by omega
    refine ⟨xs[xs.length - 1], List.getElem_mem _, ?_⟩
    unfold atI
    rw [show ((0 : Nat) : Int) - 1 = -1 by omega]
    rw [show ixN (xs.map V.str).length (-1) = some (xs.length - 1) by
      unfold ixN
      rw [if_neg (by decide), List.length_map, if_pos (by omega)]
      congr 1
      omega]
    show (xs.map V.str)[xs.length - 1]? = _
    rw [List.getElem?_map, List.getElem?_eq_getElem hn]
    rfl
  | succ j =>
    have hj : j < xs.length := by omega
    refine ⟨xs[j], List.getElem_mem _, ?_⟩
    rw [show ((j + 1 : Nat) : Int) - 1 = ((j : Nat) : Int) by omega]
    exact atI_nat (by rw [List.getElem?_map, List.getElem?_eq_getElem hj]; rfl)
/-- a diagram read from the rows of a drawn one, in another order -/
theorem read_same {n : Str} {ins outs : List Str} {ps : List Prt} {ws zs zs' ws' : List (Prt × Prt)} (hd : DataOk n ins outs ps ws) (hl : LOrd outs ps ws zs) (hp : zs'.Perm zs) (ho : IsOrd outs ps zs' ws') : ws' = zs := ord_same hd (hp.trans (lord_perm hd hl)) ho hl
theorem read_ok {n : Str} {ins outs : List Str} {ps : List Prt} {ws zs zs' : List (Prt × Prt)} (hd : DataOk n ins outs ps ws) (hl : LOrd outs ps ws zs) (hp : zs'.Perm zs) : DataOk n ins outs ps zs' := hd.perm (hp.trans (lord_perm hd hl))
theorem rows_sum {n : Str} {ins outs : List Str} {ps : List Prt} {ws : List (Prt × Prt)} (h : DataOk n ins outs ps ws) (hw : ws.length ≤ 300) : ((textRows n ins outs ps ws).map (·.length)).sum + (textRows n ins outs ps ws).length * (("\n" : Str)).length ≤ 16777216 := by
  have h1 := sum_len (rows_lens h)
  have h2 := h.p.1
  have lnl : (("\n" : Str)).length = 1 := by decide +kernel
  rw [lnl]
  rw [rows_count] at h1 ⊢
  omega
theorem row_okS {n : Str} {ins outs : List Str} {ps : List Prt} {ws : List (Prt × Prt)} (h : DataOk n ins outs ps ws) : ∀ y ∈ ws.map wireText, OkS y := fun y hy => by
  obtain ⟨x, hx, rfl⟩ := List.mem_map.mp hy
  obtain ⟨a1, _, _⟩ := port_signs (h.w1 x hx) (fun y hy => h.io.1 y (List.mem_append_right _ hy)) fun q hq => (h.p.2.1 q hq).1
  obtain ⟨b1, _, _⟩ := port_signs (h.w2 x hx) (fun y hy => h.io.1 y (List.mem_append_left _ hy)) fun q hq => (h.p.2.1 q hq).1
  refine okS_of fun c hc => ?_
  unfold wireText at hc
  simp only [sl_app, List.mem_append, sl_s2, sl_ar] at hc
  rcases hc with ((hc | hc) | hc) | hc
  · simp at hc; omega
  · have := a1 c hc; omega
  · simp at hc; omega
  · have := b1 c hc; omega
theorem data_okS {n : Str} {ins outs : List Str} {ps : List Prt} {ws : List (Prt × Prt)} (h : DataOk n ins outs ps ws) : (∀ x ∈ ws, (OkS x.1.1 ∧ OkS x.1.2) ∧ OkS x.2.1 ∧ OkS x.2.2) ∧ ∀ q ∈ ps, OkS q.1 ∧ OkS q.2 := by
  have part : ∀ a, a ∈ ps.map (·.1) → OkS a := fun a ha => by
    obtain ⟨q, hq, rfl⟩ := List.mem_map.mp ha
    exact okS_name (h.p.2.1 q hq).1
  refine ⟨fun x hx => ⟨?_, ?_⟩, fun q hq => ⟨okS_name (h.p.2.1 q hq).1, okS_blk (blockOk_blk (h.p.2.1 q hq).2)⟩⟩
  · rcases h.w1 x hx with ⟨e1, e2⟩ | ⟨e1, e2⟩
    · rw [e1]
      exact ⟨okS_em, okS_name (h.io.1 _ (List.mem_append_right _ e2))⟩
    · exact ⟨part _ e1, okS_name e2⟩
  · rcases h.w2 x hx with ⟨e1, e2⟩ | ⟨e1, e2⟩
    · rw [e1]
      exact ⟨okS_em, okS_name (h.io.1 _ (List.mem_append_left _ e2))⟩
    · exact ⟨part _ e1, okS_name e2⟩
theorem eqv_wires (zs : List (Prt × Prt)) : PyData.eqv (.tuple (zs.map dWire)) (.tuple (zs.map dWire)) = true := eqv_all eqv_wire zs
theorem eqv_pairs (ps : List Prt) : PyData.eqv (.tuple (ps.map dPair)) (.tuple (ps.map dPair)) = true := eqv_all eqv_pair ps
end Ly

set_option maxRecDepth 100000
set_option maxHeartbeats 4000000
/-! a diagram's data, shown -/
namespace Ly
open PySem PySem.Spec PyProof.Rows L2
@[irreducible] def dDia (n : Str) (ins outs : List Str) (ps : List Prt) (zs : List (Prt × Prt)) : PyData := .tuple [.str n, dTx ins, dTx outs, .tuple (ps.map dPair), .tuple (zs.map dWire)]
theorem rep_okS {n w : Nat} {x : Str} (h : OkS x) (hl : x.length ≤ w) : Rep n w (.str x) := rep_str hl (by
  have h' : x.cps.all (· < 0x110000) = true := h
  rw [← Array.all_toList] at h'
  refine List.all_eq_true.mpr fun c hc => ?_
  have := List.all_eq_true.mp h' c hc
  exact decide_eq_true (Nat.lt_of_lt_of_le (of_decide_eq_true this) (by decide)))
theorem rep_pair {n w : Nat} {p : Prt} (h : OkS p.1 ∧ OkS p.2) (h1 : p.1.length ≤ w) (h2 : p.2.length ≤ w) : Rep (n + 1) (2 * w + 2) (dPair p) :=
  rep_tup (reps_cons (w1 := w) (w2 := w + 1) (rep_okS h.1 h1) (reps_cons (w1 := w) (w2 := 0) (rep_okS h.2 h2) reps_nil (by omega)) (by omega))
theorem rep_names {xs : List Str} (h : ∀ y ∈ xs, nameOk y = true) (hl : xs.length ≤ 100) : Rep 1 1000 (dTx xs) :=
  rep_tup ((reps_all (n := 0) (w := 8) (ds := xs.map .str) fun d hd => by
    obtain ⟨y, hy, rfl⟩ := List.mem_map.mp hd
    exact rep_okS (okS_name (h y hy)) (nameOk_len (h y hy)).2).mono (Nat.le_refl _) (by rw [List.length_map]; omega))
theorem rep_dia {n : Str} {ins outs : List Str} {ps : List Prt} {zs : List (Prt × Prt)} (h : DataOk n ins outs ps zs) (hl : zs.length ≤ 300) : Rep 4 100000 (dDia n ins outs ps zs) := by
  obtain ⟨o1, o2⟩ := data_okS h
  have h1 := rep_names (fun y hy => h.io.1 y (List.mem_append_left _ hy)) (by have := h.io.2.1; omega)
  have h2 := rep_names (fun y hy => h.io.1 y (List.mem_append_right _ hy)) (by have := h.io.2.2.1; omega)
  have h3 : Rep 2 20000 (.tuple (ps.map dPair)) := rep_tup ((reps_all (n := 1) (w := 202) (ds := ps.map dPair) fun d hd => by
    obtain ⟨q, hq, rfl⟩ := List.mem_map.mp hd
    exact rep_pair (n := 0) (w := 100) (o2 q hq) (by have := (nameOk_len (h.p.2.1 q hq).1).2; omega) (blockOk_len (h.p.2.1 q hq).2)).mono (Nat.le_refl _) (by rw [List.length_map]; have := h.p.1; omega))
  have h4 : Rep 3 50000 (.tuple (zs.map dWire)) := rep_tup ((reps_all (n := 2) (w := 40) (ds := zs.map dWire) fun d hd => by
    obtain ⟨x, hx, rfl⟩ := List.mem_map.mp hd
    obtain ⟨a, b⟩ := data_lens h x hx
    exact rep_tup (reps_cons (w1 := 18) (w2 := 19) (rep_pair (n := 0) (w := 8) (o1 x hx).1 a.1 a.2) (reps_cons (w1 := 18) (w2 := 0) (rep_pair (n := 0) (w := 8) (o1 x hx).2 b.1 b.2) reps_nil (by omega)) (by omega))).mono (Nat.le_refl _) (by rw [List.length_map]; omega))
  have hn := (nameOk_len h.n.1).2
  unfold dDia
  exact rep_tup (reps_cons (w1 := 8) (w2 := 99000) (rep_okS (okS_name h.n.1) hn) (reps_cons (w1 := 1000) (w2 := 90000) (h1.mono (by decide) (by decide)) (reps_cons (w1 := 1000) (w2 := 80000) (h2.mono (by decide) (by decide)) (reps_cons (w1 := 20000) (w2 := 55000) (h3.mono (by decide) (by decide)) (reps_cons (w1 := 50000) (w2 := 0) h4 reps_nil (by omega)) (by omega)) (by omega)) (by omega)) (by omega))
theorem dp_dia {K : PySem.W.Frag} {H : Hp} {a i o p w : Addr} {n : Str} {ins outs : List Str} {ps : List Prt} {zs : List (Prt × Prt)} (h : SqT K H a [.str n, .ref i, .ref o, .ref p, .ref w]) (hi : SqT K H i (ins.map V.str)) (ho : SqT K H o (outs.map V.str)) (hp : Dp K H (.ref p) (.tuple (ps.map dPair))) (hw : Dp K H (.ref w) (.tuple (zs.map dWire))) : Dp K H (.ref a) (dDia n ins outs ps zs) := by
  unfold dDia
  exact .tup h (.cons (.str n) (.cons (dp_strs hi) (.cons (dp_strs ho) (.cons hp (.cons hw .nil)))))
theorem fsD_ports {n i o p w t} : (fsD n i o p w t).lookup ("MAX_PORTS" : Str) = none := by kernel_rfl
theorem fsD_mparts {n i o p w t} : (fsD n i o p w t).lookup ("MAX_PARTS" : Str) = none := by kernel_rfl
theorem cut_four {a b c d e : V} : cutV [a, b, c, d, e] none (some 4) = [a, b, c, d] := by kernel_rfl
theorem not_four : ¬ (HT.sIx 5 0 none = 0 ∧ HT.sIx 5 5 (some 4) = 5) := by decide
end Ly

set_option maxRecDepth 100000
set_option maxHeartbeats 4000000
/-! join of a text's signs -/
namespace Ly
open PySem PySem.Spec PyProof.Rows L2
section
variable {X : Cx}
/-- sep.join(a text) -/
theorem mt_joinS (hc : X.calm = true) : MtR X "str.join" (fun x xs H Q => ∃ a y : Str, x = .str a ∧ xs = [.str y] ∧ JoinOk a (PyProof.Rows.signs y) = true ∧ Q (.str (Txt.join a (PyProof.Rows.signs y))) H) := by
  intro pins s σ H x xs v us Q I rx rs h
  obtain ⟨a, y, rfl, rfl, hok, h⟩ := h
  obtain ⟨t, rfl⟩ := rx
  cases rs with
  | cons r1 rs =>
    cases rs
    obtain ⟨u, rfl⟩ := r1
    exact SC.joinStr (I.ok.hd hc) hok fun h' k t' kp => ⟨.str _, H, I.kept kp, ⟨t', rfl⟩, h⟩
theorem pe_joinS {o e : Expr} {to te : TE} {apos pos : Pos} (hc : X.calm = true) (ho : PE X o to) (he : PE X e te) (hs : starEach [e] X.env = [(false, eval e X.env)] := by rfl) (hbase : attributeBase o "join" X.env (eval o X.env) = eval o X.env := by rfl) (hline : (apos.endLine == pos.line) = true := by rfl) :
    PE X (.Call (.Attribute o "join" apos) [e] [] pos) (tM1 (fun x xs H Q => ∃ a y : Str, x = .str a ∧ xs = [.str y] ∧ JoinOk a (PyProof.Rows.signs y) = true ∧ Q (.str (Txt.join a (PyProof.Rows.signs y))) H) to te) :=
  pe_m1 F.slot_str_join F.type_str_join (mt_joinS hc) ho he hs hbase hline
/-- sep.join(a list or tuple), its reading by name -/
def tJoin (K : PySem.W.Frag) (to te : TE) : TE := tM1 (fun x xs H Q => ∃ a p, ∃ ys : List Str, x = .str a ∧ xs = [.ref p] ∧ (SqL K H p (ys.map V.str) ∨ SqT K H p (ys.map V.str)) ∧ (ys.map (·.length)).sum + ys.length * a.length ≤ 16777216 ∧ Q (.str (Txt.join a ys)) H) to te
theorem pe_joinK (K : PySem.W.Frag) {o e : Expr} {to te : TE} {apos pos : Pos} (ho : PE X o to) (he : PE X e te) (hK : X.K = K := by rfl) (hs : starEach [e] X.env = [(false, eval e X.env)] := by rfl) (hbase : attributeBase o "join" X.env (eval o X.env) = eval o X.env := by rfl) (hline : (apos.endLine == pos.line) = true := by rfl) :
    PE X (.Call (.Attribute o "join" apos) [e] [] pos) (tJoin K to te) := hK ▸ pe_join ho he hs hbase hline
end
end Ly

set_option maxRecDepth 100000
set_option maxHeartbeats 4000000
/-! k07's own reader, and the reader of the program -/
namespace Ly
open PySem PySem.Spec PyProof.Rows L2
theorem join_sp {a : Str} {r : List Str} : Txt.join "" ((a :: r).map fun o => " " ++ o) = " " ++ Txt.join " " (a :: r) := by
  induction r generalizing a with
  | nil => rw [TL.join_eq, TL.join_eq]; rfl
  | cons b xs ih =>
    have := ih (a := b)
    rw [TL.join_eq, TL.join_eq] at this ⊢
    show " " ++ a ++ "" ++ Str.join "" ((b :: xs).map fun o => " " ++ o) = " " ++ (a ++ " " ++ Str.join " " (b :: xs))
    rw [this]
    refine sl_inj ?_
    simp only [sl_app, sl_em, List.append_nil, List.append_assoc]
theorem join_split2 (z y : Str) : Txt.join y (Txt.split z y) = z := by
  rw [TL.join_eq]
  exact PySem.StrLaws.join_split z y
theorem ports_join (h : Str) : Txt.join " " (headPorts h) = h := by
  unfold headPorts
  split
  · rename_i e
    rw [e, TL.join_eq]
    rfl
  · exact join_split2 h " "
theorem out_join {h : Str} (hs : (decide (h = "") || Txt.startswith h " ") = true) : Txt.join "" ((headOut h).map fun o => " " ++ o) = h := by
  unfold headOut
  split
  · rename_i e
    rw [e, TL.join_eq]
    rfl
  · rename_i e
    rw [decide_eq_false e, Bool.false_or] at hs
    obtain ⟨r, rfl⟩ := starts_iff.mp hs
    have hcp : cutS (" " ++ r) (some 1) none = r := cut_pre (n := 1) (by decide +kernel)
    rw [hcp]
    have hj := join_split2 r " "
    cases hsp : Txt.split r " " with
    | nil =>
      exfalso
      have hk : (" " : Str).cps.all (· < 256) = true := by decide +kernel
      have h1 := split_count (x := r) (y := " ") (c := 32) (by decide +kernel) (by decide)
      rw [hsp] at h1
      have h2 : (0 : Int) ≤ Txt.count r " " := by
        unfold Txt.count
        exact Int.natCast_nonneg _
      have h3 : (([] : List Str).length : Int) = 0 := rfl
      omega
    | cons a l =>
      rw [join_sp, ← hsp, hj]
theorem headOf_text {z n : Str} {ins outs : List Str} (h : headOf z = some (n, ins, outs)) : z = headText n ins outs := by
  unfold headOf at h
  split at h
  case isFalse => cases h
  rename_i hc
  simp only [Bool.and_eq_true, decide_eq_true_eq] at hc
  obtain ⟨⟨⟨c1, c2⟩, c3⟩, c4⟩ := hc
  obtain ⟨m, em, ec⟩ := mid_of c1 c2
  rw [ec] at h
  unfold headMid at h
  split at h
  case h_2 => cases h
  rename_i n' ps e1
  unfold headEnd at h
  split at h
  case h_2 => cases h
  rename_i h0 h1 e2
  split at h
  case isFalse => cases h
  rename_i hs
  unfold headFin at h
  split at h
  case isFalse => cases h
  have h := Option.some.inj h
  injection h with q1 h
  injection h with q2 q3
  have j1 := join_split2 m "("
  have j2 := join_split2 ps ";"
  rw [e1, join_two] at j1
  rw [e2, join_two] at j2
  unfold headText
  rw [← q1, ← q2, ← q3, ports_join, out_join hs, em, ← j1, ← j2]
  simp only [PySem.Str.append_assoc]
/-- the law's own reading of a head -/
def lawHead (z : Str) : Option (List Str × List Str) :=
  let f := Txt.partition z "("
  let m := Txt.partition f.2.2 ";"
  if (!decide (cutS z (some (-1)) none = ")") || !decide (cutS f.1 none (some 6) = "block ") || decide (m.2.1 = "")) = true then none else
  let n := cutS f.1 (some 6) none
  let e := cutS m.2.2 none (some (-1))
  let ins := headPorts m.1
  let outs := headOut e
  if (!decide (headText n ins outs = z) || !decide (ins ++ outs).Nodup) = true then none else
  if (ins ++ outs).all nameOk = false then none else
  if (!nameOk n || decide (n ∈ portNames) || decide (8 < ins.length) || decide (8 < outs.length)) = true then none else some (ins, outs)
theorem ports_back {xs : List Str} (h : ∀ y ∈ xs, nameOk y = true) : headPorts (Txt.join " " xs) = xs := by
  have hx : ∀ y ∈ xs, y ≠ "" ∧ (32 : Nat) ∉ sl y := fun y hy => ⟨nameOk_ne (h y hy), low_not (nameOk_low (h y hy)) (by decide)⟩
  unfold headPorts
  cases xs with
  | nil => rw [if_pos (by rw [TL.join_eq]; rfl)]
  | cons a r =>
    have hsp := TL.split_join (s := 32) (S := []) (y := " ") sl_sp (by decide +kernel) (parts := a :: r) (by simp) fun p hp => (hx p hp).2
    have ne : Txt.join " " (a :: r) ≠ "" := fun e => by
      rw [e] at hsp
      have e2 : Txt.split ("" : Str) " " = [("" : Str)] := by decide +kernel
      rw [e2] at hsp
      injection hsp with e3 _
      exact (hx a List.mem_cons_self).1 e3.symm
    rw [if_neg ne]
    exact hsp
theorem out_back {xs : List Str} (h : ∀ y ∈ xs, nameOk y = true) : headOut (Txt.join "" (xs.map fun o => " " ++ o)) = xs := by
  unfold headOut
  cases xs with
  | nil => rw [if_pos (by rw [TL.join_eq]; rfl)]
  | cons a r =>
    rw [join_sp]
    have ne : (" " : Str) ++ Txt.join " " (a :: r) ≠ "" := fun e => by
      have e1 := congrArg sl e
      rw [sl_app, sl_sp, sl_em] at e1
      cases e1
    have hcp : ∀ X : Str, cutS (" " ++ X) (some 1) none = X := fun X => cut_pre (n := 1) (by decide +kernel)
    rw [if_neg ne, hcp]
    exact TL.split_join (s := 32) (S := []) sl_sp (by decide +kernel) (by simp) fun p hp => low_not (nameOk_low (h p hp)) (by decide)
theorem cut_last {a b : Str} (h : b.length = 1) : cutS (a ++ b) (some (-1)) none = b := by
  refine sl_inj ?_
  have hl : (a ++ b : Str).length = a.length + b.length := PySem.Str.length_append a b
  have e1 : HT.sIx (a ++ b).length 0 (some (-1)) = a.length := by
    show (if (-1 : Int) < 0 then ((-1 : Int) + ((a ++ b).length : Int)).toNat else min (-1 : Int).toNat (a ++ b).length) = _
    rw [if_pos (by decide), hl]
    omega
  show ((sl (a ++ b)).drop (HT.sIx (a ++ b).length 0 (some (-1)))).take _ = sl b
  rw [HT.sIx_none, e1, sl_app, ← sl_len a, List.drop_left]
  refine List.take_of_length_le ?_
  have h1 := sl_len b
  have h2 := sl_len a
  rw [hl]
  omega
theorem cut_init {a b : Str} (h : b.length = 1) : cutS (a ++ b) none (some (-1)) = a := by
  refine sl_inj ?_
  have hl : (a ++ b : Str).length = a.length + b.length := PySem.Str.length_append a b
  have e1 : HT.sIx (a ++ b).length (a ++ b).length (some (-1)) = a.length := by
    show (if (-1 : Int) < 0 then ((-1 : Int) + ((a ++ b).length : Int)).toNat else min (-1 : Int).toNat (a ++ b).length) = _
    rw [if_pos (by decide), hl]
    omega
  show ((sl (a ++ b)).drop (HT.sIx (a ++ b).length 0 none)).take (HT.sIx (a ++ b).length (a ++ b).length (some (-1)) - HT.sIx (a ++ b).length 0 none) = sl a
  rw [e1, HT.sIx_none, List.drop_zero, Nat.sub_zero, sl_app, ← sl_len a, List.take_left]
theorem cut_head {a b : Str} {n : Nat} (h : a.length = n) : cutS (a ++ b) none (some (n : Int)) = a := by
  refine sl_inj ?_
  have hl : (a ++ b : Str).length = a.length + b.length := PySem.Str.length_append a b
  show ((sl (a ++ b)).drop (HT.sIx (a ++ b).length 0 none)).take (HT.sIx (a ++ b).length (a ++ b).length (some (n : Int)) - HT.sIx (a ++ b).length 0 none) = sl a
  rw [HT.sIx_nat, HT.sIx_none, Nat.min_eq_left (by omega), List.drop_zero, Nat.sub_zero, sl_app, ← h, ← sl_len a, List.take_left]
theorem lawHead_of {z : Str} {ins outs : List Str} (h : lawHead z = some (ins, outs)) : ∃ n, headOf z = some (n, ins, outs) := by
  unfold lawHead at h
  dsimp only at h
  split at h
  case isTrue => cases h
  split at h
  case isTrue => cases h
  rename_i c1
  split at h
  case isTrue => cases h
  rename_i c2
  split at h
  case isTrue => cases h
  rename_i c3
  have h := Option.some.inj h
  injection h with q1 q2
  rw [q1, q2] at c1 c2 c3
  simp only [Bool.or_eq_true, Bool.not_eq_true', decide_eq_false_iff_not, decide_eq_true_eq, not_or, Decidable.not_not, Bool.not_eq_false, Nat.not_lt] at c1 c2 c3
  refine ⟨cutS (Txt.partition z "(").1 (some 6) none, ?_⟩
  have := head_back (ins := ins) (outs := outs) ⟨c3.1.1.1, c3.1.1.2⟩ ⟨fun y hy => List.all_eq_true.mp c2 y hy, c3.1.2, c3.2, c1.2⟩
  rw [c1.1] at this
  exact this
theorem lawHead_to {z n : Str} {ins outs : List Str} (h : headOf z = some (n, ins, outs)) : lawHead z = some (ins, outs) := by
  have ez := headOf_text h
  obtain ⟨h1, h2, h3, h4, h5⟩ := headOf_ok h
  have hi : ∀ y ∈ ins, nameOk y = true := fun y hy => h3 y (List.mem_append_left _ hy)
  have ho : ∀ y ∈ outs, nameOk y = true := fun y hy => h3 y (List.mem_append_right _ hy)
  have hsp : LsT " " := fun c hc => by rw [sl_sp] at hc; exact .inl (List.mem_singleton.mp hc)
  have lsJ : LsT (Txt.join " " ins) := join_ls hsp fun x hx => low_ls (nameOk_low (hi x hx))
  have e1 : z = ("block " ++ n) ++ "(" ++ (Txt.join " " ins ++ ";" ++ (Txt.join "" (outs.map fun o => " " ++ o) ++ ")")) := by
    rw [ez]
    unfold headText
    simp only [PySem.Str.append_assoc]
  have p1 : Txt.partition z "(" = ("block " ++ n, ("(" : Str), Txt.join " " ins ++ ";" ++ (Txt.join "" (outs.map fun o => " " ++ o) ++ ")")) := by
    rw [e1]
    refine TL.partition_app (s := 40) (S := []) sl_op ?_
    show (40 : Nat) ∉ sl ("block " ++ n)
    rw [sl_app]
    intro hm
    rcases List.mem_append.mp hm with hm | hm
    · revert hm; decide +kernel
    · exact low_not (nameOk_low h1) (by decide) hm
  have p2 : Txt.partition (Txt.join " " ins ++ ";" ++ (Txt.join "" (outs.map fun o => " " ++ o) ++ ")")) ";" = (Txt.join " " ins, (";" : Str), Txt.join "" (outs.map fun o => " " ++ o) ++ ")") :=
    TL.partition_app (s := 59) (S := []) sl_sc (ls_not lsJ (by decide))
  have c1 : cutS z (some (-1)) none = ")" := by
    have : z = ("block " ++ n ++ "(" ++ Txt.join " " ins ++ ";" ++ Txt.join "" (outs.map fun o => " " ++ o)) ++ ")" := ez
    rw [this]
    exact cut_last (by decide +kernel)
  have c2 : cutS ("block " ++ n) none (some 6) = "block " := cut_head (n := 6) (by decide +kernel)
  have c3 : cutS ("block " ++ n) (some 6) none = n := cut_pre (n := 6) (by decide +kernel)
  have c4 : cutS (Txt.join "" (outs.map fun o => " " ++ o) ++ ")") none (some (-1)) = Txt.join "" (outs.map fun o => " " ++ o) := cut_init (by decide +kernel)
  have c5 : decide ((";" : Str) = "") = false := by decide +kernel
  unfold lawHead
  dsimp only
  rw [p1]
  dsimp only
  rw [p2]
  dsimp only
  rw [c1, c2, c3, c4, c5, ports_back hi, out_back ho, ← ez]
  have a1 : (ins ++ outs).all nameOk = true := List.all_eq_true.mpr h3
  rw [a1, h1, decide_eq_false h2, decide_eq_true h5, decide_eq_false (show ¬ 8 < ins.length by omega), decide_eq_false (show ¬ 8 < outs.length by omega)]
  simp
theorem lawHead_eq (z : Str) : lawHead z = (headOf z).map fun h => h.2 := by
  cases h : lawHead z with
  | some x =>
    obtain ⟨ins, outs⟩ := x
    obtain ⟨n, e⟩ := lawHead_of h
    rw [e]
    rfl
  | none =>
    cases e : headOf z with
    | none => rfl
    | some y =>
      obtain ⟨n, ins, outs⟩ := y
      rw [lawHead_to e] at h
      cases h
end Ly

set_option maxRecDepth 100000
set_option maxHeartbeats 4000000
/-! k07's own reader, row by row -/
namespace Ly
open PySem PySem.Spec PyProof.Rows L2
theorem name_one {z : Str} (h : nameOk z = true) : Txt.split z " " = [z] := split_1y (s := 32) (S := []) sl_sp (by decide +kernel) (low_not (nameOk_low h) (by decide))
def oneNum : List Str → Bool
  | [k] => (numOf k).isSome
  | _ => false
theorem blk_k {z n : Str} {r : List Str} (h : Txt.split z " " = n :: r) (hk : withK n = true) : blockOk z = oneNum r := by
  have hn : n = "const" ∨ n = "delay" := by
    unfold withK at hk
    simpa using hk
  have hnm : r ≠ [] → nameOk z = false := fun hr => by
    cases e : nameOk z with
    | false => rfl
    | true =>
      have := name_one e
      rw [h] at this
      injection this with _ e2
      exact (hr e2).elim
  have h0 : r = [] → z ∈ portNames := fun hr => by
    have := join_split2 z " "
    rw [h, hr, TL.join_eq] at this
    have e : n = z := this
    rw [← e]
    rcases hn with rfl | rfl <;> decide +kernel
  unfold blockOk primOf
  rw [h]
  match r, hnm, h0 with
  | [], _, h0 =>
    rw [decide_eq_true (h0 rfl)]
    have : n ∉ plain7 := by rcases hn with rfl | rfl <;> decide +kernel
    show ((if n ∈ plain7 then some (n, (none : Option Int)) else none).isSome || (nameOk z && !true)) = false
    rw [if_neg this]
    simp
  | [k], hnm, _ =>
    rw [hnm (by simp)]
    show ((if withK n = true then (numOf k).map fun v => (n, some v) else none).isSome || _) = _
    rw [if_pos hk]
    show _ = (numOf k).isSome
    cases numOf k <;> rfl
  | _ :: _ :: _, hnm, _ =>
    rw [hnm (by simp)]
    rfl
theorem blk_n {z n : Str} {r : List Str} (h : Txt.split z " " = n :: r) (hk : withK n = false) : blockOk z = (decide (z ∈ plain7) || nameOk z) := by
  unfold blockOk
  rw [prim_plain h hk]
  cases e : nameOk z with
  | false => simp
  | true =>
    by_cases hp : z ∈ portNames
    · have h1 := name_one e
      rw [h] at h1
      injection h1 with e1 _
      have : z ∈ plain7 := by
        rw [← e1] at hp ⊢
        have q : ∀ n ∈ portNames, withK n = false → n ∈ plain7 := by decide +kernel
        exact q n hp hk
      rw [decide_eq_true this]
      rfl
    · rw [decide_eq_false hp]
      simp
def portB (own ps : List Str) (z : Str) : Bool := match Txt.split z "." with
  | [_] => decide (z ∈ own)
  | [a, b] => decide (a ∈ ps) && nameOk b
  | _ => false
theorem portB_eq (own : List Str) (ps : List Prt) (z : Str) : portB own (ps.map (·.1)) z = (portOf ps own z).isSome := by
  unfold portB portOf
  generalize Txt.split z "." = l
  match l with
  | [] => rfl
  | [_] =>
    dsimp only
    by_cases h : z ∈ own
    · rw [if_pos h, decide_eq_true h]
      rfl
    · rw [if_neg h, decide_eq_false h]
      rfl
  | [a, b] =>
    dsimp only
    cases h : (decide (a ∈ ps.map (·.1)) && nameOk b) with
    | true => rw [if_pos rfl]; rfl
    | false => rw [if_neg (by decide)]; rfl
  | _ :: _ :: _ :: _ => rfl
theorem portOf_text {own : List Str} {ps : List Prt} {z : Str} {t : Prt} (hp : ∀ q ∈ ps, nameOk q.1 = true) (h : portOf ps own z = some t) : portText t = z := by
  unfold portOf at h
  split at h
  · split at h
    · cases h
      unfold portText
      rw [if_pos rfl]
    · cases h
  · rename_i a b e
    split at h
    · rename_i hc
      cases h
      rw [Bool.and_eq_true, decide_eq_true_eq] at hc
      obtain ⟨q, hq, rfl⟩ := List.mem_map.mp hc.1
      have hne := nameOk_ne (hp q hq)
      unfold portText
      rw [if_neg hne]
      have := join_split2 z "."
      rw [e, join_two] at this
      exact this
    · cases h
  · cases h
theorem cut_starts {z y : Str} {n : Nat} (h : y.length = n) : decide (cutS z none (some (n : Int)) = y) = Txt.startswith z y := by
  cases hs : Txt.startswith z y with
  | true =>
    obtain ⟨r, rfl⟩ := starts_iff.mp hs
    exact decide_eq_true (cut_head h)
  | false =>
    refine decide_eq_false fun e => ?_
    have : Txt.startswith z y = true := by
      refine starts_iff.mpr ⟨⟨((sl z).drop n).toArray⟩, sl_inj ?_⟩
      have e1 : sl (cutS z none (some (n : Int))) = (sl z).take (min n z.length) := by
        show ((sl z).drop (HT.sIx z.length 0 none)).take (HT.sIx z.length z.length (some (n : Int)) - HT.sIx z.length 0 none) = _
        rw [HT.sIx_nat, HT.sIx_none, List.drop_zero, Nat.sub_zero]
      rw [e] at e1
      have hl : (sl y).length = n := by rw [sl_len, h]
      rw [sl_app]
      show sl z = sl y ++ (sl z).drop n
      rw [e1] at hl ⊢
      rw [List.length_take, sl_len] at hl
      have e2 : min n z.length = n := by omega
      rw [e2, List.take_append_drop]
    rw [hs] at this
    cases this
/-- the law's own reading of the rows behind a head -/
def lawLoop (ins outs : List Str) : List Str → List Str → List Str → Nat → Option Nat
  | [], _, _, k => some k
  | z :: rest, ps, ts, k =>
    if z = "end" then (if rest = [] then none else some (k + 1))
    else if Txt.startswith z "  part " = true then
      match Txt.split (cutS z (some 7) none) " = " with
      | [a, b] => if (nameOk a && blockOk b && (ts.length == 0) && !(ps.length == 16) && !decide (a ∈ ps)) = true then lawLoop ins outs rest (ps ++ [a]) ts (k + 1) else some k
      | _ => some k
    else
      match Txt.split (cutS z (some 2) none) " <- " with
      | [a, b] => if (Txt.startswith z "  " && portB outs ps a && portB ins ps b && !decide (a ∈ ts)) = true then lawLoop ins outs rest ps (ts ++ [a]) (k + 1) else some k
      | _ => some k
def wrongOf : Except Nat RSt → Option Nat
  | .ok _ => none
  | .error k => some k
theorem lawLoop_eq : ∀ (rows : List Str) (r : RSt) (k : Nat), RInv r → r.name.isSome = true → r.done = false → r.wires.length + rows.length ≤ 14000 →
    lawLoop r.ins r.outs rows (r.parts.map (·.1)) (r.wires.map fun x => portText x.1) k = wrongOf (loopR rows r k)
  | [], r, k, hi, hn, hd, _ => by
    show some k = wrongOf (if r.done = true then _ else _)
    rw [hd]
    rfl
  | z :: rest, r, k, hi, hn, hd, hl => by
    rw [List.length_cons] at hl
    obtain ⟨m, hm⟩ := Option.isSome_iff_exists.mp hn
    have hstep : loopR (z :: rest) r k = match takeR r z with | none => .error k | some r' => loopR rest r' (k + 1) := by
      show (if r.done = true then Except.error k else match takeR r z with | none => Except.error k | some r' => loopR rest r' (k + 1)) = _
      rw [hd, if_neg (by decide)]
    rw [hstep]
    have htake : takeR r z = if z = "end" then some { r with done := true } else if Txt.startswith z "  part " = true then takePartR r (Txt.split (cutS z (some 7) none) " = ") else if Txt.startswith z "  " = true then takeWireR r (Txt.split (cutS z (some 2) none) " <- ") else none := by
      unfold takeR
      rw [hm]
    have hnext : ∀ r', takeR r z = some r' → RInv r' ∧ r'.wires.length ≤ r.wires.length + 1 := fun r' h => takeR_inv hi (by omega) h
    unfold lawLoop
    by_cases ce : z = "end"
    · rw [if_pos ce]
      rw [if_pos ce] at htake
      rw [htake]
      dsimp only
      cases rest with
      | nil =>
        rw [if_pos rfl]
        rfl
      | cons y l =>
        rw [if_neg (by simp)]
        rfl
    rw [if_neg ce]
    rw [if_neg ce] at htake
    cases cp : Txt.startswith z "  part " with
    | true =>
      rw [cp, if_pos rfl] at htake
      rw [if_pos rfl]
      unfold takePartR at htake
      split
      · rename_i a b e
        rw [e] at htake
        dsimp only at htake
        have e0 : (r.wires.map fun x => portText x.1).length = r.wires.length := List.length_map ..
        have e1 : (r.parts.map (·.1)).length = r.parts.length := List.length_map ..
        rw [e0, e1]
        split
        · rename_i hc
          rw [if_pos hc] at htake
          rw [htake]
          obtain ⟨hi', hw'⟩ := hnext _ htake
          have := lawLoop_eq rest _ (k + 1) hi' hn hd (by dsimp only at hw' ⊢; omega)
          dsimp only at this ⊢
          rw [← this, List.map_append]
          rfl
        · rename_i hc
          rw [if_neg hc] at htake
          rw [htake]
          rfl
      · rename_i hno
        have : takeR r z = none := by
          rw [htake]
          split
          · rename_i a b e
            exact (hno a b e).elim
          · rfl
        rw [this]
        rfl
    | false =>
      rw [cp, if_neg (by decide)] at htake
      rw [if_neg (by decide)]
      split
      · rename_i a b e
        rw [e] at htake
        cases cs : Txt.startswith z "  " with
        | false =>
          rw [cs, if_neg (by decide)] at htake
          rw [htake]
          rfl
        | true =>
        rw [cs, if_pos rfl] at htake
        unfold takeWireR at htake
        dsimp only at htake
        rw [portB_eq, portB_eq]
        have hpn : ∀ q ∈ r.parts, nameOk q.1 = true := fun q hq => (hi.p q hq).1
        cases e1 : portOf r.parts r.outs a with
        | none =>
          rw [e1] at htake
          dsimp only at htake
          rw [htake]
          rfl
        | some t =>
        cases e2 : portOf r.parts r.ins b with
        | none =>
          rw [e1, e2] at htake
          dsimp only at htake
          rw [htake]
          rfl
        | some s =>
        rw [e1, e2] at htake
        dsimp only at htake
        have et := portOf_text hpn e1
        have hmem : a ∈ (r.wires.map fun x => portText x.1) ↔ t ∈ r.wires.map (·.1) := by
          constructor
          · intro hm
            obtain ⟨x, hx, ex⟩ := List.mem_map.mp hm
            have h2 := (port_signs (hi.w1 x hx) hi.o.2 hpn).2.2
            rw [ex, e1] at h2
            rw [Option.some.inj h2]
            exact List.mem_map.mpr ⟨x, hx, rfl⟩
          · intro hm
            obtain ⟨x, hx, ex⟩ := List.mem_map.mp hm
            refine List.mem_map.mpr ⟨x, hx, ?_⟩
            rw [show x.1 = t from ex, et]
        by_cases ht : t ∈ r.wires.map (·.1)
        · rw [if_pos ht] at htake
          rw [htake, decide_eq_true (hmem.mpr ht)]
          rfl
        · rw [if_neg ht] at htake
          rw [htake, decide_eq_false fun z => ht (hmem.mp z)]
          obtain ⟨hi', hw'⟩ := hnext _ htake
          have := lawLoop_eq rest _ (k + 1) hi' hn hd (by dsimp only at hw' ⊢; omega)
          dsimp only at this
          rw [if_pos (by rfl)]
          dsimp only
          rw [← this, List.map_append]
          show _ = lawLoop r.ins r.outs rest _ (_ ++ [portText t]) (k + 1)
          rw [et]
      · rename_i hno
        have : takeR r z = none := by
          rw [htake]
          split
          · unfold takeWireR
            split
            · rename_i a b e
              exact (hno a b e).elim
            · rfl
          · rfl
        rw [this]
        rfl
/-- the law's own reading of a text -/
def lawWrong (z : Str) : Option Nat := match Txt.split z "\n" with
  | [] => some 0
  | y :: rest => match lawHead y with
    | none => some 0
    | some (ins, outs) => lawLoop ins outs rest [] [] 1
theorem lawWrong_eq {z : Str} (h : (Txt.split z "\n").length ≤ 13000) (hne : Txt.split z "\n" ≠ []) : lawWrong z = wrongOf (parseR z) := by
  unfold lawWrong parseR
  cases e : Txt.split z "\n" with
  | nil => exact (hne e).elim
  | cons y rest =>
    rw [e, List.length_cons] at h
    dsimp only
    rw [lawHead_eq]
    have ht : takeR rs0 y = (headOf y).map fun h => { rs0 with name := some h.1, ins := h.2.1, outs := h.2.2 } := rfl
    show _ = wrongOf (match takeR rs0 y with | none => Except.error 0 | some r' => loopR rest r' 1)
    rw [ht]
    cases eh : headOf y with
    | none => rfl
    | some x =>
      obtain ⟨n, ins, outs⟩ := x
      have ht2 : takeR rs0 y = some { rs0 with name := some n, ins := ins, outs := outs } := by rw [ht, eh]; rfl
      obtain ⟨hi', _⟩ := takeR_inv rinv0 (by decide) ht2
      exact lawLoop_eq rest _ 1 hi' rfl rfl (by show 0 + rest.length ≤ 14000; omega)
end Ly

set_option maxRecDepth 100000
set_option maxHeartbeats 4000000
/-! k07: sizes of changed texts -/
namespace Ly
open PySem PySem.Spec PyProof.Rows L2
theorem szn {n : Nat} (h : n ≤ 1000000) : n ≤ sizeLine := Nat.le_trans h (by decide)
theorem okT_splitG {n : Nat} {x y : Str} (hy : TL.tl y ≠ []) (hk : y.cps.all (· < 256) = true) (h : OkT n x) : ∀ p ∈ Txt.split x y, OkT n p := fun p hp => by
  refine ⟨Nat.le_trans (split_lens hy hk p hp) h.ln, ?_⟩
  have e := TL.split_spl x y hy (TL.kind_ok hk)
  have h2 : TL.tl p ∈ (Txt.split x y).map TL.tl := List.mem_map_of_mem hp
  rw [e] at h2
  rw [List.all_eq_true]
  intro c hc
  rcases spl_mem _ _ _ _ _ h2 c hc with q | q
  · cases q
  · exact List.all_eq_true.mp h.sg c q
theorem okT_sub {n i j : Nat} {x : Str} (h : OkT n x) : OkT n (Builtin.Str.strSub x i j) := by
  have hs : (sl (Builtin.Str.strSub x i j)).Sublist (sl x) := by
    show ((x.cps.extract i j).toList).Sublist x.cps.toList
    rw [Array.toList_extract]
    exact (List.take_sublist _ _).trans (List.drop_sublist _ _)
  refine ⟨?_, ?_⟩
  · rw [← sl_len]
    have := hs.length_le
    rw [sl_len x] at this
    exact Nat.le_trans this h.ln
  · rw [List.all_eq_true]
    intro c hc
    exact List.all_eq_true.mp h.sg c (hs.subset hc)
theorem okT_em {n : Nat} : OkT n "" := ⟨by rw [show ("" : Str).length = 0 by decide +kernel]; exact Nat.zero_le _, by decide +kernel⟩
theorem okT_part {n : Nat} {x y : Str} (h : OkT n x) : OkT n (Txt.partition x y).1 ∧ OkT n (Txt.partition x y).2.2 := by
  rcases PyProof.Rows.partition_whole x y with ⟨e, _⟩ | ⟨i, e, _⟩
  · rw [e]
    exact ⟨h, okT_em⟩
  · rw [e]
    exact ⟨okT_sub h, okT_sub h⟩
/-- an additive measure of texts -/
def mu (f : Nat → Nat) (z : Str) : Nat := ((sl z).map f).sum
theorem mu_app (f : Nat → Nat) (a b : Str) : mu f (a ++ b) = mu f a + mu f b := by
  unfold mu
  rw [sl_app, List.map_append, List.sum_append]
def mus (f : Nat → Nat) (l : List Str) : Nat := (l.map (mu f)).sum
theorem mus_app (f : Nat → Nat) (a b : List Str) : mus f (a ++ b) = mus f a + mus f b := by
  unfold mus
  rw [List.map_append, List.sum_append]
theorem mus_cons (f : Nat → Nat) (a : Str) (b : List Str) : mus f (a :: b) = mu f a + mus f b := rfl
theorem mu_join (f : Nat → Nat) (y : Str) : ∀ l : List Str, mu f (Txt.join y l) + mu f y = mus f l + (max l.length 1) * mu f y := by
  intro l
  rw [TL.join_eq]
  induction l with
  | nil =>
    show mu f Str.empty + _ = _
    have : mu f Str.empty = 0 := rfl
    simp [this, mus]
  | cons a l ih =>
    cases l with
    | nil =>
      show mu f a + mu f y = _
      simp [mus]
    | cons b l =>
      show mu f (a ++ y ++ Str.join y (b :: l)) + mu f y = _
      rw [mu_app, mu_app, mus_cons]
      have e : max (a :: b :: l).length 1 = max (b :: l).length 1 + 1 := by
        simp only [List.length_cons]
        omega
      rw [e, Nat.succ_mul]
      omega
theorem mu_split (f : Nat → Nat) (z y : Str) : mu f z + mu f y = mus f (Txt.split z y) + (max (Txt.split z y).length 1) * mu f y := by
  have := mu_join f y (Txt.split z y)
  rw [join_split2] at this
  exact this
theorem mus_mem {f : Nat → Nat} {l : List Str} {a : Str} (h : a ∈ l) : mu f a ≤ mus f l := by
  induction l with
  | nil => cases h
  | cons b l ih =>
    rw [mus_cons]
    rcases List.mem_cons.mp h with rfl | h
    · omega
    · have := ih h
      omega
theorem mus_sub {f : Nat → Nat} {l m : List Str} (h : l.Sublist m) : mus f l ≤ mus f m := by
  induction h with
  | slnil => exact Nat.le_refl _
  | cons a _ ih => rw [mus_cons]; omega
  | cons_cons a _ ih => rw [mus_cons, mus_cons]; omega
theorem mus_set {f : Nat → Nat} : ∀ {l : List Str} {i : Nat} {a : Str}, mus f (l.set i a) ≤ mus f l + mu f a
  | [], i, a => by simp [mus]
  | b :: l, 0, a => by rw [List.set_cons_zero, mus_cons, mus_cons]; omega
  | b :: l, i + 1, a => by
    rw [List.set_cons_succ, mus_cons, mus_cons]
    have := mus_set (f := f) (l := l) (i := i) (a := a)
    omega
/-- a list of pieces, not much greater than the text that it was -/
def Near (f : Nat → Nat) (z y : Str) (l : List Str) : Prop := mu f (Txt.join y l) ≤ 2 * mu f z + 40
theorem near_of {f : Nat → Nat} {z y : Str} {l : List Str} (hf : ∀ c, f c ≤ 1) (h1 : mus f l ≤ mus f (Txt.split z y) + max (mu f z) 30) (h2 : l.length ≤ (Txt.split z y).length + 1) (hy : mu f y ≤ 1) : Near f z y l := by
  unfold Near
  have a := mu_join f y l
  have b := mu_split f z y
  have e : max l.length 1 ≤ max (Txt.split z y).length 1 + 1 := by omega
  have hm : (max l.length 1) * mu f y ≤ (max (Txt.split z y).length 1) * mu f y + mu f y := by
    rw [← Nat.succ_mul]
    exact Nat.mul_le_mul_right _ e
  omega
def fLen : Nat → Nat := fun _ => 1
def fNl : Nat → Nat := fun c => if c = 10 then 1 else 0
theorem mu_len (z : Str) : mu fLen z = z.length := by
  unfold mu fLen
  rw [List.map_const', List.sum_replicate_nat, sl_len, Nat.mul_one]
def fSp : Nat → Nat := fun c => if c = 32 then 1 else 0
/-- a text of the law: its length, its newlines, its spaces, its signs -/
structure TxtN (n m k : Nat) (z : Str) : Prop where
  ok : OkT n z
  nl : mu fNl z ≤ m
  sp : mu fSp z ≤ k
theorem sp_none {z : Str} (h : (32 : Nat) ∉ sl z) : mu fSp z = 0 := by
  unfold mu
  generalize sl z = l at h
  induction l with
  | nil => rfl
  | cons a l ih =>
    have ha : a ≠ 32 := fun e => h (by rw [e]; exact List.mem_cons_self)
    rw [List.map_cons, List.sum_cons, ih fun hm => h (List.mem_cons_of_mem _ hm)]
    unfold fSp
    rw [if_neg ha]
theorem nl_none {z : Str} (h : (10 : Nat) ∉ sl z) : mu fNl z = 0 := by
  unfold mu
  generalize sl z = l at h
  induction l with
  | nil => rfl
  | cons a l ih =>
    have ha : a ≠ 10 := fun e => h (by rw [e]; exact List.mem_cons_self)
    rw [List.map_cons, List.sum_cons, ih fun hm => h (List.mem_cons_of_mem _ hm)]
    unfold fNl
    rw [if_neg ha]
theorem nl_le_len (z : Str) : mu fNl z ≤ z.length := by
  rw [← mu_len]
  unfold mu
  generalize sl z = l
  induction l with
  | nil => exact Nat.le_refl _
  | cons a l ih =>
    rw [List.map_cons, List.map_cons, List.sum_cons, List.sum_cons]
    have : fNl a ≤ fLen a := by unfold fNl fLen; split <;> omega
    omega
theorem spl_no {c : Nat} : ∀ {l acc p : List Nat}, p ∈ TL.spl [c] 0 acc l → c ∉ acc → c ∉ p := by
  intro l
  induction l with
  | nil =>
    intro acc p hp ha
    rw [TL.spl_nil] at hp
    rw [List.mem_singleton.mp hp]
    simpa using ha
  | cons d r ih =>
    intro acc p hp ha
    by_cases h : d = c
    · subst h
      have hp' : TL.pre [d] (d :: r) = true := TL.pre_self [d] r
      rw [TL.spl_hit hp'] at hp
      rcases List.mem_cons.mp hp with e | hp
      · rw [e]
        simpa using ha
      · exact ih hp (by simp)
    · rw [TL.spl_miss (TL.pre_of_head [] r h)] at hp
      refine ih hp fun hm => ?_
      rcases List.mem_append.mp hm with hm | hm
      · exact ha hm
      · exact h (List.mem_singleton.mp hm).symm
theorem rows_nl_count (z : Str) : (Txt.split z "\n").length = mu fNl z + 1 := by
  have e : ("\n" : Str) = ⟨#[10]⟩ := by decide +kernel
  have a := mu_split fNl z "\n"
  have h1 : mu fNl "\n" = 1 := by decide +kernel
  have hne : Txt.split z "\n" ≠ [] := split_ne (by decide +kernel) (by decide +kernel)
  have h0 : mus fNl (Txt.split z "\n") = 0 := by
    have hno : ∀ p ∈ Txt.split z "\n", (10 : Nat) ∉ sl p := fun p hp => by
      have q := TL.split_spl z "\n" (by decide +kernel) (TL.kind_ok (by decide +kernel))
      have h2 : TL.tl p ∈ (Txt.split z "\n").map TL.tl := List.mem_map_of_mem hp
      rw [q] at h2
      rw [show TL.tl ("\n" : Str) = [10] from sl_nl] at h2
      exact spl_no h2 (by simp)
    unfold mus
    generalize Txt.split z "\n" = l at hno
    clear a
    induction l with
    | nil => rfl
    | cons p l ih =>
      rw [List.map_cons, List.sum_cons, nl_none (hno p List.mem_cons_self), Nat.zero_add]
      exact ih fun q hq => hno q (List.mem_cons_of_mem _ hq)
  have hp : 1 ≤ (Txt.split z "\n").length := by
    cases h : Txt.split z "\n" with
    | nil => exact (hne h).elim
    | cons a l => simp
  rw [h0, h1, Nat.mul_one] at a
  omega
theorem rows_sp_count (z : Str) : (Txt.split z " ").length = mu fSp z + 1 := by
  have a := mu_split fSp z " "
  have h1 : mu fSp " " = 1 := by decide +kernel
  have hne : Txt.split z " " ≠ [] := split_ne (by decide +kernel) (by decide +kernel)
  have h0 : mus fSp (Txt.split z " ") = 0 := by
    have hno : ∀ p ∈ Txt.split z " ", (32 : Nat) ∉ sl p := fun p hp => by
      have q := TL.split_spl z " " (by decide +kernel) (TL.kind_ok (by decide +kernel))
      have h2 : TL.tl p ∈ (Txt.split z " ").map TL.tl := List.mem_map_of_mem hp
      rw [q] at h2
      rw [show TL.tl (" " : Str) = [32] from sl_sp] at h2
      exact spl_no h2 (by simp)
    unfold mus
    generalize Txt.split z " " = l at hno
    clear a
    induction l with
    | nil => rfl
    | cons p l ih =>
      rw [List.map_cons, List.sum_cons, sp_none (hno p List.mem_cons_self), Nat.zero_add]
      exact ih fun q hq => hno q (List.mem_cons_of_mem _ hq)
  have hp : 1 ≤ (Txt.split z " ").length := by
    cases h : Txt.split z " " with
    | nil => exact (hne h).elim
    | cons a l => simp
  rw [h0, h1, Nat.mul_one] at a
  omega
theorem blk_sp {z : Str} (h : blockOk z = true) : mu fSp z ≤ 1 := by
  have a := rows_sp_count z
  unfold blockOk at h
  rcases Bool.or_eq_true_iff.mp h with h | h
  · unfold primOf at h
    match e : Txt.split z " ", h with
    | [], h => cases h
    | [_], _ => rw [e] at a; simp at a; omega
    | [_, _], _ => rw [e] at a; simp at a; omega
    | _ :: _ :: _ :: _, h => cases h
  · rw [sp_none (low_not (nameOk_low (Bool.and_eq_true_iff.mp h).1) (by decide))]
    omega
theorem mus_le {f : Nat → Nat} {l : List Str} {n : Nat} (h : ∀ z ∈ l, mu f z ≤ n) : mus f l ≤ n * l.length := by
  induction l with
  | nil => exact Nat.le_refl _
  | cons a l ih =>
    rw [mus_cons, List.length_cons, Nat.mul_succ]
    have h1 := h a List.mem_cons_self
    have h2 := ih fun z hz => h z (List.mem_cons_of_mem _ hz)
    omega
theorem join_mem {y : Str} {xs : List Str} {c : Nat} (hc : c ∈ sl (Txt.join y xs)) : c ∈ sl y ∨ ∃ x ∈ xs, c ∈ sl x := by
  rw [TL.join_eq] at hc
  have e := TL.tl_join y xs
  have hm : ∀ (ps : List (List Nat)), ∀ c ∈ TL.joinL (sl y) ps, c ∈ sl y ∨ ∃ p ∈ ps, c ∈ p := by
    intro ps
    induction ps with
    | nil => intro c hc; cases hc
    | cons p r ih =>
      intro c hc
      cases r with
      | nil => exact .inr ⟨p, List.mem_cons_self, hc⟩
      | cons q r =>
        have hc' : c ∈ p ++ (sl y ++ TL.joinL (sl y) (q :: r)) := hc
        rcases List.mem_append.mp hc' with hc | hc
        · exact .inr ⟨p, List.mem_cons_self, hc⟩
        rcases List.mem_append.mp hc with hc | hc
        · exact .inl hc
        · rcases ih c hc with h | ⟨p', hp', h⟩
          · exact .inl h
          · exact .inr ⟨p', List.mem_cons_of_mem _ hp', h⟩
  rcases hm (xs.map sl) c (e ▸ hc) with h | ⟨p, hp, h⟩
  · exact .inl h
  · obtain ⟨x, hx, rfl⟩ := List.mem_map.mp hp
    exact .inr ⟨x, hx, h⟩
theorem head_sg {n : Str} {ins outs : List Str} (hn : nameOk n = true) (hi : ∀ y ∈ ins, nameOk y = true) (ho : ∀ y ∈ outs, nameOk y = true) : (∀ c ∈ sl (headText n ins outs), c < 1114112) ∧ mu fSp (headText n ins outs) ≤ 1 + (ins.length + outs.length) := by
  refine ⟨fun c hc => ?_, ?_⟩
  · unfold headText at hc
    simp only [sl_app, List.mem_append, sl_blk, sl_op, sl_sc, sl_cl] at hc
    rcases hc with (((((hc | hc) | hc) | hc) | hc) | hc) | hc
    · simp at hc; omega
    · have := nameOk_low hn c hc; omega
    · simp at hc; omega
    · rcases join_mem hc with h | ⟨x, hx, h⟩
      · rw [sl_sp] at h; simp at h; omega
      · have := nameOk_low (hi x hx) c h; omega
    · simp at hc; omega
    · rcases join_mem hc with h | ⟨x, hx, h⟩
      · rw [sl_em] at h; cases h
      · obtain ⟨o, ho', rfl⟩ := List.mem_map.mp hx
        rw [sl_app, sl_sp] at h
        rcases List.mem_append.mp h with h | h
        · simp at h; omega
        · have := nameOk_low (ho o ho') c h; omega
    · simp at hc; omega
  · have a := mu_join fSp " " ins
    have b := mu_join fSp "" (outs.map fun o => (" " : Str) ++ o)
    have c1 : mu fSp " " = 1 ∧ mu fSp "" = 0 ∧ mu fSp "block " = 1 ∧ mu fSp "(" = 0 ∧ mu fSp ";" = 0 ∧ mu fSp ")" = 0 := by decide +kernel
    have z0 : ∀ y, nameOk y = true → mu fSp y = 0 := fun y hy => sp_none (low_not (nameOk_low hy) (by decide))
    have d1 : mus fSp ins ≤ 0 * ins.length := mus_le fun z hz => by rw [z0 z (hi z hz)]; exact Nat.le_refl _
    have d2 : mus fSp (outs.map fun o => (" " : Str) ++ o) ≤ 1 * (outs.map fun o => (" " : Str) ++ o).length := mus_le fun z hz => by
      obtain ⟨o, ho', rfl⟩ := List.mem_map.mp hz
      rw [mu_app, z0 o (ho o ho'), c1.1]
      exact Nat.le_refl _
    rw [List.length_map] at d2
    rw [c1.1] at a
    rw [c1.2.1] at b
    unfold headText
    rw [mu_app, mu_app, mu_app, mu_app, mu_app, mu_app, z0 n hn, c1.2.2.1, c1.2.2.2.1, c1.2.2.2.2.1, c1.2.2.2.2.2]
    omega
theorem port_sg {own : List Str} {ps : List Prt} {x : Prt} (h : PortOk own ps x) (ho : ∀ y ∈ own, nameOk y = true) (hp : ∀ q ∈ ps, nameOk q.1 = true) : (∀ c ∈ sl (portText x), c < 1114112) ∧ mu fSp (portText x) = 0 := by
  obtain ⟨a, _, _⟩ := port_signs h ho hp
  exact ⟨fun c hc => by have := a c hc; omega, sp_none fun hm => by have := a 32 hm; omega⟩
theorem rows_sg {n : Str} {ins outs : List Str} {ps : List Prt} {ws : List (Prt × Prt)} (h : DataOk n ins outs ps ws) : ∀ z ∈ textRows n ins outs ps ws, ∀ c ∈ sl z, c < 1114112 := by
  have hon : ∀ y ∈ outs, nameOk y = true := fun y hy => h.io.1 y (List.mem_append_right _ hy)
  have hin : ∀ y ∈ ins, nameOk y = true := fun y hy => h.io.1 y (List.mem_append_left _ hy)
  have hpn : ∀ q ∈ ps, nameOk q.1 = true := fun q hq => (h.p.2.1 q hq).1
  intro z hz c hc
  unfold textRows at hz
  simp only [List.mem_append, List.mem_singleton, List.mem_map] at hz
  rcases hz with ((rfl | ⟨p, hp, rfl⟩) | ⟨x, hx, rfl⟩) | rfl
  · exact (head_sg h.n.1 hin hon).1 c hc
  · unfold partText at hc
    simp only [sl_app, List.mem_append, sl_pt, sl_eq] at hc
    rcases hc with ((hc | hc) | hc) | hc
    · simp at hc; omega
    · have := nameOk_low (h.p.2.1 p hp).1 c hc; omega
    · simp at hc; omega
    · have := blockOk_blk (h.p.2.1 p hp).2 c hc; omega
  · unfold wireText at hc
    simp only [sl_app, List.mem_append, sl_s2, sl_ar] at hc
    rcases hc with ((hc | hc) | hc) | hc
    · simp at hc; omega
    · exact (port_sg (h.w1 x hx) hon hpn).1 c hc
    · simp at hc; omega
    · exact (port_sg (h.w2 x hx) hin hpn).1 c hc
  · rw [sl_end] at hc; simp at hc; omega
theorem rows_sp {n : Str} {ins outs : List Str} {ps : List Prt} {ws : List (Prt × Prt)} (h : DataOk n ins outs ps ws) : mus fSp (textRows n ins outs ps ws) ≤ 1 + (ins.length + outs.length) + 6 * ps.length + 4 * ws.length := by
  have hon : ∀ y ∈ outs, nameOk y = true := fun y hy => h.io.1 y (List.mem_append_right _ hy)
  have hin : ∀ y ∈ ins, nameOk y = true := fun y hy => h.io.1 y (List.mem_append_left _ hy)
  have hpn : ∀ q ∈ ps, nameOk q.1 = true := fun q hq => (h.p.2.1 q hq).1
  have c1 : mu fSp "  part " = 3 ∧ mu fSp " = " = 2 ∧ mu fSp "  " = 2 ∧ mu fSp " <- " = 2 := by decide +kernel
  have ce : mus fSp [("end" : Str)] = 0 := by decide +kernel
  have a := (head_sg h.n.1 hin hon).2
  have b : mus fSp (ps.map partText) ≤ 6 * (ps.map partText).length := mus_le fun z hz => by
    obtain ⟨p, hp, rfl⟩ := List.mem_map.mp hz
    have hb := blk_sp (h.p.2.1 p hp).2
    have hn0 := sp_none (low_not (nameOk_low (h.p.2.1 p hp).1) (c := 32) (by decide))
    unfold partText
    rw [mu_app, mu_app, mu_app, c1.1, c1.2.1, hn0]
    omega
  have d : mus fSp (ws.map wireText) ≤ 4 * (ws.map wireText).length := mus_le fun z hz => by
    obtain ⟨x, hx, rfl⟩ := List.mem_map.mp hz
    unfold wireText
    rw [mu_app, mu_app, mu_app, c1.2.2.1, c1.2.2.2, (port_sg (h.w1 x hx) hon hpn).2, (port_sg (h.w2 x hx) hin hpn).2]
    exact Nat.le_refl _
  rw [List.length_map] at b d
  have hd : mus fSp [headText n ins outs] = mu fSp (headText n ins outs) := by rw [mus_cons]; rfl
  unfold textRows
  rw [mus_app, mus_app, mus_app, ce, hd]
  omega
theorem sum_mus (l : List Str) : (l.map (·.length)).sum = mus fLen l := by
  unfold mus
  congr 1
  refine List.map_congr_left fun a _ => ?_
  rw [mu_len]
theorem split_sum (z : Str) : ((Txt.split z " ").map (·.length)).sum + (Txt.split z " ").length ≤ z.length + 1 := by
  have a := mu_split fLen z " "
  have h1 : mu fLen " " = 1 := by decide +kernel
  rw [h1, mu_len, Nat.mul_one] at a
  rw [sum_mus]
  omega
theorem ports_sum (h : Str) : ((headPorts h).map (·.length)).sum + (headPorts h).length ≤ h.length + 1 ∧ (headPorts h).length ≤ mu fSp h + 1 := by
  unfold headPorts
  split
  · exact ⟨by simp, by simp⟩
  · exact ⟨split_sum h, by rw [rows_sp_count]; exact Nat.le_refl _⟩
theorem mu_cut {f : Nat → Nat} {z : Str} {lo hi : Option Int} : mu f (cutS z lo hi) ≤ mu f z := by
  have hs : (sl (cutS z lo hi)).Sublist (sl z) := by
    show (((sl z).drop (HT.sIx z.length 0 lo)).take _).toArray.toList.Sublist _
    exact (List.take_sublist _ _).trans (List.drop_sublist _ _)
  unfold mu
  revert hs
  generalize sl z = m
  generalize sl (cutS z lo hi) = l
  intro hs
  induction hs with
  | slnil => exact Nat.le_refl _
  | cons a _ ih => rw [List.map_cons, List.sum_cons]; omega
  | cons_cons a _ ih => rw [List.map_cons, List.map_cons, List.sum_cons, List.sum_cons]; omega
theorem out_sum (h : Str) : ((headOut h).map (·.length)).sum + (headOut h).length ≤ h.length + 1 ∧ (headOut h).length ≤ mu fSp h + 1 := by
  unfold headOut
  split
  · exact ⟨by simp, by simp⟩
  · have a := split_sum (cutS h (some 1) none)
    have b := cutS_length h (some 1) none
    have c := mu_cut (f := fSp) (z := h) (lo := some 1) (hi := none)
    exact ⟨by omega, by rw [rows_sp_count]; omega⟩
theorem ports_ok {n : Nat} {h : Str} (ho : OkT n h) : ∀ y ∈ headPorts h, OkT n y := by
  unfold headPorts
  split
  · intro y hy; cases hy
  · exact okT_split ho
theorem out_ok {n : Nat} {h : Str} (ho : OkT n h) : ∀ y ∈ headOut h, OkT n y := by
  unfold headOut
  split
  · intro y hy; cases hy
  · exact okT_split (okT_cut ho)
theorem part_sp {z y : Str} : mu fSp (Txt.partition z y).1 ≤ mu fSp z ∧ mu fSp (Txt.partition z y).2.2 ≤ mu fSp z := by
  have sub : ∀ i j, mu fSp (Builtin.Str.strSub z i j) ≤ mu fSp z := fun i j => by
    have hs : (sl (Builtin.Str.strSub z i j)).Sublist (sl z) := by
      show ((z.cps.extract i j).toList).Sublist z.cps.toList
      rw [Array.toList_extract]
      exact (List.take_sublist _ _).trans (List.drop_sublist _ _)
    unfold mu
    revert hs
    generalize sl z = m
    generalize sl (Builtin.Str.strSub z i j) = l
    intro hs
    induction hs with
    | slnil => exact Nat.le_refl _
    | cons a _ ih => rw [List.map_cons, List.sum_cons]; omega
    | cons_cons a _ ih => rw [List.map_cons, List.map_cons, List.sum_cons, List.sum_cons]; omega
  rcases PyProof.Rows.partition_whole z y with ⟨e, _⟩ | ⟨i, e, _⟩
  · rw [e]
    exact ⟨Nat.le_refl _, Nat.zero_le _⟩
  · rw [e]
    exact ⟨sub _ _, sub _ _⟩
theorem in_false (l : List Bool) : inV (.bl false) (l.map V.bl) = !l.all id := by
  unfold inV
  rw [List.any_map]
  induction l with
  | nil => rfl
  | cons a l ih =>
    rw [List.any_cons, ih, List.all_cons]
    cases a <;> rfl
theorem mus_ge {l : List Str} : l.length ≤ mus fSp (l.map fun o => (" " : Str) ++ o) := by
  induction l with
  | nil => exact Nat.zero_le _
  | cons a l ih =>
    have c1 : mu fSp " " = 1 := by decide +kernel
    rw [List.map_cons, mus_cons, mu_app, c1, List.length_cons]
    omega
theorem head_count {n : Str} {ins outs : List Str} : ins.length + outs.length ≤ mu fSp (headText n ins outs) := by
  have a := mu_join fSp " " ins
  have b := mu_join fSp "" (outs.map fun o => (" " : Str) ++ o)
  have d := mus_ge (l := outs)
  have c1 : mu fSp " " = 1 ∧ mu fSp "" = 0 ∧ mu fSp "block " = 1 := by decide +kernel
  rw [c1.1] at a
  rw [c1.2.1] at b
  unfold headText
  rw [mu_app, mu_app, mu_app, mu_app, mu_app, mu_app, c1.2.2]
  omega
/-- the text of a drawn diagram -/
theorem text_N {n : Str} {ins outs : List Str} {ps : List Prt} {ws : List (Prt × Prt)} (h : DataOk n ins outs ps ws) (hp : ps.length ≤ 4) (hw : ws.length ≤ 35) : TxtN 12400 41 190 (textOfD n ins outs ps ws) := by
  have hrn := rows_nl h
  have hrl := rows_lens h
  have hc : (textRows n ins outs ps ws).length = 2 + ps.length + ws.length := rows_count
  have e : ∀ f : Nat → Nat, mu f "\n" ≤ 1 → mu f (textOfD n ins outs ps ws) + mu f "\n" ≤ mus f (textRows n ins outs ps ws) + 41 := fun f hf => by
    have := mu_join f "\n" (textRows n ins outs ps ws)
    have hm : max (textRows n ins outs ps ws).length 1 ≤ 41 := by omega
    have h2 : (max (textRows n ins outs ps ws).length 1) * mu f "\n" ≤ 41 * 1 := Nat.mul_le_mul hm hf
    unfold textOfD
    omega
  refine ⟨⟨?_, ?_⟩, ?_, ?_⟩
  · rw [← mu_len]
    have e1 := e fLen (by decide +kernel)
    have e2 : mus fLen (textRows n ins outs ps ws) ≤ 300 * (textRows n ins outs ps ws).length := mus_le fun z hz => by rw [mu_len]; exact hrl z hz
    rw [hc] at e2
    omega
  · rw [List.all_eq_true]
    intro c hc
    refine decide_eq_true ?_
    rcases join_mem (show c ∈ sl (Txt.join "\n" (textRows n ins outs ps ws)) from hc) with h' | ⟨z, hz, h'⟩
    · rw [sl_nl] at h'; simp at h'; omega
    · exact rows_sg h z hz c h'
  · have e1 := e fNl (by decide +kernel)
    have e2 : mus fNl (textRows n ins outs ps ws) ≤ 0 * (textRows n ins outs ps ws).length := mus_le fun z hz => by rw [nl_none (hrn z hz)]; exact Nat.le_refl _
    omega
  · have e1 := mu_join fSp "\n" (textRows n ins outs ps ws)
    have e2 := rows_sp h
    have e3 : mu fSp "\n" = 0 := by decide +kernel
    rw [e3] at e1
    have hi8 := h.io.2.1
    have ho8 := h.io.2.2.1
    unfold textOfD
    omega
/-! ### the law's own rows, one step -/
section
variable {ins outs : List Str} {z : Str} {rest ps ts hs : List Str} {k : Nat}
theorem ll_end (h : z = "end") : lawLoop ins outs (z :: rest) ps ts k = if rest = [] then none else some (k + 1) := by
  rw [lawLoop, if_pos h]
theorem ll_part (h : z ≠ "end") (hp : Txt.startswith z "  part " = true) (e : Txt.split (cutS z (some 7) none) " = " = hs) : (∀ a b, hs = [a, b] → lawLoop ins outs (z :: rest) ps ts k = if (nameOk a && blockOk b && (ts.length == 0) && !(ps.length == 16) && !decide (a ∈ ps)) = true then lawLoop ins outs rest (ps ++ [a]) ts (k + 1) else some k) ∧
    (hs.length ≠ 2 → lawLoop ins outs (z :: rest) ps ts k = some k) := by
  constructor
  · intro a b eh
    subst eh
    rw [lawLoop, if_neg h, if_pos hp, e]
  · intro hl
    rw [lawLoop, if_neg h, if_pos hp, e]
    match hs, hl with
    | [], _ => rfl
    | [_], _ => rfl
    | [_, _], hl => exact (hl rfl).elim
    | _ :: _ :: _ :: _, _ => rfl
theorem ll_wire (h : z ≠ "end") (hp : Txt.startswith z "  part " = false) (e : Txt.split (cutS z (some 2) none) " <- " = hs) : (∀ a b, hs = [a, b] → lawLoop ins outs (z :: rest) ps ts k = if (Txt.startswith z "  " && portB outs ps a && portB ins ps b && !decide (a ∈ ts)) = true then lawLoop ins outs rest ps (ts ++ [a]) (k + 1) else some k) ∧
    (hs.length ≠ 2 → lawLoop ins outs (z :: rest) ps ts k = some k) ∧ (Txt.startswith z "  " = false → lawLoop ins outs (z :: rest) ps ts k = some k) := by
  have hp' : ¬ Txt.startswith z "  part " = true := by rw [hp]; decide
  refine ⟨?_, ?_, ?_⟩
  · intro a b eh
    subst eh
    rw [lawLoop, if_neg h, if_neg hp', e]
  · intro hl
    rw [lawLoop, if_neg h, if_neg hp', e]
    match hs, hl with
    | [], _ => rfl
    | [_], _ => rfl
    | [_, _], hl => exact (hl rfl).elim
    | _ :: _ :: _ :: _, _ => rfl
  · intro hl
    rw [lawLoop, if_neg h, if_neg hp', e]
    match hs with
    | [] => rfl
    | [_] => rfl
    | [_, _] =>
      dsimp only
      rw [hl]
      rfl
    | _ :: _ :: _ :: _ => rfl
theorem two_of {l : List Str} (h : l.length = 2) : ∃ a b, l = [a, b] := by
  match l, h with
  | [a, b], _ => exact ⟨a, b, rfl⟩
end
def dueN : Option Nat → V
  | none => .non
  | some k => .int (k : Nat)
theorem mu_le_len {f : Nat → Nat} (hf : ∀ c, f c ≤ 1) (z : Str) : mu f z ≤ z.length := by
  rw [← mu_len]
  unfold mu
  generalize sl z = l
  induction l with
  | nil => exact Nat.le_refl _
  | cons a l ih =>
    rw [List.map_cons, List.map_cons, List.sum_cons, List.sum_cons]
    have : f a ≤ fLen a := hf a
    omega
/-- a changed text: not much more than twice the text -/
def Chg (z z' : Str) : Prop := OkT 100000 z' ∧ ∀ f : Nat → Nat, (∀ c, f c ≤ 1) → mu f z' ≤ 2 * mu f z + 40
theorem chg_three {z s x y : Str} (hz : OkT 49800 z) (hs : OkT 1 s) (hx : OkT 49800 x) (hy : OkT 49800 y) (mx : ∀ f : Nat → Nat, mu f x ≤ mu f z) (my : ∀ f : Nat → Nat, mu f y ≤ mu f z) : Chg z (x ++ s ++ y) :=
  ⟨(okT_app (okT_app hx hs) hy).mono (by decide), fun f hf => by
    have h1 := mx f
    have h2 := my f
    have h3 := mu_le_len hf s
    have h4 := hs.ln
    rw [mu_app, mu_app]
    omega⟩
theorem chg_two {z x y : Str} (hz : OkT 49800 z) (hx : OkT 49800 x) (hy : OkT 49800 y) (mx : ∀ f : Nat → Nat, mu f x ≤ mu f z) (my : ∀ f : Nat → Nat, mu f y ≤ mu f z) : Chg z (x ++ y) :=
  ⟨(okT_app hx hy).mono (by decide), fun f hf => by
    have h1 := mx f
    have h2 := my f
    rw [mu_app]
    omega⟩
end Ly

set_option maxRecDepth 100000
set_option maxHeartbeats 4000000
/-! k07: pieces changed and joined -/
namespace Ly
open PySem PySem.Spec PyProof.Rows L2
theorem mus_le_split {f : Nat → Nat} {z y : Str} : mus f (Txt.split z y) ≤ mu f z := by
  have a := mu_split f z y
  have : 1 * mu f y ≤ (max (Txt.split z y).length 1) * mu f y := Nat.mul_le_mul_right _ (by omega)
  omega
theorem chg_join {z y : Str} {l : List Str} (hz : OkT 49800 z) (hy : OkT 1 y) (hy1 : y.length = 1) (h1 : ∀ f : Nat → Nat, (∀ c, f c ≤ 1) → mus f l ≤ mus f (Txt.split z y) + max (mu f z) 30) (h2 : l.length ≤ (Txt.split z y).length + 1) (h3 : ∀ w ∈ l, OkT 49800 w) :
    Chg z (Txt.join y l) ∧ (l.map (·.length)).sum + l.length * y.length ≤ 16777216 := by
  have hn : ∀ f : Nat → Nat, (∀ c, f c ≤ 1) → mu f (Txt.join y l) ≤ 2 * mu f z + 40 := fun f hf => near_of hf (h1 f hf) h2 (by have := mu_le_len hf y; omega)
  have hl := hn fLen (fun c => Nat.le_refl 1)
  rw [mu_len, mu_len] at hl
  have hzl := hz.ln
  refine ⟨⟨⟨by omega, ?_⟩, hn⟩, ?_⟩
  · rw [List.all_eq_true]
    intro c hc
    rcases join_mem hc with h | ⟨x, hx, h⟩
    · exact List.all_eq_true.mp hy.sg c h
    · exact List.all_eq_true.mp (h3 x hx).sg c h
  · rw [sum_mus, hy1, Nat.mul_one]
    have a := mu_split fLen z y
    have b := h1 fLen (fun c => Nat.le_refl 1)
    have c := mus_le_split (f := fLen) (z := z) (y := y)
    rw [mu_len, mu_len, hy1, Nat.mul_one] at a
    rw [mu_len] at b c
    omega
theorem mus_set_eq {f : Nat → Nat} : ∀ {l : List Str} {i : Nat} {a x : Str}, l[i]? = some a → mus f (l.set i x) + mu f a = mus f l + mu f x
  | [], i, a, x, h => by cases h
  | b :: l, 0, a, x, h => by
    cases h
    rw [List.set_cons_zero, mus_cons, mus_cons]
    omega
  | b :: l, i + 1, a, x, h => by
    rw [List.set_cons_succ, mus_cons, mus_cons]
    have := mus_set_eq (f := f) (l := l) (i := i) (a := a) (x := x) (by simpa using h)
    omega
theorem mus_swap {f : Nat → Nat} {l : List Str} {i j : Nat} {a b : Str} (hi : l[i]? = some a) (hj : l[j]? = some b) : mus f ((l.set i b).set j a) = mus f l := by
  have h1 := mus_set_eq (f := f) (x := b) hi
  have hj2 : (l.set i b)[j]? = some b := by
    by_cases e : i = j
    · subst e
      rw [List.getElem?_set_self (by exact (List.getElem?_eq_some_iff.mp hi).1)]
    · rw [List.getElem?_set_ne e]
      exact hj
  have h2 := mus_set_eq (f := f) (x := a) hj2
  omega
theorem mus_insert {f : Nat → Nat} {l : List Str} {i : Nat} {x : Str} : mus f (l.take i ++ [x] ++ l.drop i) = mus f l + mu f x := by
  rw [mus_app, mus_app]
  have e : mus f l = mus f (l.take i) + mus f (l.drop i) := by
    rw [← mus_app, List.take_append_drop]
  have e2 : mus f [x] = mu f x := by rw [mus_cons]; rfl
  omega
def odd1 : List Str := ["end", "  part p = add", "  part part = add", "  p.a <- p.b", "", " ", "block b(;)", "  x <- y"]
def odd2 : List Str := ["<-", "=", "a", "add", "const 5", "delay", "p.a", "self", "  part x = delay 00", "4294967296", "in.in"]
theorem odd_ok : ∀ x ∈ odd1 ++ odd2, x.length ≤ 30 ∧ x.cps.toList.all (fun c => decide (c < 1114112)) = true := by decide +kernel
theorem set_mapS {α β : Type} (f : α → β) (l : List α) (i : Nat) (a : α) : (l.map f).set i (f a) = (l.set i a).map f := List.map_set.symm
end Ly

set_option maxRecDepth 100000
set_option maxHeartbeats 4000000
/-! k07: the law's texts -/
namespace Ly
open PySem PySem.Spec PyProof.Rows L2
theorem loop_le : ∀ (rows : List Str) (r : RSt) (k j : Nat), loopR rows r k = .error j → j ≤ k + rows.length
  | [], r, k, j, h => by
    have h' : (if r.done = true then Except.ok r else Except.error k) = Except.error j := h
    split at h'
    · cases h'
    · cases h'
      simp
  | z :: rows, r, k, j, h => by
    have h' : (if r.done = true then Except.error k else match takeR r z with | none => Except.error k | some r' => loopR rows r' (k + 1)) = Except.error j := h
    rw [List.length_cons]
    split at h'
    · cases h'
      omega
    · split at h'
      · cases h'
        omega
      · have := loop_le rows _ (k + 1) j h'
        omega
theorem TxtN.mono {n m k n' m' k' : Nat} {z : Str} (h : TxtN n m k z) (a : n ≤ n') (b : m ≤ m') (c : k ≤ k') : TxtN n' m' k' z := ⟨h.ok.mono a, Nat.le_trans h.nl b, Nat.le_trans h.sp c⟩
theorem f_one : (∀ c, fLen c ≤ 1) ∧ (∀ c, fNl c ≤ 1) ∧ ∀ c, fSp c ≤ 1 := ⟨fun c => Nat.le_refl 1, fun c => by unfold fNl; split <;> omega, fun c => by unfold fSp; split <;> omega⟩
theorem chg_N {n m k : Nat} {z z' : Str} (h : TxtN n m k z) (c : Chg z z') : TxtN (2 * n + 40) (2 * m + 40) (2 * k + 40) z' := by
  obtain ⟨c1, c2⟩ := c
  have a := c2 fLen f_one.1
  have b := c2 fNl f_one.2.1
  have d := c2 fSp f_one.2.2
  rw [mu_len, mu_len] at a
  have h1 := h.ok.ln
  have h2 := h.nl
  have h3 := h.sp
  exact ⟨⟨by omega, c1.sg⟩, by omega, by omega⟩
theorem fits_N {z : Str} (h : TxtN 100000 12000 1900 z) : TextFits z ∧ (Txt.split z "\n").length ≤ 13000 ∧ Txt.split z "\n" ≠ [] := by
  have a := rows_nl_count z
  have b := h.nl
  have hl := h.ok.ln
  refine ⟨⟨by omega, by omega, fun y hy => ?_⟩, by omega, split_ne (by decide +kernel) (by decide +kernel)⟩
  have := (okT_splitG (y := "\n") (by decide +kernel) (by decide +kernel) h.ok y hy).ln
  omega
theorem wrong_N {z : Str} (h : TxtN 100000 12000 1900 z) : lawWrong z = wrongOf (parseR z) := lawWrong_eq (fits_N h).2.1 (fits_N h).2.2
def dueD : Option Nat → PyData
  | none => .none
  | some k => .int (k : Nat)
theorem rep_due {z : Str} (h : TxtN 100000 12000 1900 z) : Rep 0 40 (dueD (wrongOf (parseR z))) := by
  cases e : parseR z with
  | ok r => exact rep_non
  | error k =>
    have := loop_le _ _ _ _ (show loopR (Txt.split z "\n") rs0 0 = .error k from e)
    have h2 := (fits_N h).2.1
    exact rep_int (by
      show ((k : Nat) : Int).natAbs < 10 ^ 12
      rw [Int.natAbs_natCast]
      omega) (by decide)
theorem dp_due {K : PySem.W.Frag} {H : Hp} (o : Option Nat) : Dp K H (dueN o) (dueD o) := by
  cases o with
  | none => exact .non
  | some k => exact .int _
theorem txt_app {n m k n' m' k' : Nat} {x y : Str} (h : TxtN n m k x) (g : TxtN n' m' k' y) : TxtN (n + n') (m + m') (k + k') (x ++ y) :=
  ⟨okT_app h.ok g.ok, by rw [mu_app]; exact Nat.add_le_add h.nl g.nl, by rw [mu_app]; exact Nat.add_le_add h.sp g.sp⟩
theorem txt_cut {n m k : Nat} {x : Str} {lo hi : Option Int} (h : TxtN n m k x) : TxtN n m k (cutS x lo hi) := ⟨okT_cut h.ok, Nat.le_trans mu_cut h.nl, Nat.le_trans mu_cut h.sp⟩
theorem txt_nl : TxtN 1 1 0 "\n" := ⟨⟨by decide +kernel, by decide +kernel⟩, by decide +kernel, by decide +kernel⟩
theorem txt_em : TxtN 0 0 0 "" := ⟨⟨by decide +kernel, by decide +kernel⟩, by decide +kernel, by decide +kernel⟩
theorem txt_end : TxtN 3 0 0 "end" := ⟨⟨by decide +kernel, by decide +kernel⟩, by decide +kernel, by decide +kernel⟩
theorem txt_nend : TxtN 4 1 0 "\nend" := ⟨⟨by decide +kernel, by decide +kernel⟩, by decide +kernel, by decide +kernel⟩
end Ly

set_option maxRecDepth 100000
set_option maxHeartbeats 4000000

namespace K07
open PySem L2 Ly
local macro_rules | `(tactic| walk_at "nx") => `(tactic| dsimp only [tNext])
def top (i : Nat) : Stmt := PySem.Challenge.pw_stepblocks_k07_wrong_rows.main.body.getD i (.Pass ⟨0, 0, 0, 0⟩)
abbrev s_InvalidText_init : Stmt := inClass (top 2) 0
abbrev s_is_name : Stmt := top 10
abbrev s_number_of : Stmt := top 11
abbrev s_is_primitive_text : Stmt := top 12
abbrev s_is_block_text : Stmt := top 13
abbrev s_Block_init : Stmt := inClass (top 14) 0
abbrev s_port_text : Stmt := top 15
abbrev s_text_of : Stmt := top 16
abbrev s_Diagram_init : Stmt := inClass (top 17) 2
abbrev s_Diagram_parse : Stmt := inClass (top 17) 3
abbrev s_Diagram_str : Stmt := inClass (top 17) 4
abbrev s_Diagram_eq : Stmt := inClass (top 17) 5
abbrev s_Reader_init : Stmt := inClass (top 18) 0
abbrev s_Reader_take : Stmt := inClass (top 18) 1
abbrev s_Reader_take_head : Stmt := inClass (top 18) 2
abbrev s_Reader_take_part : Stmt := inClass (top 18) 3
abbrev s_Reader_take_wire : Stmt := inClass (top 18) 4
abbrev s_Reader_port_of : Stmt := inClass (top 18) 5
abbrev s_Reader_result : Stmt := inClass (top 18) 6
abbrev s_is_port_name : Stmt := top 19
abbrev s_law_feed : Stmt := top 21
abbrev s_law_take : Stmt := top 22
abbrev s_law_pick : Stmt := top 23
abbrev s_law_words : Stmt := top 24
abbrev s_law_block : Stmt := top 25
abbrev s_law_diagram : Stmt := top 26
abbrev s_law_port : Stmt := top 27
abbrev s_law_rows : Stmt := top 28
abbrev s_law_is_name : Stmt := top 29
abbrev s_law_is_number : Stmt := top 30
abbrev s_law_is_block : Stmt := top 31
abbrev s_law_head : Stmt := top 32
abbrev s_law_is_port : Stmt := top 33
abbrev s_law_wrong : Stmt := top 34
abbrev s_law_told : Stmt := top 35
abbrev s_law_signs : Stmt := top 36
abbrev s_law_pieces : Stmt := top 37
abbrev s_law : Stmt := top 38
structure Adr where
  t_MODULUS : Tok
  t_MAX_NAME : Tok
  t_DIGITS : Tok
  t_LETTERS : Tok
  f_law_feed : Addr
  f_law_take : Addr
  f_law_pick : Addr
  f_law_words : Addr
  f_law_block : Addr
  f_law_diagram : Addr
  f_law_port : Addr
  f_law_rows : Addr
  f_law_is_name : Addr
  f_law_is_number : Addr
  f_law_is_block : Addr
  f_law_head : Addr
  f_law_is_port : Addr
  f_law_wrong : Addr
  f_law_told : Addr
  f_law_signs : Addr
  f_law_pieces : Addr
  f_law : Addr
  f_is_primitive_text : Addr
  f_number_of : Addr
  f_is_name : Addr
  f_is_block_text : Addr
  f_port_text : Addr
  f_text_of : Addr
  f_is_port_name : Addr
  d_PORTS : Addr
  es_PORTS : Array DictEntry
  en_PORTS : Nat
  u_RESERVED : Addr
  C_Block : Addr
  C_Diagram : Addr
  tv_Diagram_MAX_PARTS : Tok
  tv_Diagram_MAX_PORTS : Tok
  f_Block_init : Addr
  f_Diagram_init : Addr
  f_Diagram_str : Addr
  p_Diagram_parse : Addr
  f_Diagram_parse : Addr
  C_Reader : Addr
  f_Reader_init : Addr
  f_Reader_take : Addr
  f_Reader_take_head : Addr
  f_Reader_take_part : Addr
  f_Reader_take_wire : Addr
  f_Reader_port_of : Addr
  f_Reader_result : Addr
  C_InvalidText : Addr
  C_BlockError : Addr
  f_InvalidText_init : Addr
structure Txt (K : PySem.W.Frag) (w : World) (mg : Str → Option Value) (ad : Adr) : Prop where
  n_sorted : mg "sorted" = none
  n_enumerate : mg "enumerate" = none
  n_list : mg "list" = none
  n_len : mg "len" = none
  n_abs : mg "abs" = none
  n_max : mg "max" = none
  n_min : mg "min" = none
  n_range : mg "range" = none
  n_isinstance : mg "isinstance" = none
  n_int : mg "int" = none
  n_str : mg "str" = none
  n_tuple : mg "tuple" = none
  n_all : mg "all" = none
  n_set : mg "set" = none
  n_dict : mg "dict" = none
  n_repr : mg "repr" = none
  n_ValueError : mg "ValueError" = none
  g_MODULUS : mg "MODULUS" = some (.int 4294967296 ad.t_MODULUS)
  g_MAX_NAME : mg "MAX_NAME" = some (.int 8 ad.t_MAX_NAME)
  g_DIGITS : mg "DIGITS" = some (.str "0123456789" ad.t_DIGITS)
  g_LETTERS : mg "LETTERS" = some (.str "abcdefghijklmnopqrstuvwxyz" ad.t_LETTERS)
  g__law_feed : mg "_law_feed" = some (.ref ad.f_law_feed)
  k__law_feed : PySem.W.keepIn K (.ref ad.f_law_feed) = true
  g__law_take : mg "_law_take" = some (.ref ad.f_law_take)
  k__law_take : PySem.W.keepIn K (.ref ad.f_law_take) = true
  g__law_pick : mg "_law_pick" = some (.ref ad.f_law_pick)
  k__law_pick : PySem.W.keepIn K (.ref ad.f_law_pick) = true
  g__law_words : mg "_law_words" = some (.ref ad.f_law_words)
  k__law_words : PySem.W.keepIn K (.ref ad.f_law_words) = true
  g__law_block : mg "_law_block" = some (.ref ad.f_law_block)
  k__law_block : PySem.W.keepIn K (.ref ad.f_law_block) = true
  g__law_diagram : mg "_law_diagram" = some (.ref ad.f_law_diagram)
  k__law_diagram : PySem.W.keepIn K (.ref ad.f_law_diagram) = true
  g__law_port : mg "_law_port" = some (.ref ad.f_law_port)
  k__law_port : PySem.W.keepIn K (.ref ad.f_law_port) = true
  g__law_rows : mg "_law_rows" = some (.ref ad.f_law_rows)
  k__law_rows : PySem.W.keepIn K (.ref ad.f_law_rows) = true
  g__law_is_name : mg "_law_is_name" = some (.ref ad.f_law_is_name)
  k__law_is_name : PySem.W.keepIn K (.ref ad.f_law_is_name) = true
  g__law_is_number : mg "_law_is_number" = some (.ref ad.f_law_is_number)
  k__law_is_number : PySem.W.keepIn K (.ref ad.f_law_is_number) = true
  g__law_is_block : mg "_law_is_block" = some (.ref ad.f_law_is_block)
  k__law_is_block : PySem.W.keepIn K (.ref ad.f_law_is_block) = true
  g__law_head : mg "_law_head" = some (.ref ad.f_law_head)
  k__law_head : PySem.W.keepIn K (.ref ad.f_law_head) = true
  g__law_is_port : mg "_law_is_port" = some (.ref ad.f_law_is_port)
  k__law_is_port : PySem.W.keepIn K (.ref ad.f_law_is_port) = true
  g__law_wrong : mg "_law_wrong" = some (.ref ad.f_law_wrong)
  k__law_wrong : PySem.W.keepIn K (.ref ad.f_law_wrong) = true
  g__law_told : mg "_law_told" = some (.ref ad.f_law_told)
  k__law_told : PySem.W.keepIn K (.ref ad.f_law_told) = true
  g__law_signs : mg "_law_signs" = some (.ref ad.f_law_signs)
  k__law_signs : PySem.W.keepIn K (.ref ad.f_law_signs) = true
  g__law_pieces : mg "_law_pieces" = some (.ref ad.f_law_pieces)
  k__law_pieces : PySem.W.keepIn K (.ref ad.f_law_pieces) = true
  g_law : mg "law" = some (.ref ad.f_law)
  k_law : PySem.W.keepIn K (.ref ad.f_law) = true
  g_is_primitive_text : mg "is_primitive_text" = some (.ref ad.f_is_primitive_text)
  k_is_primitive_text : PySem.W.keepIn K (.ref ad.f_is_primitive_text) = true
  g_number_of : mg "number_of" = some (.ref ad.f_number_of)
  k_number_of : PySem.W.keepIn K (.ref ad.f_number_of) = true
  g_is_name : mg "is_name" = some (.ref ad.f_is_name)
  k_is_name : PySem.W.keepIn K (.ref ad.f_is_name) = true
  g_is_block_text : mg "is_block_text" = some (.ref ad.f_is_block_text)
  k_is_block_text : PySem.W.keepIn K (.ref ad.f_is_block_text) = true
  g_port_text : mg "port_text" = some (.ref ad.f_port_text)
  k_port_text : PySem.W.keepIn K (.ref ad.f_port_text) = true
  g_text_of : mg "text_of" = some (.ref ad.f_text_of)
  k_text_of : PySem.W.keepIn K (.ref ad.f_text_of) = true
  g_is_port_name : mg "is_port_name" = some (.ref ad.f_is_port_name)
  k_is_port_name : PySem.W.keepIn K (.ref ad.f_is_port_name) = true
  g_PORTS : mg "PORTS" = some (.ref ad.d_PORTS)
  d_PORTS : KDict K w ad.d_PORTS ad.es_PORTS ad.en_PORTS
  ports : ∀ n ins outs, (n, ins, outs) ∈ portsTab → PortsOf K w ad.d_PORTS n ins outs
  keys : ∃ ts : List Tok, ts.length = portsTab.length ∧ ad.es_PORTS.toList.map (·.key) = (portsTab.zip ts).map fun p => .str p.1.1 p.2
  g_RESERVED : mg "RESERVED" = some (.ref ad.u_RESERVED)
  u_RESERVED : ∀ H, SqT K H ad.u_RESERVED ((["block", "part", "end", "self"] : List Str).map V.str)
  g_Block : mg "Block" = some (.ref ad.C_Block)
  g_Diagram : mg "Diagram" = some (.ref ad.C_Diagram)
  cl_Diagram : Cls K ad.C_Diagram
  na_Diagram_name : NoAttr K ad.C_Diagram "name"
  na_Diagram_inputs : NoAttr K ad.C_Diagram "inputs"
  na_Diagram_outputs : NoAttr K ad.C_Diagram "outputs"
  na_Diagram_parts : NoAttr K ad.C_Diagram "parts"
  na_Diagram_wires : NoAttr K ad.C_Diagram "wires"
  na_Diagram_text : NoAttr K ad.C_Diagram "text"
  cr_Diagram : ClX.CRead K ad.C_Diagram (.type "type")
  cv_Diagram_MAX_PARTS : ClX.CVal K ad.C_Diagram (.type "type") "MAX_PARTS" (.int 16) (.int 16 ad.tv_Diagram_MAX_PARTS)
  co_Diagram_MAX_PARTS : Con K ad.C_Diagram "MAX_PARTS" (.int 16) (.int 16 ad.tv_Diagram_MAX_PARTS)
  cv_Diagram_MAX_PORTS : ClX.CVal K ad.C_Diagram (.type "type") "MAX_PORTS" (.int 8) (.int 8 ad.tv_Diagram_MAX_PORTS)
  co_Diagram_MAX_PORTS : Con K ad.C_Diagram "MAX_PORTS" (.int 8) (.int 8 ad.tv_Diagram_MAX_PORTS)
  ty_Diagram : ∀ (H : Hp) (a dx : Addr) (fs : List (Str × V)), H a = some (.ins ad.C_Diagram dx fs) → TyX K H (.ref a) (.ref ad.C_Diagram)
  ki_Diagram_Block : PySem.W.kitOne K (.ref ad.C_Diagram) (.ref ad.C_Block) = some true
  ki_Diagram_Diagram : PySem.W.kitOne K (.ref ad.C_Diagram) (.ref ad.C_Diagram) = some true
  mk_Diagram : Mk K ad.C_Diagram ad.f_Diagram_init
  m_Diagram_str : Meth K ad.C_Diagram "__str__" ad.f_Diagram_str
  cm_Diagram_parse : ClX.CMet K ad.C_Diagram (.type "type") "parse" ad.p_Diagram_parse ad.f_Diagram_parse
  g_Reader : mg "Reader" = some (.ref ad.C_Reader)
  cl_Reader : Cls K ad.C_Reader
  na_Reader_name : NoAttr K ad.C_Reader "name"
  na_Reader_inputs : NoAttr K ad.C_Reader "inputs"
  na_Reader_outputs : NoAttr K ad.C_Reader "outputs"
  na_Reader_parts : NoAttr K ad.C_Reader "parts"
  na_Reader_wires : NoAttr K ad.C_Reader "wires"
  na_Reader_is_done : NoAttr K ad.C_Reader "is_done"
  mk_Reader : Mk K ad.C_Reader ad.f_Reader_init
  m_Reader_take : Meth K ad.C_Reader "take" ad.f_Reader_take
  m_Reader_take_head : Meth K ad.C_Reader "take_head" ad.f_Reader_take_head
  m_Reader_take_part : Meth K ad.C_Reader "take_part" ad.f_Reader_take_part
  m_Reader_take_wire : Meth K ad.C_Reader "take_wire" ad.f_Reader_take_wire
  m_Reader_port_of : Meth K ad.C_Reader "port_of" ad.f_Reader_port_of
  m_Reader_result : Meth K ad.C_Reader "result" ad.f_Reader_result
  g_BlockError : mg "BlockError" = some (.ref ad.C_BlockError)
  g_InvalidText : mg "InvalidText" = some (.ref ad.C_InvalidText)
  oex_InvalidText : OexC K ad.C_InvalidText
  in_InvalidText : PySem.W.findIn K (.ref ad.C_InvalidText) "__init__" = some (some (.ref ad.f_InvalidText_init))
  tf_InvalidText : PySem.W.typeIn K (.ref ad.f_InvalidText_init) = some (.type "function")
  xf_InvalidText : XfC K ad.C_InvalidText
  ek_InvalidText : ExcK K ad.C_InvalidText
  kv_InvalidText : PySem.W.kitOne K (.ref ad.C_InvalidText) (.type "ValueError") = some true
  kb_InvalidText : PySem.W.kitOne K (.ref ad.C_InvalidText) (.ref ad.C_BlockError) = some true
  em_InvalidText : PySem.W.exmOne K (.ref ad.C_InvalidText) (.ref ad.C_BlockError) = some true
  es_InvalidText : PySem.W.exmOne K (.ref ad.C_InvalidText) (.ref ad.C_InvalidText) = some true
  no_InvalidText_row : PySem.W.findIn K (.ref ad.C_InvalidText) "row" = some none
section
variable {P : Program} {w : World} {K : PySem.W.Frag} {mg : Str → Option Value} {base : Heap} {ad : Adr}
theorem sc_law_feed : FnScope ["script", "k", "cell", "digits", "state"] ["script", "k"] (defScope s_law_feed) := ⟨rfl, rfl, rfl, by decide +kernel, rfl, by decide +kernel, by decide +kernel⟩
theorem ok_feed {f : Addr} {fd : FuncData} (F : Fun K "_law_feed" "_law_feed" s_law_feed f fd) (T : Txt K w mg ad) : FnOk P w K mg base CX0 1 f fd ["script", "k"] (spFeed K) := by
  refine F.ok sc_law_feed (fun vs H Q E h => ?_) (fun cdv A outer s H vs Q E hr h => ?_)
  · obtain ⟨s, ns, k, rfl, _⟩ := h
    rfl
  · obtain ⟨sa, ns, k, rfl, hS, hk, q⟩ := h
    refine ⟨_, (pss_cons (ps_set (i := 2) sc_law_feed.nd rfl (Or.inl rfl) (pe_ifExp (pt_cmpR op_lt (pv 1) (pe_callB (call_lenK K) (by rfl) T.n_len (by decide +kernel) (pa_cons (pv 0) pa_nil)) (nomark _)) (pe_ix (ix_listK K) (pv 0) (pv 1) (fun _ _ => rfl)) (pe_op op_add (pe_op op_mul pe_int (pv 1)) pe_int)))
    (pss_cons (ps_set (i := 3) sc_law_feed.nd rfl (Or.inl rfl) (pe_callB (call_max2 rfl) (by rfl) T.n_max (by decide +kernel) (pa_cons pe_int (pa_cons (pe_op op_sub (pe_callB call_abs (by rfl) T.n_abs (by decide +kernel) (pa_cons (pv 2) pa_nil)) (pe_op op_pow pe_int pe_int)) pa_nil))))
    (pss_cons (ps_set (i := 4) sc_law_feed.nd rfl (Or.inl rfl) (pe_op op_mod (pe_op op_add (pe_op op_add (pe_op op_mul (pv 2) pe_int) (pe_op op_mul pe_int (pv 1))) pe_int) pe_int))
    (pss_one (ps_ret (pe_lst (pa_cons (pv 3) (pa_cons (pv 4) pa_nil)))))))), ?_⟩
    refine asg (fun v H1 => H1 = H ∧ ∃ c : Int, v = .int c) (fun Q' h' => ?_) ?_
    · refine ⟨_, rfl, _, rfl, sa, _, rfl, .inl hS, _, _, rfl, rfl, _, rfl, ite2 (fun hc => ?_) (fun hc => ?_)⟩
      · have hlt : k < ns.length := by simpa using hc
        exact ⟨_, rfl, _, rfl, sa, _, _, _, rfl, rfl, hS, atI_nat (by rw [List.getElem?_map, List.getElem?_eq_getElem hlt]; rfl), h' _ _ ⟨rfl, _, rfl⟩⟩
      · exact ⟨_, rfl, _, _, rfl, rfl, .inl (by omega), _, _, rfl, rfl, h' _ _ ⟨rfl, _, rfl⟩⟩
    rintro _ _ ⟨rfl, c, rfl⟩
    refine ⟨_, rfl, _, rfl, _, _, rfl, rfl, ⟨by omega, by omega, by decide⟩, _, _, rfl, rfl, _, _, rfl, ?_⟩
    refine ⟨_, rfl, _, _, rfl, rfl, .inr (by omega), _, rfl, _, _, rfl, rfl, .inl (by omega), _, _, rfl, rfl, _, _, rfl, rfl, _, _, rfl, rfl, (by decide : (0 : Int) < 2305843009213693951), ?_⟩
    refine ⟨_, rfl, _, rfl, szl (show 2 ≤ 100000 by decide), fun p hp => q p _ _ hp ⟨upd_same, ?_, ?_, ?_⟩⟩
    · split <;> omega
    · omega
    · omega
theorem sc_law_take : FnScope ["feed", "many", "digit"] ["feed", "many"] (defScope s_law_take) := ⟨rfl, rfl, rfl, by decide +kernel, rfl, by decide +kernel, by decide +kernel⟩
theorem ok_take {f : Addr} {fd : FuncData} (F : Fun K "_law_take" "_law_take" s_law_take f fd) : FnOk P w K mg base CX0 1 f fd ["feed", "many"] spTake := by
  refine F.ok sc_law_take (fun vs H Q E h => ?_) (fun cdv A outer s H vs Q E hr h => ?_)
  · obtain ⟨p, many, a, b, rfl, _⟩ := h
    rfl
  · obtain ⟨p, many, a, b, rfl, ⟨hf, ha, hb, hb2⟩, hm, hm2, q⟩ := h
    refine ⟨_, (pss_cons (ps_if (pt_cmpR op_gt (pe_ix (ix_listK K) (pv 0) pe_int (fun _ _ => rfl)) pe_int (nomark _)) (pss_cons (ps_set (i := 2) sc_law_take.nd rfl (Or.inl rfl) (pe_op op_mod (pe_ix (ix_listK K) (pv 0) pe_int (fun _ _ => rfl)) (pv 1)))
    (pss_cons (ps_asg (pe_op op_fdivW (pe_ix (ix_listK K) (pv 0) pe_int (fun _ _ => rfl)) (pv 1)) (pg_sub (pv 0) pe_int set_list))
    (pss_one (ps_ret (pv 2))))) pss_nil)
    (pss_cons (ps_asg (pe_op op_mod (pe_op op_add (pe_op op_mul (pe_ix (ix_listK K) (pv 0) pe_int (fun _ _ => rfl)) pe_int) pe_int) pe_int) (pg_sub (pv 0) pe_int set_list))
    (pss_one (ps_ret (pe_op op_mod (pe_op op_fdivW (pe_ix (ix_listK K) (pv 0) pe_int (fun _ _ => rfl)) pe_int) (pv 1)))))), ?_⟩
    have i0 : atI [V.int a, V.int b] (0 : Int) = some (V.int a) := atI_nat (j := 0) rfl
    have i1 : atI [V.int a, V.int b] (1 : Int) = some (V.int b) := atI_nat (j := 1) rfl
    have hdiv : CDivW a many := wide_div (b := 41) hm (by omega) (by decide) (by decide)
    refine ⟨_, rfl, p, _, _, _, rfl, rfl, SqL.of hf, i0, _, _, rfl, rfl, _, rfl, ite2 (fun hc => ?_) (fun hc => ?_)⟩
    · refine ⟨_, rfl, p, _, _, _, rfl, rfl, SqL.of hf, i0, _, rfl, _, _, rfl, rfl, hm, ?_⟩
      refine ⟨_, rfl, p, _, _, _, rfl, rfl, SqL.of hf, i0, _, rfl, _, _, rfl, rfl, hdiv, ?_⟩
      refine ⟨_, rfl, p, _, _, 0, rfl, rfl, hf, rfl, ?_⟩
      refine ⟨_, rfl, q _ _ _ (Int.emod_nonneg _ (by omega)) (Int.emod_lt_of_pos _ hm) ⟨upd_same, Int.ediv_nonneg ha (by omega), hb, hb2⟩⟩
    · refine ⟨_, rfl, p, _, _, _, rfl, rfl, SqL.of hf, i1, _, _, rfl, rfl, .inr (by omega), _, _, rfl, rfl, _, _, rfl, rfl, (by decide : (0 : Int) < 2305843009213693951), ?_⟩
      refine ⟨_, rfl, p, _, _, 1, rfl, rfl, hf, rfl, ?_⟩
      refine ⟨_, rfl, p, _, _, _, rfl, rfl, SqL.of upd_same, atI_nat (j := 1) rfl, _, _, rfl, rfl, ⟨by decide, by decide⟩, _, rfl, _, _, rfl, rfl, hm, ?_⟩
      refine q _ _ _ (Int.emod_nonneg _ (by omega)) (Int.emod_lt_of_pos _ hm) ⟨upd_same, ha, ?_, ?_⟩ <;> omega

theorem sc_law_pick : FnScope ["feed", "some"] ["feed", "some"] (defScope s_law_pick) := ⟨rfl, rfl, rfl, by decide +kernel, rfl, by decide +kernel, by decide +kernel⟩
theorem ok_pick2 {f : Addr} {fd fdt : FuncData} (F : Fun K "_law_pick" "_law_pick" s_law_pick f fd) (T : Txt K w mg ad) (G_law_take : FnOk P w K mg base CX0 1 ad.f_law_take fdt ["feed", "many"] spTake) (b_law_take : Binds K fdt ["feed", "many"] []) : FnOk P w K mg base CX0 2 f fd ["feed", "some"] (spPick2 K) := by
  refine F.ok sc_law_pick (fun vs H Q E h => ?_) (fun cdv A outer s H vs Q E hr h => ?_)
  · rcases h with ⟨p, q, xs, a, b, rfl, _⟩ | ⟨p, z, a, b, rfl, _⟩
    · rfl
    · rfl
  · rcases h with ⟨p, q, xs, a, b, rfl, hf, hS, ne, h0, h1, k⟩ | ⟨p, z, a, b, rfl, hf, hz, h0, k⟩
    · refine ⟨_, (pss_one (ps_ret (pe_ix (ix_listK K) (pv 1) (pe_call G_law_take (hr.mono (by decide)) rfl T.g__law_take T.k__law_take b_law_take .nil pass0 (pa_cons (pv 0) (pa_cons (pe_callB (call_lenK K) (by rfl) T.n_len (by decide +kernel) (pa_cons (pv 1) pa_nil)) pa_nil))) (fun _ _ => rfl)))), ?_⟩
      refine ⟨_, rfl, _, rfl, _, rfl, q, xs, rfl, .inl hS, p, _, a, b, rfl, hf, by omega, by omega, fun d a' b' hd0 hd1 hf' => ?_⟩
      have hlt : d.toNat < xs.length := by omega
      have e : d = ((d.toNat : Nat) : Int) := by omega
      refine ⟨q, xs, _, xs[d.toNat], rfl, rfl, sql_upd hS ne, at_of e (List.getElem?_eq_getElem hlt), k _ a' b' (List.getElem_mem hlt) hf'⟩
    · refine ⟨_, (pss_one (ps_ret (pe_ix ix_str (pv 1) (pe_call G_law_take (hr.mono (by decide)) rfl T.g__law_take T.k__law_take b_law_take .nil pass0 (pa_cons (pv 0) (pa_cons (pe_callB call_len_str (by rfl) T.n_len (by decide +kernel) (pa_cons (pv 1) pa_nil)) pa_nil))) (fun _ _ => rfl)))), ?_⟩
      have hl := hz.ln
      have hzl : z.length ≤ sizeLine := szl (by omega)
      refine ⟨_, rfl, _, rfl, _, rfl, z, rfl, hzl, p, _, a, b, rfl, hf, by omega, by omega, fun d a' b' hd0 hd1 hf' => ?_⟩
      have el : z.length = z.cps.toList.length := str_len_list z
      have hlt : d.toNat < z.cps.toList.length := by omega
      have e : d = ((d.toNat : Nat) : Int) := by omega
      refine ⟨z, d, z.cps.toList[d.toNat], rfl, rfl, hzl, (by have q := atI_nat (j := d.toNat) (List.getElem?_eq_getElem hlt); rwa [← e] at q), ?_⟩
      refine k _ a' b' ⟨Nat.le_refl 1, ?_⟩ hf'
      have := of_decide_eq_true (List.all_eq_true.mp hz.sg _ (List.getElem_mem hlt))
      show (decide (z.cps.toList[d.toNat] < 1114112) && true) = true
      rw [decide_eq_true this]
      rfl

/-! ### number_of -/
theorem sc_number_of : FnScope ["word", "digit"] ["word"] (defScope s_number_of) := ⟨rfl, rfl, rfl, by decide +kernel, rfl, by decide +kernel, by decide +kernel⟩
theorem ok_num {f : Addr} {fd : FuncData} (F : Fun K "number_of" "number_of" s_number_of f fd) (T : Txt K w mg ad) : FnOk P w K mg base CX0 2 f fd ["word"] spNum := by
  refine F.ok sc_number_of (fun vs H Q E h => ?_) (fun cdv A outer s H vs Q E hr h => ?_)
  · obtain ⟨z, rfl, _⟩ := h
    rfl
  · obtain ⟨z, rfl, hz, k⟩ := h
    refine ⟨_, (pss_cons (ps_if (PW.pt (pw_or (pt_not (pt_chain op_le op_le pe_int (pe_callB call_len_str (by rfl) T.n_len (by decide +kernel) (pa_cons (pv 0) pa_nil)) pe_int)) (pw_or1 (pt_not (pt_val (pe_callB (cr_all rfl) (by rfl) T.n_all (by decide +kernel) (pa_cons (pe_lc (own := [("digit", 1)]) rfl sc_number_of.nd (pi_str (pv 0)) (blkOk_by (own := [("digit", 1)]) (N := ["word", "digit"]) (sc := defScope s_number_of) (by decide +kernel)) (fun _ _ _ _ _ => (pg_name (i := 1) sc_number_of.nd rfl (Or.inl rfl))) (fun _ _ _ _ _ => pts_nil) (fun _ _ _ _ _ => (pe_cmpR op_in_sign (pv 1) (pe_glob (v := .str "0123456789") rfl T.g_DIGITS ⟨_, rfl⟩) (by rfl)))) pa_nil))))))) (pss_one (ps_ret pe_non)) pss_nil)
    (pss_cons (ps_if (PW.pt (pw_and (pt_cmpR op_eq (pe_ix ix_str (pv 0) pe_int (fun _ _ => rfl)) pe_str (nomark _)) (pw_and1 (pt_cmpR op_gt (pe_callB call_len_str (by rfl) T.n_len (by decide +kernel) (pa_cons (pv 0) pa_nil)) pe_int (nomark _))))) (pss_one (ps_ret pe_non)) pss_nil)
    (pss_one (ps_ret (pe_ifExp (pt_cmpR op_lt (pe_callTy call_int_str (by rfl) T.n_int (by decide +kernel) (pa_cons (pv 0) pa_nil)) (pe_glob (v := .int 4294967296) rfl T.g_MODULUS ⟨_, rfl⟩) (nomark _)) (pe_callTy call_int_str (by rfl) T.n_int (by decide +kernel) (pa_cons (pv 0) pa_nil)) pe_non))))), ?_⟩
    have hzl : z.length ≤ sizeLine := Nat.le_trans hz (by decide)
    -- 1 <= len(word) <= 10
    have fail : numOk z = false → ∀ H', Same H H' → Q .non H' := fun h H' s => by
      have q := k H' s
      rw [numOf_none h] at q
      exact q
    refine ⟨_, rfl, z, rfl, hzl, _, _, rfl, rfl, _, rfl, ?_⟩
    by_cases c1 : (1 : Int) ≤ (z.length : Int)
    case neg =>
      rw [decide_eq_false c1]
      refine iteF ⟨_, rfl, iteT (iteT (fail ?_ _ (Same.refl H)))⟩
      unfold numOk
      rw [decide_eq_false (show ¬ 1 ≤ z.length by omega)]
      rfl
    rw [decide_eq_true c1]
    refine iteT ⟨_, _, rfl, rfl, _, rfl, ?_⟩
    by_cases c2 : (z.length : Int) ≤ 10
    case neg =>
      rw [decide_eq_false c2]
      refine iteT (iteT (fail ?_ _ (Same.refl H)))
      unfold numOk
      rw [decide_eq_false (show ¬ z.length ≤ 10 by omega)]
      simp
    rw [decide_eq_true c2]
    refine iteF ?_
    -- all([digit in DIGITS for digit in word])
    refine ⟨_, rfl, z, rfl, fun D hD => lc_it walk_str (fun i H' => Same H H' ∧ H' D = some (.lst ((z.cps.toList.take i).map fun c => V.bl (isDig c)))) ⟨same_new hD, upd_same⟩ (fun _ _ _ _ => True.intro) ?_ ?_⟩
    · rintro i x H1 H2 hi ⟨s1, h1⟩ ⟨rfl, c, hc, rfl⟩
      refine ⟨rfl, ?_⟩
      dsimp only [tYes]
      refine iteT ?_
      refine ⟨_, rfl, c, "0123456789", rfl, rfl, _, h1, szt ?_, same_mut s1 hD, ?_⟩
      · rw [List.length_map, List.length_take]
        have e : z.cps.size = z.length := rfl
        omega
      · rw [upd_same, dig_in]
        have e : z.cps.toList[i]? = some c := by simpa using hc
        rw [List.take_add_one, e]
        simp
    rintro H1 ⟨s1, h1⟩
    have hfull : (z.cps.toList.take z.cps.size) = z.cps.toList := by rw [show z.cps.size = z.cps.toList.length by simp, List.take_length]
    rw [hfull] at h1
    refine ⟨D, z.cps.toList.map isDig, rfl, SqL.of (by rw [h1, List.map_map]; rfl), _, rfl, ?_⟩
    have hid : (z.cps.toList.map isDig).all id = z.cps.toList.all isDig := by rw [List.all_map]; rfl
    rw [hid]
    cases c3 : z.cps.toList.all isDig with
    | false =>
      refine iteT (fail ?_ _ s1)
      unfold numOk
      rw [c3]
      simp
    | true =>
      refine iteF ?_
      walk_at "nx"
      have hn : 0 < z.cps.toList.length := by rw [← str_len_list]; omega
      have h0 : z.cps.toList.head? = some (z.cps.toList[0]) := by rw [List.head?_eq_getElem?, List.getElem?_eq_getElem hn]
      have hl10 : z.length ≤ 10 := by omega
      have hl1 : 1 ≤ z.length := by omega
      have hint := int_dig c3 hl1 hl10
      -- word[0] == "0" and len(word) > 1
      have rest : ∀ H2, Same H H2 → ¬ (z.cps.toList.head? = some 48 ∧ 1 < z.length) → tRet (tIf (tTest (tOp (rI0 fun i j => V.bl (decide (i < j))) (tCB (fun xs H Q => ∃ a n, xs = [V.str a] ∧ PySem.intText? a = some n ∧ a.length ≤ 640 ∧ Q (V.int n) H) (tCons (tVar 0) tNil)) (tC (V.int 4294967296))))
          (tCB (fun xs H Q => ∃ a n, xs = [V.str a] ∧ PySem.intText? a = some n ∧ a.length ≤ 640 ∧ Q (V.int n) H) (tCons (tVar 0) tNil)) (tC V.non)) { nx := fun _ H' => Q V.non H', rt := Q } [some (V.str z), none] H2 := by
        intro H2 s2 hz2
        have hzb : (!(decide (z.cps.toList.head? = some 48) && decide (1 < z.length))) = true := by
          rw [Bool.not_eq_true', Bool.and_eq_false_iff]
          by_cases q : z.cps.toList.head? = some 48
          · exact .inr (decide_eq_false fun q2 => hz2 ⟨q, q2⟩)
          · exact .inl (decide_eq_false q)
        refine ⟨_, rfl, z, numVal z, rfl, hint, Nat.le_trans hl10 (by decide), numVal z, 4294967296, rfl, rfl, ?_⟩
        refine ⟨decide (numVal z < 4294967296), rfl, ?_⟩
        generalize hb : decide (numVal z < 4294967296) = bb
        cases bb with
        | true =>
          refine iteT ⟨_, rfl, z, _, rfl, hint, Nat.le_trans hl10 (by decide), ?_⟩
          have e : numOk z = true := by
            unfold numOk
            rw [decide_eq_true hl1, decide_eq_true hl10, c3, hzb, hb]
            rfl
          have w := k H2 s2
          rw [numOf_some e] at w
          exact w
        | false =>
          refine iteF (fail ?_ _ s2)
          unfold numOk
          rw [hb]
          simp
      refine ⟨_, rfl, z, _, _, rfl, rfl, hzl, atI_nat (j := 0) (List.getElem?_eq_getElem hn), rfl, _, rfl, ite2 (fun q => ?_) (fun q => ?_)⟩
      · have e0 : z.cps.toList[0] = 48 := by
          have q1 : V.str ⟨#[z.cps.toList[0]]⟩ = V.str "0" := of_decide_eq_true q
          have q2 := congrArg (fun s : Str => s.cps.toList) (V.str.inj q1)
          have q3 : (("0" : Str)).cps.toList = [48] := by decide +kernel
          have q4 : [z.cps.toList[0]] = [48] := q2.trans q3
          exact List.head_eq_of_cons_eq q4
        refine ⟨_, rfl, z, rfl, hzl, _, _, rfl, rfl, _, rfl, ite2 (fun q2 => ?_) (fun q2 => ?_)⟩
        · refine fail ?_ _ s1
          unfold numOk
          have q2' : 1 < z.length := by
            have := of_decide_eq_true q2
            omega
          have e1 : z.cps.toList.head? = some 48 := by rw [h0]; exact congrArg some e0
          rw [decide_eq_true e1, decide_eq_true q2']
          simp
        · exact rest _ s1 fun ⟨_, z2⟩ => q2 (decide_eq_true (by omega))
      · refine rest _ s1 fun ⟨z1, _⟩ => q ?_
        rw [h0] at z1
        have e0 : z.cps.toList[0] = 48 := Option.some.inj z1
        have q3 : (("0" : Str)) = ⟨#[48]⟩ := by decide +kernel
        refine decide_eq_true ?_
        have q5 : (⟨#[z.cps.toList[0]]⟩ : Str) = "0" := by rw [q3]; exact congrArg (fun c => (⟨#[c]⟩ : Str)) e0
        exact congrArg V.str q5

/-! ### is_primitive_text -/
theorem sc_is_primitive_text : FnScope ["text", "words"] ["text"] (defScope s_is_primitive_text) := ⟨rfl, rfl, rfl, by decide +kernel, rfl, by decide +kernel, by decide +kernel⟩
theorem ok_ipt {f : Addr} {fd fdN : FuncData} (F : Fun K "is_primitive_text" "is_primitive_text" s_is_primitive_text f fd) (T : Txt K w mg ad) (G_number_of : FnOk P w K mg base CX0 2 ad.f_number_of fdN ["word"] spNum) (b_number_of : Binds K fdN ["word"] []) : FnOk P w K mg base CX0 3 f fd ["text"] spIpt := by
  refine F.ok sc_is_primitive_text (fun vs H Q E h => ?_) (fun cdv A outer s H vs Q E hr h => ?_)
  · obtain ⟨z, rfl, _⟩ := h
    rfl
  · obtain ⟨z, rfl, hz, k⟩ := h
    refine ⟨_, (pss_cons (ps_set (i := 1) sc_is_primitive_text.nd rfl (Or.inl rfl) (pe_split (pv 0) pe_str))
    (pss_cons (ps_if (pt_cmpR (op_in_seqK K) (pe_ix (ix_listK K) (pv 1) pe_int (fun _ _ => rfl)) (pe_tup (pa_cons pe_str (pa_cons pe_str pa_nil))) (by rfl)) (pss_one (ps_ret (pe_and (pe_cmpR op_eq (pe_callB (call_lenK K) (by rfl) T.n_len (by decide +kernel) (pa_cons (pv 1) pa_nil)) pe_int (nomark _)) (pe_one (pe_cmpR op_notN (pe_call G_number_of (hr.mono (by decide)) rfl T.g_number_of T.k_number_of b_number_of .nil pass0 (pa_cons (pe_ix (ix_listK K) (pv 1) pe_int (fun _ _ => rfl)) pa_nil)) pe_non (nomark _)))))) pss_nil)
    (pss_one (ps_ret (pe_and (pe_cmpR op_eq (pe_callB (call_lenK K) (by rfl) T.n_len (by decide +kernel) (pa_cons (pv 1) pa_nil)) pe_int (nomark _)) (pe_one (pe_cmpR (op_in_kd T.d_PORTS) (pe_ix (ix_listK K) (pv 1) pe_int (fun _ _ => rfl)) (pe_glob (v := .ref ad.d_PORTS) rfl T.g_PORTS rfl) (by rfl)))))))), ?_⟩
    refine ⟨_, rfl, ⟨z, rfl⟩, z, " ", rfl, rfl, (by decide +kernel), Nat.le_trans (Nat.add_le_add_right hz 2) (by decide), fun p hp0 => ?_⟩
    have hlens := split_lens (x := z) sp_ne sp_k
    have hne := split_ne (x := z) sp_ne sp_k
    unfold primOf at k
    generalize Txt.split z " " = ws at k hlens hne
    match ws, k, hlens, hne with
    | [], _, _, hne => exact absurd rfl hne
    | n :: r, k, hlens, _ =>
    refine ⟨_, rfl, p, _, _, _, rfl, rfl, SqL.of upd_same, atI_nat (j := 0) rfl, szl (show 2 ≤ 100000 by decide), fun q hq => ?_⟩
    have nqp : p ≠ q := ne_of_none upd_same hq
    refine ⟨q, _, rfl, .inr (SqT.of upd_same), rfl, rfl, _, rfl, ?_⟩
    have hp2 : upd (upd H p (.lst ((n :: r).map V.str))) q (.tup [V.str "const", V.str "delay"]) p = some (.lst ((n :: r).map V.str)) := by rw [upd_ne nqp]; exact upd_same
    have s2 : Same H (upd (upd H p (.lst ((n :: r).map V.str))) q (.tup [V.str "const", V.str "delay"])) := (same_new hp0).trans (same_new hq)
    have hll : ∀ (m : Int), decide (V.int (((n :: r).map V.str).length : Nat) = V.int m) = true → (r.length : Int) + 1 = m := fun m z => by
      have := V.int.inj (of_decide_eq_true z)
      simpa using this
    have hll2 : ∀ (m : Int), ¬ decide (V.int (((n :: r).map V.str).length : Nat) = V.int m) = true → ¬ (r.length : Int) + 1 = m := fun m z q => z (decide_eq_true (by
      rw [List.length_map, List.length_cons, ← q]
      rfl))
    show if (if false = true then !inV (V.str n) [V.str "const", V.str "delay"] else inV (V.str n) [V.str "const", V.str "delay"]) = true then _ else _
    rw [inV_cd]
    cases hk : withK n with
    | true =>
      refine iteT ?_
      refine ⟨_, rfl, p, _, rfl, .inl (SqL.of hp2), rfl, _, rfl, ite2 (fun z1 => ?_) (fun z1 => ?_)⟩
      · have e1 := hll _ z1
        match r, k, hlens, hp2, s2, hq, e1 with
        | [w2], k, hlens, hp2, s2, hq, _ =>
          refine ⟨_, rfl, p, _, _, _, rfl, rfl, SqL.of hp2, atI_nat (j := 1) rfl, w2, rfl, Nat.le_trans (hlens w2 (by simp)) hz, fun H3 s3 => ?_⟩
          have kk := k H3 (s2.trans s3)
          change Q (.bl (if withK n = true then (numOf w2).map (fun v => (n, some v)) else none).isSome) H3 at kk
          rw [if_pos hk, Option.isSome_map] at kk
          refine ⟨rfl, ?_⟩
          cases e : numOf w2 with
          | none => rw [e] at kk; exact kk
          | some v => rw [e] at kk; exact kk
        | [], _, _, _, _, _, e1 => exact absurd e1 (by decide)
        | _ :: _ :: _, _, _, _, _, _, e1 => simp at e1; omega
      · have e1 := hll2 _ z1
        have kk := k _ s2
        have e2 : primWords (n :: r) = none := by
          match r, e1 with
          | [], _ =>
            show (if n ∈ plain7 then some (n, (none : Option Int)) else none) = none
            rw [if_neg (fun q => by rw [plain_noK q] at hk; cases hk)]
          | [_], e1 => exact absurd rfl e1
          | _ :: _ :: _, _ => rfl
        rw [e2] at kk
        exact kk
    | false =>
      refine iteF ?_
      refine ⟨_, rfl, p, _, rfl, .inl (SqL.of hp2), rfl, _, rfl, ite2 (fun z1 => ?_) (fun z1 => ?_)⟩
      · have e1 := hll _ z1
        have e0 : r = [] := by
          match r, e1 with
          | [], _ => rfl
          | _ :: _, e1 => simp at e1; omega
        subst e0
        have kk := k _ s2
        change Q (.bl (if n ∈ plain7 then some (n, (none : Option Int)) else none).isSome) _ at kk
        by_cases hn : n ∈ portNames
        · obtain ⟨ins, outs, hp⟩ := names_ports hn
          obtain ⟨t, ti, tO, ⟨_, _, u, hl, hkl, hns, _⟩, _⟩ := T.ports _ _ _ hp
          refine ⟨_, rfl, p, _, _, _, rfl, rfl, SqL.of hp2, atI_nat (j := 0) rfl, n, _, rfl, rfl, hns, ?_⟩
          rw [if_pos (port_plain hn hk)] at kk
          exact kk
        · obtain ⟨ts, hts, hks⟩ := T.keys
          have hns := nsIn_none T.d_PORTS (l := (portsTab.zip ts).map fun p => (p.1.1, p.2)) (z := n) (by rw [hks, List.map_map]; rfl) (fun p hp e => by
            obtain ⟨q, hq, rfl⟩ := List.mem_map.mp hp
            have h1 : q.1 ∈ portsTab := (List.of_mem_zip (a := q.1) (b := q.2) hq).1
            have h2 : q.1.1 ∈ portNames := (show ∀ p ∈ portsTab, p.1 ∈ portNames by decide +kernel) _ h1
            exact hn (e ▸ h2))
          refine ⟨_, rfl, p, _, _, _, rfl, rfl, SqL.of hp2, atI_nat (j := 0) rfl, n, _, rfl, rfl, hns, ?_⟩
          rw [if_neg (fun q => hn (plain_port q))] at kk
          exact kk
      · have e1 := hll2 _ z1
        have kk := k _ s2
        have e2 : primWords (n :: r) = none := by
          match r, e1 with
          | [], e1 => exact absurd rfl e1
          | [k2], _ =>
            show (if withK n = true then (numOf k2).map (fun v => (n, some v)) else none) = none
            rw [if_neg (by rw [hk]; decide)]
          | _ :: _ :: _, _ => rfl
        rw [e2] at kk
        exact kk
theorem ports_in (T : Txt K w mg ad) (z : Str) : ∃ r : Option Value, PySem.W.nsIn K ad.d_PORTS z = some r ∧ r.isSome = decide (z ∈ portNames) := by
  by_cases hn : z ∈ portNames
  · obtain ⟨ins, outs, hp⟩ := names_ports hn
    obtain ⟨t, ti, tO, ⟨_, _, u, hl, hkl, hns, _⟩, _⟩ := T.ports _ _ _ hp
    exact ⟨_, hns, by rw [decide_eq_true hn]; rfl⟩
  · obtain ⟨ts, hts, hks⟩ := T.keys
    have hns := nsIn_none T.d_PORTS (l := (portsTab.zip ts).map fun p => (p.1.1, p.2)) (z := z) (by rw [hks, List.map_map]; rfl) (fun p hp e => by
      obtain ⟨q, hq, rfl⟩ := List.mem_map.mp hp
      have h1 : q.1 ∈ portsTab := (List.of_mem_zip (a := q.1) (b := q.2) hq).1
      have h2 : q.1.1 ∈ portNames := (show ∀ p ∈ portsTab, p.1 ∈ portNames by decide +kernel) _ h1
      exact hn (e ▸ h2))
    exact ⟨_, hns, by rw [decide_eq_false hn]; rfl⟩

/-! ### is_name, is_block_text -/
theorem sc_is_name : FnScope ["word", "letter"] ["word"] (defScope s_is_name) := ⟨rfl, rfl, rfl, by decide +kernel, rfl, by decide +kernel, by decide +kernel⟩
theorem ok_name {f : Addr} {fd : FuncData} (F : Fun K "is_name" "is_name" s_is_name f fd) (T : Txt K w mg ad) : FnOk P w K mg base CX0 1 f fd ["word"] spName := by
  refine F.ok sc_is_name (fun vs H Q E h => ?_) (fun cdv A outer s H vs Q E hr h => ?_)
  · obtain ⟨z, rfl, _⟩ := h
    rfl
  · obtain ⟨z, rfl, hz, k⟩ := h
    refine ⟨_, (pss_cons (ps_if (PW.pt (pw_or (pt_not (pt_val (pe_callB (call_isiK K) (by rfl) T.n_isinstance (by decide +kernel) (pa_cons (pv 0) (pa_cons (pe_bltn (v := .ty "str") rfl T.n_str (by decide +kernel) rfl) pa_nil))))) (pw_or (pt_not (pt_chain op_le op_le pe_int (pe_callB call_len_str (by rfl) T.n_len (by decide +kernel) (pa_cons (pv 0) pa_nil)) (pe_glob (v := .int 8) rfl T.g_MAX_NAME ⟨_, rfl⟩))) (pw_or1 (pt_cmpR (op_in_seqK K) (pv 0) (pe_glob (v := .ref ad.u_RESERVED) rfl T.g_RESERVED rfl) (by rfl)))))) (pss_one (ps_ret pe_bl)) pss_nil)
    (pss_one (ps_ret (pe_callB (cr_all rfl) (by rfl) T.n_all (by decide +kernel) (pa_cons (pe_lc (own := [("letter", 1)]) rfl sc_is_name.nd (pi_str (pv 0)) (blkOk_by (own := [("letter", 1)]) (N := ["word", "letter"]) (sc := defScope s_is_name) (by decide +kernel)) (fun _ _ _ _ _ => (pg_name (i := 1) sc_is_name.nd rfl (Or.inl rfl))) (fun _ _ _ _ _ => pts_nil) (fun _ _ _ _ _ => (pe_cmpR op_in_sign (pv 1) (pe_glob (v := .str "abcdefghijklmnopqrstuvwxyz") rfl T.g_LETTERS ⟨_, rfl⟩) (by rfl)))) pa_nil))))), ?_⟩
    have hzl : z.length ≤ sizeLine := Nat.le_trans hz (by decide)
    have fail : nameOk z = false → ∀ H', Same H H' → Q (.bl false) H' := fun h H' s => by
      have q := k H' s
      rw [h] at q
      exact q
    refine ⟨_, rfl, V.str z, .ty "str", .type "str", .type "str", true, rfl, .ty _, .base (.str z), kit_str, _, rfl, iteF ?_⟩
    refine ⟨_, rfl, z, rfl, hzl, _, _, rfl, rfl, _, rfl, ?_⟩
    by_cases c1 : (1 : Int) ≤ (z.length : Int)
    case neg =>
      rw [decide_eq_false c1]
      refine iteF ⟨_, rfl, iteT (iteT (fail ?_ _ (Same.refl H)))⟩
      unfold nameOk
      rw [decide_eq_false (show ¬ 1 ≤ z.length by omega)]
      rfl
    rw [decide_eq_true c1]
    refine iteT ⟨_, _, rfl, rfl, _, rfl, ?_⟩
    by_cases c2 : (z.length : Int) ≤ 8
    case neg =>
      rw [decide_eq_false c2]
      refine iteT (iteT (fail ?_ _ (Same.refl H)))
      unfold nameOk
      rw [decide_eq_false (show ¬ z.length ≤ 8 by omega)]
      simp
    rw [decide_eq_true c2]
    refine iteF ?_
    refine ⟨_, rfl, ad.u_RESERVED, reserved.map V.str, rfl, .inr (T.u_RESERVED H), rfl, rfl, _, rfl, ?_⟩
    show if (if false = true then !inV (V.str z) (reserved.map V.str) else inV (V.str z) (reserved.map V.str)) = true then _ else _
    rw [inV_mem]
    have hl1 : 1 ≤ z.length := by omega
    have hl8 : z.length ≤ 8 := by omega
    by_cases c3 : z ∈ reserved
    · rw [decide_eq_true c3]
      refine iteT (fail ?_ _ (Same.refl H))
      unfold nameOk
      rw [decide_eq_true c3]
      simp
    rw [decide_eq_false c3]
    refine iteF ?_
    walk_at "nx"
    refine ⟨_, rfl, z, rfl, fun D hD => lc_it walk_str (fun i H' => Same H H' ∧ H' D = some (.lst ((z.cps.toList.take i).map fun c => V.bl (isLet c)))) ⟨same_new hD, upd_same⟩ (fun _ _ _ _ => True.intro) ?_ ?_⟩
    · rintro i x H1 H2 hi ⟨s1, h1⟩ ⟨rfl, c, hc, rfl⟩
      refine ⟨rfl, ?_⟩
      dsimp only [tYes]
      refine iteT ?_
      refine ⟨_, rfl, c, "abcdefghijklmnopqrstuvwxyz", rfl, rfl, _, h1, szt ?_, same_mut s1 hD, ?_⟩
      · rw [List.length_map, List.length_take]
        have e : z.cps.size = z.length := rfl
        omega
      · rw [upd_same, let_in]
        have e : z.cps.toList[i]? = some c := by simpa using hc
        rw [List.take_add_one, e]
        simp
    rintro H1 ⟨s1, h1⟩
    have hfull : (z.cps.toList.take z.cps.size) = z.cps.toList := by rw [show z.cps.size = z.cps.toList.length by simp, List.take_length]
    rw [hfull] at h1
    refine ⟨D, z.cps.toList.map isLet, rfl, SqL.of (by rw [h1, List.map_map]; rfl), ?_⟩
    have hid : (z.cps.toList.map isLet).all id = z.cps.toList.all isLet := by rw [List.all_map]; rfl
    rw [hid]
    have kk := k _ s1
    unfold nameOk at kk
    rw [decide_eq_true hl1, decide_eq_true hl8, decide_eq_false c3] at kk
    exact kk
theorem sc_is_block_text : FnScope ["text"] ["text"] (defScope s_is_block_text) := ⟨rfl, rfl, rfl, by decide +kernel, rfl, by decide +kernel, by decide +kernel⟩
theorem ok_blockText {f : Addr} {fd fdI fdN : FuncData} (F : Fun K "is_block_text" "is_block_text" s_is_block_text f fd) (T : Txt K w mg ad) (G_is_primitive_text : FnOk P w K mg base CX0 3 ad.f_is_primitive_text fdI ["text"] spIpt) (b_is_primitive_text : Binds K fdI ["text"] [])
    (G_is_name : FnOk P w K mg base CX0 1 ad.f_is_name fdN ["word"] spName) (b_is_name : Binds K fdN ["word"] []) : FnOk P w K mg base CX0 4 f fd ["text"] spBlockText := by
  refine F.ok sc_is_block_text (fun vs H Q E h => ?_) (fun cdv A outer s H vs Q E hr h => ?_)
  · obtain ⟨z, rfl, _⟩ := h
    rfl
  · obtain ⟨z, rfl, hz, k⟩ := h
    refine ⟨_, (pss_one (ps_ret (pe_or (pe_call G_is_primitive_text (hr.mono (by decide)) rfl T.g_is_primitive_text T.k_is_primitive_text b_is_primitive_text .nil pass0 (pa_cons (pv 0) pa_nil)) (pe_one (pe_and (pe_call G_is_name (hr.mono (by decide)) rfl T.g_is_name T.k_is_name b_is_name .nil pass0 (pa_cons (pv 0) pa_nil)) (pe_one (pe_cmpR (op_notIn_kd T.d_PORTS) (pv 0) (pe_glob (v := .ref ad.d_PORTS) rfl T.g_PORTS rfl) (by rfl)))))))), ?_⟩
    refine ⟨_, rfl, z, rfl, hz, fun H1 s1 => ⟨_, rfl, ?_⟩⟩
    unfold blockOk at k
    cases hp : (primOf z).isSome with
    | true =>
      have kk := k _ s1
      rw [hp] at kk
      exact kk
    | false =>
      rw [hp] at k
      refine iteF ⟨_, rfl, z, rfl, hz, fun H2 s2 => ⟨_, rfl, ?_⟩⟩
      cases hn : nameOk z with
      | false =>
        have kk := k _ (s1.trans s2)
        rw [hn] at kk
        exact kk
      | true =>
        rw [hn] at k
        refine iteT ?_
        obtain ⟨r, hr1, hr2⟩ := ports_in T z
        refine ⟨_, rfl, z, r, rfl, rfl, hr1, ?_⟩
        rw [hr2]
        exact k _ (s1.trans s2)

/-! ### is_port_name -/
theorem sc_is_port_name : FnScope ["word"] ["word"] (defScope s_is_port_name) := ⟨rfl, rfl, rfl, by decide +kernel, rfl, by decide +kernel, by decide +kernel⟩
theorem ok_portName {f : Addr} {fd fdN : FuncData} (F : Fun K "is_port_name" "is_port_name" s_is_port_name f fd) (T : Txt K w mg ad) (G_is_name : FnOk P w K mg base CX0 1 ad.f_is_name fdN ["word"] spName) (b_is_name : Binds K fdN ["word"] []) : FnOk P w K mg base CX0 2 f fd ["word"] spName := by
  refine F.ok sc_is_port_name (fun vs H Q E h => ?_) (fun cdv A outer s H vs Q E hr h => ?_)
  · obtain ⟨z, rfl, _⟩ := h
    rfl
  · obtain ⟨z, rfl, hz, k⟩ := h
    refine ⟨_, (pss_one (ps_ret (pe_call G_is_name (hr.mono (by decide)) rfl T.g_is_name T.k_is_name b_is_name .nil pass0 (pa_cons (pv 0) pa_nil)))), ?_⟩
    exact ⟨_, rfl, z, rfl, hz, fun H1 s1 => k _ s1⟩

/-! ### port_text, text_of -/
theorem sc_port_text : FnScope ["port"] ["port"] (defScope s_port_text) := ⟨rfl, rfl, rfl, by decide +kernel, rfl, by decide +kernel, by decide +kernel⟩
theorem ok_portText {f : Addr} {fd : FuncData} (F : Fun K "port_text" "port_text" s_port_text f fd) (T : Txt K w mg ad) : FnOk P w K mg base CX0 1 f fd ["port"] (spPortText K) := by
  refine F.ok sc_port_text (fun vs H Q E h => ?_) (fun cdv A outer s H vs Q E hr h => ?_)
  · obtain ⟨a, p, rfl, _⟩ := h
    rfl
  · obtain ⟨a, p, rfl, hS, h1, h2, k⟩ := h
    refine ⟨_, (pss_one (ps_ret (pe_ifExp (pt_cmpR op_eq (pe_ix (ix_tupK K) (pv 0) pe_int (fun _ _ => rfl)) pe_str (nomark _)) (pe_ix (ix_tupK K) (pv 0) pe_int (fun _ _ => rfl)) (pe_op op_add_str (pe_op op_add_str (pe_ix (ix_tupK K) (pv 0) pe_int (fun _ _ => rfl)) pe_str) (pe_ix (ix_tupK K) (pv 0) pe_int (fun _ _ => rfl)))))), ?_⟩
    have hd : (("." : Str)).length = 1 := by decide +kernel
    refine ⟨_, rfl, a, _, _, _, rfl, rfl, hS, atI_nat (j := 0) rfl, rfl, _, rfl, ite2 (fun z => ?_) (fun z => ?_)⟩
    · have e : p.1 = "" := dstr ▸ z
      refine ⟨_, rfl, a, _, _, _, rfl, rfl, hS, atI_nat (j := 1) rfl, ?_⟩
      unfold portText at k
      rw [if_pos e] at k
      exact k
    · have e : ¬ p.1 = "" := dstr ▸ z
      refine ⟨_, rfl, a, _, _, _, rfl, rfl, hS, atI_nat (j := 0) rfl, _, _, rfl, rfl, szl (by omega), _, rfl, a, _, _, _, rfl, rfl, hS, atI_nat (j := 1) rfl, _, _, rfl, rfl, szl (by rw [PySem.Str.length_append]; omega), ?_⟩
      unfold portText at k
      rw [if_neg e] at k
      exact k
theorem sc_text_of : FnScope ["name", "inputs", "outputs", "parts", "wires", "head", "rows", "output", "part", "block", "target", "source"] ["name", "inputs", "outputs", "parts", "wires"] (defScope s_text_of) := ⟨rfl, rfl, rfl, by decide +kernel, rfl, by decide +kernel, by decide +kernel⟩
theorem ok_textOf {f : Addr} {fd fdp : FuncData} (F : Fun K "text_of" "text_of" s_text_of f fd) (T : Txt K w mg ad) (G_port_text : FnOk P w K mg base CX0 1 ad.f_port_text fdp ["port"] (spPortText K)) (b_port_text : Binds K fdp ["port"] []) : FnOk P w K mg base CX0 2 f fd ["name", "inputs", "outputs", "parts", "wires"] (spTextOf K) := by
  refine F.ok sc_text_of (fun vs H Q E h => ?_) (fun cdv A outer s H vs Q E hr h => ?_)
  · obtain ⟨n, i, o, p, w, ins, outs, parts, wires, rfl, _⟩ := h
    rfl
  · obtain ⟨n, i, o, p, wa, ins, outs, parts, wires, rfl, hD, hi, ho, hp, hw, k⟩ := h
    refine ⟨_, (pss_cons (ps_set (i := 5) sc_text_of.nd rfl (Or.inl rfl) (pe_op op_add_str (pe_op op_add_str (pe_op op_add_str (pe_op op_add_str (pe_op op_add_str (pe_op op_add_str pe_str (pv 0)) pe_str) (pe_join pe_str (pv 1))) pe_str) (pe_join pe_str (pe_lc (own := [("output", 7)]) rfl sc_text_of.nd (pi_tupK K (pv 2)) (blkOk_by (own := [("output", 7)]) (N := ["name", "inputs", "outputs", "parts", "wires", "head", "rows", "output", "part", "block", "target", "source"]) (sc := defScope s_text_of) (by decide +kernel)) (fun _ _ _ _ _ => (pg_name (i := 7) sc_text_of.nd rfl (Or.inl rfl))) (fun _ _ _ _ _ => pts_nil) (fun _ _ _ _ _ => (pe_op op_add_str pe_str (pv 7)))))) pe_str))
    (pss_cons (ps_setLc (i := 6) (own := [("part", 8), ("block", 9)]) rfl sc_text_of.nd rfl rfl (sw_true rfl rfl rfl (by decide +kernel)) (pi_tupK K (pv 3)) (blkOk_by (own := [("part", 8), ("block", 9)]) (N := ["name", "inputs", "outputs", "parts", "wires", "head", "rows", "output", "part", "block", "target", "source"]) (sc := defScope s_text_of) (by decide +kernel)) (fun _ _ _ _ _ => (by exact (pg_tupK K (n := 2) (by rfl) (pgs_cons (pg_name (i := 8) sc_text_of.nd rfl (Or.inl rfl)) (pgs_cons (pg_name (i := 9) sc_text_of.nd rfl (Or.inl rfl)) pgs_nil))))) (fun _ _ _ _ _ => pts_nil) (fun _ _ _ _ _ => (pe_op op_add_str (pe_op op_add_str (pe_op op_add_str pe_str (pv 8)) pe_str) (pv 9))))
    (pss_cons (ps_aug (i := 6) sc_text_of.nd rfl (Or.inl rfl) (pe_lc (own := [("target", 10), ("source", 11)]) rfl sc_text_of.nd (pi_tupK K (pv 4)) (blkOk_by (own := [("target", 10), ("source", 11)]) (N := ["name", "inputs", "outputs", "parts", "wires", "head", "rows", "output", "part", "block", "target", "source"]) (sc := defScope s_text_of) (by decide +kernel)) (fun _ _ _ _ _ => (by exact (pg_tupK K (n := 2) (by rfl) (pgs_cons (pg_name (i := 10) sc_text_of.nd rfl (Or.inl rfl)) (pgs_cons (pg_name (i := 11) sc_text_of.nd rfl (Or.inl rfl)) pgs_nil))))) (fun _ _ _ _ _ => pts_nil) (fun _ _ _ _ _ => (pe_op op_add_str (pe_op op_add_str (pe_op op_add_str pe_str (pe_call G_port_text (hr.mono (by decide)) rfl T.g_port_text T.k_port_text b_port_text .nil pass0 (pa_cons (pv 10) pa_nil))) pe_str) (pe_call G_port_text (hr.mono (by decide)) rfl T.g_port_text T.k_port_text b_port_text .nil pass0 (pa_cons (pv 11) pa_nil))))) ip_ext)
    (pss_one (ps_ret (pe_join pe_str (pe_op op_cat (pe_op op_cat (pe_lst (pa_cons (pv 5) pa_nil)) (pv 6)) (pe_lst (pa_cons pe_str pa_nil))))))))), ?_⟩
    have hn := hD.n
    have hji := join_len (a := " ") hD.i.2
    have hsp : ((" " : Str)).length = 1 := by decide +kernel
    have la : ∀ x y : Str, (x ++ y : Str).length = x.length + y.length := fun x y => PySem.Str.length_append x y
    have lb : (("block " : Str)).length = 6 ∧ (("(" : Str)).length = 1 ∧ ((";" : Str)).length = 1 ∧ ((")" : Str)).length = 1 ∧ (("" : Str)).length = 0 := by decide +kernel
    have hil := hD.i.1
    have hD' := hD.o
    have hbi : (ins.map (·.length)).sum + ins.length * ((" " : Str)).length ≤ 16777216 := by
      have := sum_len hD.i.2
      rw [hsp]
      omega
    have hjl : (Txt.join " " ins).length ≤ 20000 := by
      rw [hsp] at hji
      omega
    refine asg (fun v H1 => Same H H1 ∧ v = .str (headText n ins outs)) (fun Q' q => ?_) ?_
    · refine ⟨_, rfl, _, _, rfl, rfl, szl (by omega), _, _, rfl, rfl, szl (by rw [la]; omega), ⟨_, rfl⟩, _, rfl, " ", i, ins, rfl, rfl, .inr hi, hbi, _, _, rfl, rfl, szl (by rw [la, la]; omega), _, _, rfl, rfl, szl (by rw [la, la, la]; omega), ?_⟩
      refine ⟨⟨_, rfl⟩, _, rfl, o, rfl, ⟨_, ho⟩, fun D hD => lc_tup (K := K) (a := o) (xs := outs.map V.str) (fun i' H' => Same H H' ∧ H' D = some (.lst (((outs.take i').map fun x => (" " : Str) ++ x).map V.str))) ⟨same_new hD, upd_same⟩ (fun i' H' _ h => same_sqt h.1 ho) ?_ ?_⟩
      · rintro i' x H1 hx ⟨s1, h1⟩
        rw [List.getElem?_map] at hx
        cases e : outs[i']? with
        | none => rw [e] at hx; cases hx
        | some y =>
        rw [e] at hx
        cases hx
        have hy := hD'.2 y (List.mem_of_getElem? e)
        refine ⟨rfl, ?_⟩
        dsimp only [tYes]
        refine iteT ⟨_, rfl, _, _, rfl, rfl, szl (by omega), _, h1, szt ?_, same_mut s1 hD, ?_⟩
        · rw [List.length_map, List.length_map, List.length_take]
          have := hD'.1
          omega
        · rw [upd_same, List.take_add_one, e]
          simp
      · rintro H1 ⟨s1, h1⟩
        rw [List.length_map, List.take_length] at h1
        have hy : ∀ y ∈ outs.map fun x => (" " : Str) ++ x, y.length ≤ 101 := fun y hy => by
          obtain ⟨x, hx, rfl⟩ := List.mem_map.mp hy
          rw [la]
          have := hD'.2 x hx
          omega
        have hol := hD'.1
        have hjo := join_len (a := "") hy
        have hso := sum_len hy
        rw [List.length_map] at hjo hso
        have h00 : outs.length * (("" : Str)).length = 0 := by rw [lb.2.2.2.2, Nat.mul_zero]
        refine ⟨"", D, outs.map fun x => (" " : Str) ++ x, rfl, rfl, .inl (SqL.of h1), by rw [List.length_map]; omega, _, _, rfl, rfl, szl (by rw [la, la, la, la]; omega), _, _, rfl, rfl, szl (by rw [la, la, la, la, la]; omega), ?_⟩
        exact q _ _ ⟨s1, rfl⟩
    rintro _ H1 ⟨s1, rfl⟩
    dsimp only [gName]
    have hHead : (headText n ins outs).length ≤ 40000 := by
      have hy : ∀ y ∈ outs.map fun x => (" " : Str) ++ x, y.length ≤ 101 := fun y hy => by
        obtain ⟨x, hx, rfl⟩ := List.mem_map.mp hy
        rw [la]
        have := hD'.2 x hx
        omega
      have hjo := join_len (a := "") hy
      have hol := hD'.1
      rw [List.length_map] at hjo
      have h00 : outs.length * (("" : Str)).length = 0 := by rw [lb.2.2.2.2, Nat.mul_zero]
      unfold headText
      rw [la, la, la, la, la, la]
      omega
    -- rows: the parts
    obtain ⟨p', xsP, ep, hSp, hdp⟩ := dp_tup_inv hp
    cases ep
    have lpt : (("  part " : Str)).length = 7 ∧ ((" = " : Str)).length = 3 ∧ (("  " : Str)).length = 2 ∧ ((" <- " : Str)).length = 4 ∧ (("end" : Str)).length = 3 ∧ (("\n" : Str)).length = 1 := by decide +kernel
    have hPl := dps_len hdp
    rw [List.length_map] at hPl
    have hP1 := hD.p.1
    refine asg (fun v H2 => ∃ D, v = .ref D ∧ Same H H2 ∧ H D = none ∧ H2 D = some (.lst ((parts.map partText).map V.str))) (fun Q' q => ?_) ?_
    · refine ⟨_, rfl, p, rfl, ⟨_, same_sqt s1 hSp⟩, fun D hD0 => lc_tup (K := K) (a := p) (xs := xsP) (fun i' H' => Same H H' ∧ H' D = some (.lst (((parts.take i').map partText).map V.str))) ⟨s1.trans (same_new hD0), upd_same⟩ (fun i' H' _ h => same_sqt h.1 hSp) ?_ ?_⟩
      · rintro i' x H2 hx ⟨s2, h2⟩
        obtain ⟨y, hy, hdy⟩ := dps_map hdp hx
        obtain ⟨a, rfl, ha⟩ := dp_pair_inv hdy
        have hyl := hD.p.2 y (List.mem_of_getElem? hy)
        refine ⟨a, _, rfl, same_sqt s2 ha, rfl, _, _, rfl, _, _, rfl, rfl, rfl, ?_⟩
        dsimp only [tYes]
        refine iteT ⟨_, rfl, _, _, rfl, rfl, szl (by omega), _, _, rfl, rfl, szl (by rw [la]; omega), _, rfl, _, _, rfl, rfl, szl (by rw [la, la]; omega), _, h2, szt ?_, same_mut s2 (s1.free hD0), ?_⟩
        · rw [List.length_map, List.length_map, List.length_take]
          omega
        · rw [upd_same, List.take_add_one, hy]
          simp [partText]
      · rintro H2 ⟨s2, h2⟩
        rw [hPl, List.take_length] at h2
        exact q _ _ ⟨D, rfl, s2, s1.free hD0, h2⟩
    rintro _ H2 ⟨D, rfl, s2, hDn, hDl⟩
    dsimp only [gName]
    -- rows: the wires
    obtain ⟨w', xsW, ew, hSw, hdw⟩ := dp_tup_inv hw
    cases ew
    have hWl := dps_len hdw
    rw [List.length_map] at hWl
    have hW1 := hD.w.1
    refine ⟨_, rfl, _, rfl, wa, rfl, ⟨_, same_sqt s2 hSw⟩, fun D2 hD2 => lc_tup (K := K) (a := wa) (xs := xsW) (fun i' H' => Same H H' ∧ H' D = some (.lst ((parts.map partText).map V.str)) ∧ H' D2 = some (.lst (((wires.take i').map wireText).map V.str))) ⟨s2.trans (same_new hD2), by rw [upd_ne (ne_of_none hDl hD2)]; exact hDl, upd_same⟩ (fun i' H' _ h => same_sqt h.1 hSw) ?_ ?_⟩
    · rintro i' x H3 hx ⟨s3, h3, h4⟩
      obtain ⟨y, hy, hdy⟩ := dps_map hdw hx
      obtain ⟨a, t, u, rfl, ha, ht, hu⟩ := dp_wire_inv hdy
      have hyl := hD.w.2 y (List.mem_of_getElem? hy)
      have nDD : D ≠ D2 := ne_of_none hDl hD2
      have hl1 := portText_len (n := 100) hyl.1.1 hyl.1.2
      have hl2 := portText_len (n := 100) hyl.2.1 hyl.2.2
      refine ⟨a, _, rfl, same_sqt s3 ha, rfl, _, _, rfl, _, _, rfl, rfl, rfl, ?_⟩
      dsimp only [tYes]
      refine iteT ⟨_, rfl, t, y.1, rfl, same_sqt s3 ht, by omega, by omega, _, _, rfl, rfl, szl (by omega), _, _, rfl, rfl, szl (by rw [la]; omega), _, rfl, u, y.2, rfl, same_sqt s3 hu, by omega, by omega, _, _, rfl, rfl, szl (by rw [la, la]; omega), _, h4, szt ?_, same_mut s3 (s2.free hD2), ?_, ?_⟩
      · rw [List.length_map, List.length_map, List.length_take]
        omega
      · rw [upd_ne nDD]
        exact h3
      · rw [upd_same, List.take_add_one, hy]
        simp [wireText]
    · rintro H3 ⟨s3, h3, h4⟩
      rw [hWl, List.take_length] at h4
      refine ⟨D, D2, _, _, rfl, rfl, h3, h4, szl (by simp only [List.length_map]; omega), ?_⟩
      have s4 := same_mut (o := .lst ((parts.map partText).map V.str ++ (wires.map wireText).map V.str)) s3 hDn
      have e4 : upd H3 D (.lst ((parts.map partText).map V.str ++ (wires.map wireText).map V.str)) D = some (.lst ((parts.map partText ++ wires.map wireText).map V.str)) := by rw [upd_same, List.map_append]
      revert s4 e4
      generalize upd H3 D (.lst ((parts.map partText).map V.str ++ (wires.map wireText).map V.str)) = H4
      intro s4 e4
      dsimp only
      refine ⟨⟨_, rfl⟩, _, rfl, szl (show 1 ≤ 100000 by decide), fun l1 hl1 => ⟨_, rfl, l1, D, [.str (headText n ins outs)], (parts.map partText ++ wires.map wireText).map V.str, rfl, rfl, upd_same, by rw [upd_ne (ne_of_none e4 hl1)]; exact e4, szl (by simp only [List.length_map, List.length_append, List.length_singleton]; omega), fun l2 hl2 => ⟨szl (show 1 ≤ 100000 by decide), fun l3 hl3 => ?_⟩⟩⟩
      have n23 : l2 ≠ l3 := ne_of_none upd_same hl3
      refine ⟨l2, l3, [.str (headText n ins outs)] ++ (parts.map partText ++ wires.map wireText).map V.str, [.str "end"], rfl, rfl, by rw [upd_ne n23, upd_same], upd_same, szl (by simp only [List.length_map, List.length_append, List.length_singleton]; omega), fun l4 hl4 => ?_⟩
      have erows : [.str (headText n ins outs)] ++ (parts.map partText ++ wires.map wireText).map V.str ++ [.str "end"] = (textRows n ins outs parts wires).map V.str := by
        unfold textRows
        simp
      rw [erows]
      have hjo : (headText n ins outs).length ≤ 40000 := hHead
      have b1 := sum_len (ys := parts.map partText) (n := 210) (fun y hy => by
        obtain ⟨x, hx, rfl⟩ := List.mem_map.mp hy
        have := hD.p.2 x hx
        unfold partText
        rw [la, la, la]
        omega)
      have b2 := sum_len (ys := wires.map wireText) (n := 410) (fun y hy => by
        obtain ⟨x, hx, rfl⟩ := List.mem_map.mp hy
        have hyl := hD.w.2 x hx
        have hl1 := portText_len (n := 100) hyl.1.1 hyl.1.2
        have hl2 := portText_len (n := 100) hyl.2.1 hyl.2.2
        unfold wireText
        rw [la, la, la]
        omega)
      rw [List.length_map] at b1 b2
      refine ⟨"\n", l4, textRows n ins outs parts wires, rfl, rfl, .inl (SqL.of upd_same), ?_, k _ ?_⟩
      · unfold textRows
        simp only [List.map_append, List.sum_append, List.length_append, List.map_cons, List.map_nil, List.sum_cons, List.sum_nil, List.length_cons, List.length_nil]
        have e1 : (("end" : Str)).length = 3 := lpt.2.2.2.2.1
        have e2 : (("\n" : Str)).length = 1 := lpt.2.2.2.2.2
        rw [e1, e2, List.length_map, List.length_map]
        omega
      · exact (((s4.trans (same_new hl1)).trans (same_new hl2)).trans (same_new hl3)).trans (same_new hl4)

/-! ### Reader -/
theorem sc_Reader_init : FnScope ["self"] ["self"] (defScope s_Reader_init) := ⟨rfl, rfl, rfl, by decide +kernel, rfl, by decide +kernel, by decide +kernel⟩
theorem ok_RI {f : Addr} {fd : FuncData} (F : Fun K "__init__" "Reader.__init__" s_Reader_init f fd) (T : Txt K w mg ad) : FnOk P w K mg base CX0 1 f fd ["self"] (spRI K ad.C_Reader) := by
  refine F.ok sc_Reader_init (fun vs H Q E h => ?_) (fun cdv A outer s H vs Q E hr h => ?_)
  · obtain ⟨x, dx, rfl, _⟩ := h
    rfl
  · obtain ⟨x, dx, rfl, hx, k⟩ := h
    refine ⟨_, (pss_cons (ps_fldK K (pv 0) pe_non rfl)
    (pss_cons (ps_fldK K (pv 0) (pe_tup pa_nil) rfl)
    (pss_cons (ps_fldK K (pv 0) (pe_tup pa_nil) rfl)
    (pss_cons (ps_fldK K (pv 0) (pe_lst pa_nil) rfl)
    (pss_cons (ps_fldK K (pv 0) pe_dnewT rfl)
    (pss_one (ps_fldK K (pv 0) pe_bl rfl))))))), ?_⟩
    have put : ∀ {H' : Hp} {q : Addr} {o1 o2 o3 : HO}, H' x = some o1 → H' q = none → (upd (upd H' q o2) x o3) x = some o3 ∧ (upd (upd H' q o2) x o3) q = some o2 ∧ SameX x H' (upd (upd H' q o2) x o3) := fun {H' q o1 o2 o3} h1 h2 => by
      have n : q ≠ x := (ne_of_none h1 h2).symm
      exact ⟨upd_same, by rw [upd_ne n, upd_same], sx_put (sx_new (sx_of (Same.refl H')) h2)⟩
    refine ⟨_, rfl, x, _, dx, _, rfl, hx, T.cl_Reader, T.na_Reader_name, (by decide), ?_⟩
    rw [fr_put1]
    have h1 : upd H x (.ins ad.C_Reader dx fr1) x = some (.ins ad.C_Reader dx fr1) := upd_same
    have s1 : SameX x H (upd H x (.ins ad.C_Reader dx fr1)) := sx_put (sx_of (Same.refl H))
    revert h1 s1
    generalize upd H x (.ins ad.C_Reader dx fr1) = H1
    intro h1 s1
    refine ⟨szl (Nat.zero_le _), fun i hi => ⟨_, rfl, x, _, dx, _, rfl, by rw [upd_ne (ne_of_none h1 hi)]; exact h1, T.cl_Reader, T.na_Reader_inputs, (by show 1 < 1000; decide), ?_⟩⟩
    rw [fr_put2]
    obtain ⟨h2, hi2, s2⟩ := put (o2 := .tup []) (o3 := .ins ad.C_Reader dx (fr2 i)) h1 hi
    revert h2 hi2 s2
    generalize upd (upd H1 i (.tup [])) x (.ins ad.C_Reader dx (fr2 i)) = H2
    intro h2 hi2 s2
    refine ⟨szl (Nat.zero_le _), fun o ho => ⟨_, rfl, x, _, dx, _, rfl, by rw [upd_ne (ne_of_none h2 ho)]; exact h2, T.cl_Reader, T.na_Reader_outputs, (by show 2 < 1000; decide), ?_⟩⟩
    rw [fr_put3]
    obtain ⟨h3, ho3, s3⟩ := put (o2 := .tup []) (o3 := .ins ad.C_Reader dx (fr3 i o)) h2 ho
    revert h3 ho3 s3
    generalize upd (upd H2 o (.tup [])) x (.ins ad.C_Reader dx (fr3 i o)) = H3
    intro h3 ho3 s3
    refine ⟨szl (Nat.zero_le _), fun p hp => ⟨_, rfl, x, _, dx, _, rfl, by rw [upd_ne (ne_of_none h3 hp)]; exact h3, T.cl_Reader, T.na_Reader_parts, (by show 3 < 1000; decide), ?_⟩⟩
    rw [fr_put4]
    obtain ⟨h4, hp4, s4⟩ := put (o2 := .lst []) (o3 := .ins ad.C_Reader dx (fr4 i o p)) h3 hp
    revert h4 hp4 s4
    generalize upd (upd H3 p (.lst [])) x (.ins ad.C_Reader dx (fr4 i o p)) = H4
    intro h4 hp4 s4
    refine fun w hw => ⟨_, rfl, x, _, dx, _, rfl, by rw [upd_ne (ne_of_none h4 hw)]; exact h4, T.cl_Reader, T.na_Reader_wires, (by show 4 < 1000; decide), ?_⟩
    rw [fr_put5]
    obtain ⟨h5, hw5, s5⟩ := put (o2 := .dT []) (o3 := .ins ad.C_Reader dx (fr5 i o p w)) h4 hw
    have npw : p ≠ w := ne_of_none hp4 hw
    revert h5 hw5 s5
    generalize upd (upd H4 w (.dT [])) x (.ins ad.C_Reader dx (fr5 i o p w)) = H5
    intro h5 hw5 s5
    refine ⟨_, rfl, x, _, dx, _, rfl, h5, T.cl_Reader, T.na_Reader_is_done, (by show 5 < 1000; decide), ?_⟩
    rw [fr_put6]
    have s15 := (((s1.trans s2).trans s3).trans s4).trans s5
    have ni : i ≠ x := (ne_of_none h1 hi).symm
    have no : o ≠ x := (ne_of_none h2 ho).symm
    have np : p ≠ x := (ne_of_none h3 hp).symm
    have nw : w ≠ x := (ne_of_none h4 hw).symm
    have free : ∀ {q : Addr} {H' : Hp}, SameX x H H' → H' q = none → q ≠ x → H q = none := fun {q H'} sx hq n => by
      cases e : H q with
      | none => rfl
      | some u =>
        have := sx q u n e
        rw [hq] at this
        cases this
    refine k i o p w _ (sx_put s15) (free ((s1.trans s2).trans s3) hp np) (free (((s1.trans s2).trans s3).trans s4) hw nw) npw ⟨upd_same, SqT.of ?_, SqT.of ?_, ⟨[], ?_, .nil⟩, ⟨[], ?_, .nil⟩⟩
    · rw [upd_ne ni]
      exact s5 _ _ ni (s4 _ _ ni (s3 _ _ ni hi2))
    · rw [upd_ne no]
      exact s5 _ _ no (s4 _ _ no ho3)
    · rw [upd_ne np]
      exact s5 _ _ np hp4
    · rw [upd_ne nw]
      exact hw5
theorem sc_Reader_port_of : FnScope ["self", "text", "own", "words"] ["self", "text", "own"] (defScope s_Reader_port_of) := ⟨rfl, rfl, rfl, by decide +kernel, rfl, by decide +kernel, by decide +kernel⟩
theorem ok_portOf {f : Addr} {fd fdn : FuncData} (F : Fun K "port_of" "Reader.port_of" s_Reader_port_of f fd) (T : Txt K w mg ad) (G_is_port_name : FnOk P w K mg base CX0 2 ad.f_is_port_name fdn ["word"] spName) (b_is_port_name : Binds K fdn ["word"] []) : FnOk P w K mg base CX0 3 f fd ["self", "text", "own"] (spPortOf K ad.C_Reader) := by
  refine F.ok sc_Reader_port_of (fun vs H Q E h => ?_) (fun cdv A outer s H vs Q E hr h => ?_)
  · obtain ⟨x, dx, i, o, p, w, q, z, own, r, rfl, _⟩ := h
    rfl
  · obtain ⟨x, dx, i, o, p, w', q, z, own, r, rfl, hR, hz, hq, hpl, k⟩ := h
    refine ⟨_, (pss_cons (ps_set (i := 3) sc_Reader_port_of.nd rfl (Or.inl rfl) (pe_split (pv 1) pe_str))
    (pss_cons (ps_if (pt_cmpR op_eq (pe_callB (call_lenK K) (by rfl) T.n_len (by decide +kernel) (pa_cons (pv 3) pa_nil)) pe_int (nomark _)) (pss_one (ps_ret (pe_ifExp (pt_cmpR (op_in_seqK K) (pv 1) (pv 2) (by rfl)) (pe_tup (pa_cons pe_str (pa_cons (pv 1) pa_nil))) pe_non))) pss_nil)
    (pss_cons (ps_if (PW.pt (pw_or (pt_cmpR op_ne (pe_callB (call_lenK K) (by rfl) T.n_len (by decide +kernel) (pa_cons (pv 3) pa_nil)) pe_int (nomark _)) (pw_or (pt_cmp (pc_dnotin (hu_of hr) (pe_ix (ix_listK K) (pv 3) pe_int (fun _ _ => rfl)) (pe_callTy (call_dictP rfl) (by rfl) T.n_dict (by decide +kernel) (pa_cons (pe_fldK K (pv 0) rfl) pa_nil)))) (pw_or1 (pt_not (pt_val (pe_call G_is_port_name (hr.mono (by decide)) rfl T.g_is_port_name T.k_is_port_name b_is_port_name .nil pass0 (pa_cons (pe_ix (ix_listK K) (pv 3) pe_int (fun _ _ => rfl)) pa_nil)))))))) (pss_one (ps_ret pe_non)) pss_nil)
    (pss_one (ps_ret (pe_tup (pa_cons (pe_ix (ix_listK K) (pv 3) pe_int (fun _ _ => rfl)) (pa_cons (pe_ix (ix_listK K) (pv 3) pe_int (fun _ _ => rfl)) pa_nil)))))))), ?_⟩
    refine ⟨_, rfl, ⟨z, rfl⟩, z, ".", rfl, rfl, (by decide +kernel), Nat.le_trans (Nat.add_le_add_right hz 2) (by decide), fun pw hpw => ?_⟩
    have hlens := split_lens (x := z) (y := ".") (by decide +kernel) (by decide +kernel)
    have hne := split_ne (x := z) (y := ".") (by decide +kernel) (by decide +kernel)
    unfold portOf at k
    generalize Txt.split z "." = ws at k hlens hne
    have hp1 : upd H pw (.lst (ws.map V.str)) pw = some (.lst (ws.map V.str)) := upd_same
    have s1 : Same H (upd H pw (.lst (ws.map V.str))) := same_new hpw
    revert hp1 s1
    generalize upd H pw (.lst (ws.map V.str)) = H1
    intro hp1 s1
    have hll : ∀ (m : Int), decide (V.int ((ws.map V.str).length : Nat) = V.int m) = true → (ws.length : Int) = m := fun m z => by
      have := V.int.inj (of_decide_eq_true z)
      simpa using this
    have hll2 : ∀ (m : Int), ¬ decide (V.int ((ws.map V.str).length : Nat) = V.int m) = true → ¬ (ws.length : Int) = m := fun m z q => z (decide_eq_true (by rw [List.length_map, ← q]))
    refine ⟨_, rfl, pw, _, rfl, .inl (SqL.of hp1), rfl, _, rfl, ite2 (fun z1 => ?_) (fun z1 => ?_)⟩
    · have e1 := hll _ z1
      match ws, k, e1 with
      | [_], k, _ =>
        refine ⟨_, rfl, _, rfl, q, _, rfl, .inr (same_sqt s1 hq), rfl, Ly.flat_strs own, _, rfl, ?_⟩
        show if (if false = true then !inV (V.str z) (own.map V.str) else inV (V.str z) (own.map V.str)) = true then _ else _
        rw [inV_mem]
        by_cases hin : z ∈ own
        · rw [decide_eq_true hin]
          refine iteT ⟨_, rfl, szl (show 2 ≤ 100000 by decide), fun t ht => ?_⟩
          refine k _ _ (s1.trans (same_new ht)) ?_
          dsimp only
          rw [if_pos hin]
          exact ⟨t, rfl, upd_same⟩
        · rw [decide_eq_false hin]
          refine iteF ?_
          refine k _ _ s1 ?_
          dsimp only
          rw [if_neg hin]
      | [], _, e1 => simp at e1
      | _ :: _ :: _, _, e1 => simp at e1; omega
    · have e1 := hll2 _ z1
      walk_at "nx"
      refine ⟨_, rfl, pw, _, rfl, .inl (SqL.of hp1), rfl, _, rfl, ite2 (fun z2 => ?_) (fun z2 => ?_)⟩
      · refine k _ _ s1 ?_
        have e2 : ¬ (ws.length : Int) = 2 := hll2 2 (fun z3 => by
          rw [z3] at z2
          cases z2)
        match ws, e1, e2 with
        | [], _, _ => rfl
        | [_], e1, _ => exact absurd rfl e1
        | [_, _], _, e2 => exact absurd rfl e2
        | _ :: _ :: _ :: _, _, _ => rfl
      · have e2 : (ws.length : Int) = 2 := hll 2 (by
          cases h : decide (V.int ((ws.map V.str).length : Nat) = V.int 2) with
          | true => rfl
          | false => exact absurd (by rw [h]; rfl) z2)
        match ws, k, hlens, hp1, e2 with
        | [a, b], k, hlens, hp1, _ =>
          obtain ⟨xs, hxs, hdp⟩ := hR.parts
          obtain ⟨as, rfl, hpp⟩ := parts_pairs hdp
          have hpp1 : Paired (fun p (kv : Key × V) => SqT K H1 p [kV kv.1, kv.2]) as (r.parts.map partKV) := L2.Paired.mapP hpp fun _ _ h => same_sqt s1 h
          refine ⟨_, rfl, pw, _, _, _, rfl, rfl, SqL.of hp1, atI_nat (j := 0) rfl, _, rfl, x, _, dx, _, _, rfl, s1 _ _ hR.obj, T.cl_Reader, T.na_Reader_parts, fsR_parts, p, as, _, rfl, SqL.of (s1 _ _ hxs), hpp1, fun d hd => ?_⟩
          refine ⟨d, _, rfl, DGet.k (k := Sum.inr a) upd_same, _, rfl, ?_⟩
          rw [parts_in]
          have s2 := s1.trans (same_new (o := .dK (mergeK [] (r.parts.map partKV))) hd)
          by_cases hin : a ∈ r.parts.map (·.1)
          · rw [decide_eq_true hin]
            refine iteF ?_
            have hp2 : upd H1 d (.dK (mergeK [] (r.parts.map partKV))) pw = some (.lst ([a, b].map V.str)) := by rw [upd_ne (ne_of_none hp1 hd)]; exact hp1
            refine ⟨_, rfl, pw, _, _, _, rfl, rfl, SqL.of hp2, atI_nat (j := 1) rfl, b, rfl, Nat.le_trans (hlens b (by simp)) (Nat.le_trans hz (by decide)), fun H3 s3 => ⟨_, rfl, ?_⟩⟩
            cases hn : nameOk b with
            | false =>
              refine iteT (k _ _ (s2.trans s3) ?_)
              dsimp only
              rw [decide_eq_true hin, hn]
              rfl
            | true =>
              refine iteF ?_
              walk_at "nx"
              refine ⟨_, rfl, pw, _, _, _, rfl, rfl, SqL.of (s3 _ _ hp2), atI_nat (j := 0) rfl, _, rfl, pw, _, _, _, rfl, rfl, SqL.of (s3 _ _ hp2), atI_nat (j := 1) rfl, szl (show 2 ≤ 100000 by decide), fun t ht => ?_⟩
              refine k _ _ ((s2.trans s3).trans (same_new ht)) ?_
              dsimp only
              rw [decide_eq_true hin, hn]
              exact ⟨t, rfl, upd_same⟩
          · rw [decide_eq_false hin]
            refine iteT (k _ _ s2 ?_)
            dsimp only
            rw [decide_eq_false hin]
            rfl
        | [], _, _, _, e2 => simp at e2
        | [_], _, _, _, e2 => simp at e2
        | _ :: _ :: _ :: _, _, _, _, e2 => simp at e2; omega

/-! ### a row -/
theorem sc_Reader_take_part : FnScope ["self", "halves"] ["self", "halves"] (defScope s_Reader_take_part) := ⟨rfl, rfl, rfl, by decide +kernel, rfl, by decide +kernel, by decide +kernel⟩
theorem ok_takePart {f : Addr} {fd fdN fdB : FuncData} (F : Fun K "take_part" "Reader.take_part" s_Reader_take_part f fd) (T : Txt K w mg ad) (G_is_name : FnOk P w K mg base CX0 1 ad.f_is_name fdN ["word"] spName) (b_is_name : Binds K fdN ["word"] [])
    (G_is_block_text : FnOk P w K mg base CX0 4 ad.f_is_block_text fdB ["text"] spBlockText) (b_is_block_text : Binds K fdB ["text"] []) : FnOk P w K mg base CX0 5 f fd ["self", "halves"] (spTakePart K ad.C_Reader) := by
  refine F.ok sc_Reader_take_part (fun vs H Q E h => ?_) (fun cdv A outer s H vs Q E hr h => ?_)
  · obtain ⟨x, dx, i, o, p, w, q, r, hs, rfl, _⟩ := h
    rfl
  · obtain ⟨x, dx, i, o, p, w', q, r, hs, rfl, hR, hF, hq, hl, k⟩ := h
    refine ⟨_, (pss_cons (ps_if (PW.pt (pw_or (pt_cmpR op_ne (pe_callB (call_lenK K) (by rfl) T.n_len (by decide +kernel) (pa_cons (pv 1) pa_nil)) pe_int (nomark _)) (pw_or (pt_not (pt_val (pe_call G_is_name (hr.mono (by decide)) rfl T.g_is_name T.k_is_name b_is_name .nil pass0 (pa_cons (pe_ix (ix_listK K) (pv 1) pe_int (fun _ _ => rfl)) pa_nil)))) (pw_or1 (pt_not (pt_val (pe_call G_is_block_text (hr.mono (by decide)) rfl T.g_is_block_text T.k_is_block_text b_is_block_text .nil pass0 (pa_cons (pe_ix (ix_listK K) (pv 1) pe_int (fun _ _ => rfl)) pa_nil)))))))) (pss_one (ps_ret pe_bl)) pss_nil)
    (pss_cons (ps_if (PW.pt (pw_or (pt_cmpR (op_neEmptyT (Nat.lt_of_le_of_lt (Nat.le_add_right _ _) hr.units)) (pe_fldK K (pv 0) rfl) pe_dnewT (nomark _)) (pw_or (pt_cmpR op_eq (pe_callB (call_lenK K) (by rfl) T.n_len (by decide +kernel) (pa_cons (pe_fldK K (pv 0) rfl) pa_nil)) (ClX.pe_cval (pe_glob (v := .ref ad.C_Diagram) rfl T.g_Diagram rfl)) (nomark _)) (pw_or1 (pt_cmp (pc_din (hu_of hr) (pe_ix (ix_listK K) (pv 1) pe_int (fun _ _ => rfl)) (pe_callTy (call_dictP rfl) (by rfl) T.n_dict (by decide +kernel) (pa_cons (pe_fldK K (pv 0) rfl) pa_nil)))))))) (pss_one (ps_ret pe_bl)) pss_nil)
    (pss_cons (ps_expr (pe_bm PySem.F.plainAttrs_list PySem.F.slot_list_append PySem.F.type_list_append mt_append (pe_fldK K (pv 0) rfl) (pa_cons (pe_tup (pa_cons (pe_ix (ix_listK K) (pv 1) pe_int (fun _ _ => rfl)) (pa_cons (pe_ix (ix_listK K) (pv 1) pe_int (fun _ _ => rfl)) pa_nil))) pa_nil)))
    (pss_one (ps_ret pe_bl))))), ?_⟩
    have fail : takePartR r hs = none → ∀ H', SameL [x, p, w'] H H' → Q (.bl false) H' := fun e H' s => by
      have := k H' s
      rw [e] at this
      exact this
    refine ⟨_, rfl, q, _, rfl, .inl hq, rfl, _, rfl, ite2 (fun z => ?_) (fun z => ?_)⟩
    · refine fail ?_ _ (SameL.refl _ _)
      match hs, z with
      | [], _ => rfl
      | [_], _ => rfl
      | [_, _], z => exact Bool.noConfusion (show false = true from z)
      | _ :: _ :: _ :: _, _ => rfl
    match hs, z, hq, hl, k, fail with
    | [], z, _, _, _, _ => exact absurd rfl z
    | [_], z, _, _, _, _ => exact absurd rfl z
    | _ :: _ :: _ :: _, z, _, _, _, _ => 
      exfalso
      apply z
      show (!decide (V.int _ = V.int 2)) = true
      rw [decide_eq_false]
      · rfl
      · intro e
        have := V.int.inj e
        simp at this
        omega
    | [a, b], _, hq, hl, k, fail =>
    have la := hl a (by simp)
    have lb := hl b (by simp)
    refine ⟨_, rfl, q, _, _, _, rfl, rfl, hq, atI_nat (j := 0) rfl, a, rfl, Nat.le_trans la (by decide), fun H1 s1 => ⟨_, rfl, ?_⟩⟩
    cases hn : nameOk a with
    | false =>
      refine iteT (fail ?_ _ (sl_of s1))
      unfold takePartR
      dsimp only
      rw [hn]
      rfl
    | true =>
    refine iteF ?_
    refine ⟨_, rfl, q, _, _, _, rfl, rfl, same_sql s1 hq, atI_nat (j := 1) rfl, b, rfl, Nat.le_trans lb (by decide), fun H2 s2 => ⟨_, rfl, ?_⟩⟩
    have s12 := s1.trans s2
    cases hb : blockOk b with
    | false =>
      refine iteT (fail ?_ _ (sl_of s12))
      unfold takePartR
      dsimp only
      rw [hn, hb]
      rfl
    | true =>
    refine iteF ?_
    walk_at "nx"
    have hR2 := hR.same s12
    obtain ⟨xs, hxs, hdp⟩ := hR2.parts
    obtain ⟨kvs, hws, hwp⟩ := hR2.wires
    refine ⟨_, rfl, x, _, dx, _, _, rfl, hR2.obj, T.cl_Reader, T.na_Reader_wires, fsR_wires, fun d hd => ⟨w', d, kvs, rfl, rfl, by rw [upd_ne (ne_of_none hws hd)]; exact hws, upd_same, _, rfl, ?_⟩⟩
    have s3 := s12.trans (same_new (o := .dT []) hd)
    have hR3 := hR2.same (same_new (o := .dT []) hd)
    have hwl : kvs.length = r.wires.length := (paired_len hwp).symm
    rw [hwl]
    cases hw0 : (r.wires.length == 0) with
    | false =>
      refine iteT (fail ?_ _ (sl_of s3))
      unfold takePartR
      dsimp only
      rw [hn, hb, hw0]
      rfl
    | true =>
    refine iteF ?_
    have hpl : xs.length = r.parts.length := by
      have := dps_len hdp
      rw [List.length_map] at this
      exact this
    obtain ⟨as, eas, hpp⟩ := parts_pairs hdp
    have hxs3 : upd H2 d (.dT []) p = some (.lst xs) := by rw [upd_ne (ne_of_none hxs hd)]; exact hxs
    have hpp3 : Paired (fun p (kv : Key × V) => SqT K (upd H2 d (.dT [])) p [kV kv.1, kv.2]) as (r.parts.map partKV) := L2.Paired.mapP hpp fun _ _ h => same_sqt (same_new hd) h
    revert hR3 s3 hxs3 hpp3
    generalize upd H2 d (.dT []) = H3
    intro s3 hR3 hxs3 hpp3
    refine ⟨_, rfl, x, _, dx, _, _, rfl, hR3.obj, T.cl_Reader, T.na_Reader_parts, fsR_parts, p, xs, rfl, .inl (SqL.of hxs3), _, _, _, _, rfl, T.cr_Diagram, T.cv_Diagram_MAX_PARTS, rfl, _, rfl, ?_⟩
    rw [hpl]
    have e16 : decide (V.int (r.parts.length : Nat) = V.int 16) = (r.parts.length == 16) := by
      by_cases h : r.parts.length = 16
      · rw [h]; rfl
      · rw [decide_eq_false fun z => h (by have := V.int.inj z; omega)]
        exact (beq_eq_false_iff_ne.mpr h).symm
    rw [e16]
    cases h16 : (r.parts.length == 16) with
    | true =>
      refine iteT (fail ?_ _ (sl_of s3))
      unfold takePartR
      dsimp only
      rw [hn, hb, hw0, h16]
      rfl
    | false =>
    refine iteF ?_
    subst eas
    refine ⟨_, rfl, q, _, _, _, rfl, rfl, same_sql s3 hq, atI_nat (j := 0) rfl, _, rfl, x, _, dx, _, _, rfl, hR3.obj, T.cl_Reader, T.na_Reader_parts, fsR_parts, p, as, _, rfl, SqL.of hxs3, hpp3, fun d2 hd2 => ?_⟩
    refine ⟨d2, _, rfl, DGet.k (k := Sum.inr a) upd_same, _, rfl, ?_⟩
    rw [parts_in]
    have s4 := s3.trans (same_new (o := .dK (mergeK [] (r.parts.map partKV))) hd2)
    by_cases hin : a ∈ r.parts.map (·.1)
    · rw [decide_eq_true hin]
      refine iteT (fail ?_ _ (sl_of s4))
      unfold takePartR
      dsimp only
      rw [hn, hb, hw0, h16, decide_eq_true hin]
      rfl
    rw [decide_eq_false hin]
    refine iteF ?_
    walk_at "nx"
    have hR4 := hR3.same (same_new (o := .dK (mergeK [] (r.parts.map partKV))) hd2)
    have hxs4 : upd H3 d2 (.dK (mergeK [] (r.parts.map partKV))) p = some (.lst (as.map V.ref)) := by rw [upd_ne (ne_of_none hxs3 hd2)]; exact hxs3
    revert s4 hR4 hxs4
    generalize upd H3 d2 (.dK (mergeK [] (r.parts.map partKV))) = H4
    intro s4 hR4 hxs4
    have hq4 : SqL K H4 q ([a, b].map V.str) := same_sql s4 hq
    refine ⟨_, rfl, x, _, dx, _, _, rfl, hR4.obj, T.cl_Reader, T.na_Reader_parts, fsR_parts, .inl ⟨rfl, _, SqL.of hxs4⟩, _, rfl, q, _, _, _, rfl, rfl, hq4, atI_nat (j := 0) rfl, _, rfl, q, _, _, _, rfl, rfl, hq4, atI_nat (j := 1) rfl, szl (show 2 ≤ 100000 by decide), fun t ht => ⟨p, as.map V.ref, _, rfl, rfl, by rw [upd_ne (ne_of_none hxs4 ht)]; exact hxs4, ?_, ?_⟩⟩
    · rw [hpl]
      have := hF.p
      rw [sizeLine_eq]
      omega
    have hR5 := hR4.same (same_new (o := .tup [.str a, .str b]) ht)
    have ht5 : upd H4 t (.tup [.str a, .str b]) t = some (.tup [.str a, .str b]) := upd_same
    have s5 := s4.trans (same_new (o := .tup [.str a, .str b]) ht)
    have hxs5 : upd H4 t (.tup [.str a, .str b]) p = some (.lst (as.map V.ref)) := by rw [upd_ne (ne_of_none hxs4 ht)]; exact hxs4
    revert hR5 ht5 s5 hxs5
    generalize upd H4 t (.tup [.str a, .str b]) = H5
    intro hR5 ht5 s5 hxs5
    have nT := hR5.noT
    have sl : SameL [x, p, w'] H5 (upd H5 p (.lst (as.map V.ref ++ [.ref t]))) := sl_put (SameL.refl _ _) (by simp)
    have kk := k _ ((sl_of s5).trans sl)
    have et : takePartR r [a, b] = some { r with parts := r.parts ++ [(a, b)] } := by
      unfold takePartR
      dsimp only
      rw [hn, hb, hw0, h16, decide_eq_false hin]
      rfl
    rw [et] at kk
    obtain ⟨n1, n2, n3⟩ := hR5.ne
    refine kk i o ⟨?_, sl_sqt sl nT hR5.ins, sl_sqt sl nT hR5.outs, ⟨as.map V.ref ++ [.ref t], upd_same, ?_⟩, ?_⟩
    · rw [upd_ne n1]
      exact hR5.obj
    · obtain ⟨ys, hys, hdy⟩ := hR5.parts
      rw [hxs5] at hys
      cases hys
      rw [List.map_append]
      exact dps_snoc (sl_pairs sl nT hdy) (dp_pair (p := (a, b)) (sl_sqt sl nT (SqT.of ht5)))
    · obtain ⟨ys, hys, hpy⟩ := hR5.wires
      exact ⟨ys, by rw [upd_ne n3.symm]; exact hys, paired_imp (fun _ _ z => ⟨z.1, by
        obtain ⟨t, e, ht⟩ := z.2
        exact ⟨t, e, sl_sqt sl nT ht⟩⟩) hpy⟩
theorem sc_Reader_take_wire : FnScope ["self", "halves", "target", "source"] ["self", "halves"] (defScope s_Reader_take_wire) := ⟨rfl, rfl, rfl, by decide +kernel, rfl, by decide +kernel, by decide +kernel⟩
theorem ok_takeWire {f : Addr} {fd fdP : FuncData} (F : Fun K "take_wire" "Reader.take_wire" s_Reader_take_wire f fd) (T : Txt K w mg ad) (G_Reader_port_of : FnOk P w K mg base CX0 3 ad.f_Reader_port_of fdP ["self", "text", "own"] (spPortOf K ad.C_Reader)) (b_Reader_port_of : Binds K fdP ["self", "text", "own"] []) :
    FnOk P w K mg base CX0 4 f fd ["self", "halves"] (spTakeWire K ad.C_Reader) := by
  refine F.ok sc_Reader_take_wire (fun vs H Q E h => ?_) (fun cdv A outer s H vs Q E hr h => ?_)
  · obtain ⟨x, dx, i, o, p, w, q, r, hs, rfl, _⟩ := h
    rfl
  · obtain ⟨x, dx, i, o, p, w', q, r, hs, rfl, hR, hF, hq, hl, k⟩ := h
    refine ⟨_, (pss_cons (ps_if (pt_cmpR op_ne (pe_callB (call_lenK K) (by rfl) T.n_len (by decide +kernel) (pa_cons (pv 1) pa_nil)) pe_int (nomark _)) (pss_one (ps_ret pe_bl)) pss_nil)
    (pss_cons (ps_par (i := 2) (j := 3) (by rfl) sc_Reader_take_wire.nd rfl rfl (by decide) rfl rfl (pa_cons (pe_meth (pv 0) T.cl_Reader T.m_Reader_port_of G_Reader_port_of (hr.mono (by decide)) b_Reader_port_of .nil pass0 (pa_cons (pe_ix (ix_listK K) (pv 1) pe_int (fun _ _ => rfl)) (pa_cons (pe_fldK K (pv 0) rfl) pa_nil))) (pa_cons (pe_meth (pv 0) T.cl_Reader T.m_Reader_port_of G_Reader_port_of (hr.mono (by decide)) b_Reader_port_of .nil pass0 (pa_cons (pe_ix (ix_listK K) (pv 1) pe_int (fun _ _ => rfl)) (pa_cons (pe_fldK K (pv 0) rfl) pa_nil))) pa_nil)) (by rfl))
    (pss_cons (ps_if (PW.pt (pw_or (pt_cmpR op_isN (pv 2) pe_non (nomark _)) (pw_or (pt_cmpR op_isN (pv 3) pe_non (nomark _)) (pw_or1 (pt_cmp (pc_din (hu_of hr) (pv 2) (pe_fldK K (pv 0) rfl))))))) (pss_one (ps_ret pe_bl)) pss_nil)
    (pss_cons (ps_dput (hu_of hr) (pe_fldK K (pv 0) rfl) (pv 2) (pv 3) rfl)
    (pss_one (ps_ret pe_bl)))))), ?_⟩
    have fail : takeWireR r hs = none → ∀ H', SameL [x, p, w'] H H' → Q (.bl false) H' := fun e H' s => by
      have := k H' s
      rw [e] at this
      exact this
    refine ⟨_, rfl, q, _, rfl, .inl hq, rfl, _, rfl, ite2 (fun z => ?_) (fun z => ?_)⟩
    · refine fail ?_ _ (SameL.refl _ _)
      match hs, z with
      | [], _ => rfl
      | [_], _ => rfl
      | [_, _], z => exact Bool.noConfusion (show false = true from z)
      | _ :: _ :: _ :: _, _ => rfl
    walk_at "nx"
    match hs, z, hq, hl, k, fail with
    | [], z, _, _, _, _ => exact absurd rfl z
    | [_], z, _, _, _, _ => exact absurd rfl z
    | _ :: _ :: _ :: _, z, _, _, _, _ => 
      exfalso
      apply z
      show (!decide (V.int _ = V.int 2)) = true
      rw [decide_eq_false]
      · rfl
      · intro e
        have := V.int.inj e
        simp at this
        omega
    | [a, b], _, hq, hl, k, fail =>
    have la := hl a (by simp)
    have lb := hl b (by simp)
    have hp := Nat.le_trans hF.p (show 16 ≤ 1000 by decide)
    refine ⟨_, rfl, x, dx, _, rfl, hR.obj, (by kernel_rfl), _, rfl, q, _, _, _, rfl, rfl, hq, atI_nat (j := 0) rfl, _, rfl, x, _, dx, _, _, rfl, hR.obj, T.cl_Reader, T.na_Reader_outputs, fsR_outputs, x, dx, i, o, p, w', o, a, r.outs, r, rfl, hR, la, hR.outs, hp, fun v1 H1 s1 m1 => ?_⟩
    have hR1 := hR.same s1
    refine ⟨_, rfl, x, dx, _, rfl, hR1.obj, (by kernel_rfl), _, rfl, q, _, _, _, rfl, rfl, same_sql s1 hq, atI_nat (j := 1) rfl, _, rfl, x, _, dx, _, _, rfl, hR1.obj, T.cl_Reader, T.na_Reader_inputs, fsR_inputs, x, dx, i, o, p, w', i, b, r.ins, r, rfl, hR1, lb, hR1.ins, hp, fun v2 H2 s2 m2 => ?_⟩
    refine ⟨_, _, rfl, ?_⟩
    walk_at "nx"
    have s12 := s1.trans s2
    have hR2 := hR1.same s2
    cases e1 : portOf r.parts r.outs a with
    | none =>
      rw [e1] at m1
      cases m1
      refine ⟨_, rfl, rfl, _, rfl, iteT (fail ?_ _ (sl_of s12))⟩
      unfold takeWireR
      dsimp only
      rw [e1]
    | some pt =>
    rw [e1] at m1
    obtain ⟨t, rfl, ht⟩ := m1
    refine ⟨_, rfl, rfl, _, rfl, iteF ?_⟩
    cases e2 : portOf r.parts r.ins b with
    | none =>
      rw [e2] at m2
      cases m2
      refine ⟨_, rfl, rfl, _, rfl, iteT (fail ?_ _ (sl_of s12))⟩
      unfold takeWireR
      dsimp only
      rw [e1, e2]
    | some pu =>
    rw [e2] at m2
    obtain ⟨u, rfl, hu⟩ := m2
    refine ⟨_, rfl, rfl, _, rfl, iteF ?_⟩
    obtain ⟨kvs, hws, hwp⟩ := hR2.wires
    have ht2 := s2 _ _ ht
    refine ⟨_, rfl, _, rfl, x, _, dx, _, _, rfl, hR2.obj, T.cl_Reader, T.na_Reader_wires, fsR_wires, w', _, rfl, DGet.t (k := keyP pt) hws ht2, _, rfl, ?_⟩
    have hin := wires_in hwp pt
    rw [hin]
    by_cases hm : pt ∈ r.wires.map (·.1)
    · rw [decide_eq_true hm]
      refine iteT (fail ?_ _ (sl_of s12))
      unfold takeWireR
      dsimp only
      rw [e1, e2]
      dsimp only
      rw [if_pos hm]
    rw [decide_eq_false hm] at hin ⊢
    refine iteF ?_
    walk_at "nx"
    have hwl : kvs.length = r.wires.length := (paired_len hwp).symm
    refine ⟨_, rfl, _, rfl, x, _, dx, _, _, rfl, hR2.obj, T.cl_Reader, T.na_Reader_wires, fsR_wires, _, rfl, w', _, rfl, DPut.t (k := keyP pt) hws ht2 (by
      rw [hwl]
      exact Nat.lt_of_le_of_lt hF.w (by decide)), ?_⟩
    rw [putK_new hin]
    walk_at "nx"
    have nT := hR2.noT
    have sl : SameL [x, p, w'] H2 (upd H2 w' (.dT (kvs ++ [(keyP pt, .ref u)]))) := sl_put (SameL.refl _ _) (by simp)
    have kk := k _ ((sl_of s12).trans sl)
    have et : takeWireR r [a, b] = some { r with wires := r.wires ++ [(pt, pu)] } := by
      unfold takeWireR
      dsimp only
      rw [e1, e2]
      dsimp only
      rw [if_neg hm]
    rw [et] at kk
    obtain ⟨n1, n2, n3⟩ := hR2.ne
    refine kk i o ⟨?_, sl_sqt sl nT hR2.ins, sl_sqt sl nT hR2.outs, ?_, ⟨_, upd_same, ?_⟩⟩
    · rw [upd_ne n2]
      exact hR2.obj
    · obtain ⟨ys, hys, hdy⟩ := hR2.parts
      exact ⟨ys, by rw [upd_ne n3]; exact hys, sl_pairs sl nT hdy⟩
    · exact paired_snoc (paired_imp (fun _ _ z => ⟨z.1, by
        obtain ⟨t, e, ht⟩ := z.2
        exact ⟨t, e, sl_sqt sl nT ht⟩⟩) hwp) ⟨rfl, u, rfl, sl_sqt sl nT (SqT.of hu)⟩
theorem sc_Reader_take_head : FnScope ["self", "row", "name", "ports", "halves", "inputs", "outputs", "port"] ["self", "row"] (defScope s_Reader_take_head) := ⟨rfl, rfl, rfl, by decide +kernel, rfl, by decide +kernel, by decide +kernel⟩
theorem ok_takeHead {f : Addr} {fd fdN : FuncData} (F : Fun K "take_head" "Reader.take_head" s_Reader_take_head f fd) (T : Txt K w mg ad) (G_is_name : FnOk P w K mg base CX0 1 ad.f_is_name fdN ["word"] spName) (b_is_name : Binds K fdN ["word"] []) :
    FnOk P w K mg base CX0 2 f fd ["self", "row"] (spTakeHead K ad.C_Reader) := by
  refine F.ok sc_Reader_take_head (fun vs H Q E h => ?_) (fun cdv A outer s H vs Q E hr h => ?_)
  · obtain ⟨x, dx, i, o, p, w, r, z, rfl, _⟩ := h
    rfl
  · obtain ⟨x, dx, i, o, p, w', r, z, rfl, hR, hnm, hz, k⟩ := h
    refine ⟨_, (pss_cons (ps_if (PW.pt (pw_or (pt_not (pt_val (pe_m1 PySem.F.slot_str_startswith PySem.F.type_str_startswith mt_startswith (pv 1) pe_str))) (pw_or (pt_not (pt_val (pe_m1 PySem.F.slot_str_endswith PySem.F.type_str_endswith mt_endswith (pv 1) pe_str))) (pw_or (pt_cmpR op_ne (pe_m1 PySem.F.slot_str_count PySem.F.type_str_count mt_count (pv 1) pe_str) pe_int (nomark _)) (pw_or1 (pt_cmpR op_ne (pe_m1 PySem.F.slot_str_count PySem.F.type_str_count mt_count (pv 1) pe_str) pe_int (nomark _))))))) (pss_one (ps_ret pe_bl)) pss_nil)
    (pss_cons (ps_asg (pe_split (pe_slice sl_str (pv 1) (po_some (pe_callB call_len_str (by rfl) T.n_len (by decide +kernel) (pa_cons pe_str pa_nil))) (po_some (pe_un un_neg pe_int))) pe_str) (pg_unl (by rfl) (pgs_cons (pg_name (i := 2) sc_Reader_take_head.nd rfl (Or.inl rfl)) (pgs_cons (pg_name (i := 3) sc_Reader_take_head.nd rfl (Or.inl rfl)) pgs_nil))))
    (pss_cons (ps_set (i := 4) sc_Reader_take_head.nd rfl (Or.inl rfl) (pe_split (pv 3) pe_str))
    (pss_cons (ps_if (pt_cmpR op_ne (pe_callB (call_lenK K) (by rfl) T.n_len (by decide +kernel) (pa_cons (pv 4) pa_nil)) pe_int (nomark _)) (pss_one (ps_ret pe_bl)) pss_nil)
    (pss_cons (ps_set (i := 5) sc_Reader_take_head.nd rfl (Or.inl rfl) (pe_ifExp (pt_cmpR op_eq (pe_ix (ix_listK K) (pv 4) pe_int (fun _ _ => rfl)) pe_str (nomark _)) (pe_lst pa_nil) (pe_split (pe_ix (ix_listK K) (pv 4) pe_int (fun _ _ => rfl)) pe_str)))
    (pss_cons (ps_if (PW.pt (pw_and (pt_cmpR op_ne (pe_ix (ix_listK K) (pv 4) pe_int (fun _ _ => rfl)) pe_str (nomark _)) (pw_and1 (pt_not (pt_val (pe_m1 PySem.F.slot_str_startswith PySem.F.type_str_startswith mt_startswith (pe_ix (ix_listK K) (pv 4) pe_int (fun _ _ => rfl)) pe_str)))))) (pss_one (ps_ret pe_bl)) pss_nil)
    (pss_cons (ps_set (i := 6) sc_Reader_take_head.nd rfl (Or.inl rfl) (pe_ifExp (pt_cmpR op_eq (pe_ix (ix_listK K) (pv 4) pe_int (fun _ _ => rfl)) pe_str (nomark _)) (pe_lst pa_nil) (pe_split (pe_slice sl_str (pe_ix (ix_listK K) (pv 4) pe_int (fun _ _ => rfl)) (po_some pe_int) po_none) pe_str)))
    (pss_cons (ps_if (PW.pt (pw_or (pt_not (pt_val (pe_call G_is_name (hr.mono (by decide)) rfl T.g_is_name T.k_is_name b_is_name .nil pass0 (pa_cons (pv 2) pa_nil)))) (pw_or (pt_cmpR (op_in_kd T.d_PORTS) (pv 2) (pe_glob (v := .ref ad.d_PORTS) rfl T.g_PORTS rfl) (by rfl)) (pw_or1 (pt_not (pt_val (pe_callB (cr_all rfl) (by rfl) T.n_all (by decide +kernel) (pa_cons (pe_lc (own := [("port", 7)]) rfl sc_Reader_take_head.nd (pi_listK K (pe_op op_cat (pv 5) (pv 6))) (blkOk_by (own := [("port", 7)]) (N := ["self", "row", "name", "ports", "halves", "inputs", "outputs", "port"]) (sc := defScope s_Reader_take_head) (by decide +kernel)) (fun _ _ _ _ _ => (pg_name (i := 7) sc_Reader_take_head.nd rfl (Or.inl rfl))) (fun _ _ _ _ _ => pts_nil) (fun _ _ _ _ _ => (pe_call G_is_name (hr.mono (by decide)) rfl T.g_is_name T.k_is_name b_is_name .nil pass0 (pa_cons (pv 7) pa_nil)))) pa_nil)))))))) (pss_one (ps_ret pe_bl)) pss_nil)
    (pss_cons (ps_if (PW.pt (pw_or (pt_cmpR op_gt (pe_callB (call_max2 rfl) (by rfl) T.n_max (by decide +kernel) (pa_cons (pe_callB (call_lenK K) (by rfl) T.n_len (by decide +kernel) (pa_cons (pv 5) pa_nil)) (pa_cons (pe_callB (call_lenK K) (by rfl) T.n_len (by decide +kernel) (pa_cons (pv 6) pa_nil)) pa_nil))) (ClX.pe_cval (pe_glob (v := .ref ad.C_Diagram) rfl T.g_Diagram rfl)) (nomark _)) (pw_or1 (pt_cmpR op_lt (pe_callB (cr_lenSetS w) (by rfl) T.n_len (by decide +kernel) (pa_cons (pe_callTy (cr_setS K w rfl) (by rfl) T.n_set (by decide +kernel) (pa_cons (pe_op op_cat (pv 5) (pv 6)) pa_nil)) pa_nil)) (pe_callB (call_lenK K) (by rfl) T.n_len (by decide +kernel) (pa_cons (pe_op op_cat (pv 5) (pv 6)) pa_nil)) (nomark _))))) (pss_one (ps_ret pe_bl)) pss_nil)
    (pss_cons (ps_asg (pe_tup (pa_cons (pv 2) (pa_cons (pe_callTy (call_tupleK K) (by rfl) T.n_tuple (by decide +kernel) (pa_cons (pv 5) pa_nil)) (pa_cons (pe_callTy (call_tupleK K) (by rfl) T.n_tuple (by decide +kernel) (pa_cons (pv 6) pa_nil)) pa_nil)))) (pg_tup (by rfl) (pgs_cons (pg_fld (pv 0)) (pgs_cons (pg_fld (pv 0)) (pgs_cons (pg_fld (pv 0)) pgs_nil)))))
    (pss_one (ps_ret pe_bl)))))))))))), ?_⟩
    have fail : headOf z = none → ∀ H', SameL [x, p, w'] H H' → Q (.bl false) H' := fun e H' s => by
      have := k H' s
      rw [e] at this
      exact this
    have hzl : z.length ≤ sizeLine := Nat.le_trans hz (by decide)
    have no1 : (Txt.startswith z "block " && Txt.endswith z ")" && decide (Txt.count z "(" = 1) && decide (Txt.count z ";" = 1)) = false → headOf z = none := fun e => by
      unfold headOf
      rw [e]
      rfl
    refine ⟨_, rfl, ⟨_, rfl⟩, z, "block ", rfl, rfl, _, rfl, ?_⟩
    cases c1 : Txt.startswith z "block " with
    | false => exact iteT (fail (no1 (by rw [c1]; rfl)) _ (SameL.refl _ _))
    | true =>
    refine iteF ?_
    refine ⟨_, rfl, ⟨_, rfl⟩, z, ")", rfl, rfl, _, rfl, ?_⟩
    cases c2 : Txt.endswith z ")" with
    | false => exact iteT (fail (no1 (by rw [c1, c2]; rfl)) _ (SameL.refl _ _))
    | true =>
    refine iteF ?_
    refine ⟨_, rfl, ⟨_, rfl⟩, z, "(", rfl, rfl, rfl, _, rfl, ?_⟩
    rw [dInt]
    by_cases c3 : Txt.count z "(" = 1
    case neg =>
      rw [decide_eq_false c3]
      refine iteT (fail (no1 ?_) _ (SameL.refl _ _))
      rw [c1, c2, decide_eq_false c3]
      rfl
    rw [decide_eq_true c3]
    refine iteF ?_
    refine ⟨_, rfl, ⟨_, rfl⟩, z, ";", rfl, rfl, rfl, _, rfl, ?_⟩
    rw [dInt]
    by_cases c4 : Txt.count z ";" = 1
    case neg =>
      rw [decide_eq_false c4]
      refine iteT (fail (no1 ?_) _ (SameL.refl _ _))
      rw [c1, c2, decide_eq_true c3, decide_eq_false c4]
      rfl
    rw [decide_eq_true c4]
    refine iteF ?_
    walk_at "nx"
    have hmid : headOf z = headMid (cutS z (some 6) (some (-1))) := by
      unfold headOf
      rw [c1, c2, decide_eq_true c3, decide_eq_true c4]
      rfl
    have hml := cutS_length z (some 6) (some (-1))
    have hsp : (Txt.split (cutS z (some 6) (some (-1))) "(").length = 2 := split_mid c1 c2 c3
    have hlens := split_lens (x := cutS z (some 6) (some (-1))) (y := "(") (by decide +kernel) (by decide +kernel)
    rw [hmid] at fail k
    unfold headMid at fail k
    generalize hm : cutS z (some 6) (some (-1)) = m at hml hsp hlens fail k
    have hm' : cutS z (some ((("block " : Str).length : Nat) : Int)) (some (-1)) = m := by
      rw [show (("block " : Str)).length = 6 by decide +kernel]
      exact hm
    refine ⟨_, rfl, _, rfl, (by decide +kernel), _, rfl, _, rfl, _, rfl, z, rfl, hzl, ?_⟩
    rw [hm']
    refine ⟨⟨_, rfl⟩, m, "(", rfl, rfl, (by decide +kernel), ?_, fun a1 ha1 => ?_⟩
    · have h0 := sizeLine_eq
      omega
    match hw : Txt.split m "(", hsp, hlens, fail, k with
    | [], h, _, _, _ => cases h
    | [_], h, _, _, _ => cases h
    | _ :: _ :: _ :: _, h, _, _, _ => simp at h
    | [n, ps], _, hlens, fail, k =>
    have hn := hlens n (by simp)
    have hps := hlens ps (by simp)
    refine ⟨a1, _, rfl, SqL.of (by rw [upd_same]; rfl), rfl, _, _, rfl, _, _, rfl, rfl, ?_⟩
    walk_at "nx"
    have s1 : Same H (upd H a1 (.lst ([n, ps].map V.str))) := same_new ha1
    have hR1 := hR.same s1
    revert s1 hR1
    generalize upd H a1 (.lst ([n, ps].map V.str)) = H1
    intro s1 hR1
    change headEnd n ps = none → _ at fail
    change RTook K ad.C_Reader H x dx p w' (Option.map _ (headEnd n ps)) Q at k
    unfold headEnd at fail k
    have hlens2 := split_lens (x := ps) (y := ";") (by decide +kernel) (by decide +kernel)
    refine ⟨_, rfl, ⟨_, rfl⟩, ps, ";", rfl, rfl, (by decide +kernel), ?_, fun a2 ha2 => ?_⟩
    · have h0 := sizeLine_eq
      omega
    generalize Txt.split ps ";" = hh at fail k hlens2
    have h2 : upd H1 a2 (.lst (hh.map V.str)) a2 = some (.lst (hh.map V.str)) := upd_same
    have s2 : Same H (upd H1 a2 (.lst (hh.map V.str))) := s1.trans (same_new ha2)
    have hR2 := hR1.same (same_new (o := .lst (hh.map V.str)) ha2)
    revert s2 hR2 h2
    generalize upd H1 a2 (.lst (hh.map V.str)) = H2
    intro h2 s2 hR2
    walk_at "nx"
    refine ⟨_, rfl, a2, _, rfl, .inl (SqL.of h2), rfl, _, rfl, ite2 (fun z => ?_) (fun z => ?_)⟩
    · refine fail ?_ _ (sl_of s2)
      match hh, z with
      | [], _ => rfl
      | [_], _ => rfl
      | [_, _], z => exact Bool.noConfusion (show false = true from z)
      | _ :: _ :: _ :: _, _ => rfl
    walk_at "nx"
    match hh, z, h2, hlens2, k, fail with
    | [], z, _, _, _, _ => exact absurd rfl z
    | [_], z, _, _, _, _ => exact absurd rfl z
    | _ :: _ :: _ :: _, z, _, _, _, _ => 
      exfalso
      apply z
      show (!decide (V.int _ = V.int 2)) = true
      rw [decide_eq_false]
      · rfl
      · intro e
        have := V.int.inj e
        simp at this
        omega
    | [h0, h1], _, h2, hlens2, k, fail =>
    have hl0 := hlens2 h0 (by simp)
    have hl1 := hlens2 h1 (by simp)
    dsimp only at fail k
    have hsz0 := sizeLine_eq
    -- inputs
    refine asg (fun v H3 => ∃ b, v = .ref b ∧ Same H2 H3 ∧ H2 b = none ∧ H3 b = some (.lst ((headPorts h0).map V.str))) (fun Q' q => ?_) ?_
    · refine ⟨_, rfl, a2, _, _, _, rfl, rfl, SqL.of h2, atI_nat (j := 0) rfl, rfl, _, rfl, ?_⟩
      rw [dStr]
      by_cases e0 : h0 = ""
      · rw [decide_eq_true e0]
        refine iteT ⟨szl (Nat.zero_le _), fun b hb => q _ _ ⟨b, rfl, same_new hb, hb, ?_⟩⟩
        unfold headPorts
        rw [if_pos e0]
        exact upd_same
      · rw [decide_eq_false e0]
        refine iteF ⟨_, rfl, a2, _, _, _, rfl, rfl, SqL.of h2, atI_nat (j := 0) rfl, ⟨_, rfl⟩, h0, " ", rfl, rfl, (by decide +kernel), by omega, fun b hb => q _ _ ⟨b, rfl, same_new hb, hb, ?_⟩⟩
        unfold headPorts
        rw [if_neg e0]
        exact upd_same
    rintro _ H3 ⟨b3, rfl, s3, hb3, hi3⟩
    dsimp only [gName]
    have hR3 := hR2.same s3
    have h23 := s3 _ _ h2
    -- the sign ahead of the outputs
    cases hc : (decide (h1 = "") || Txt.startswith h1 " ") with
    | false =>
      obtain ⟨e1, e2⟩ := Bool.or_eq_false_iff.mp hc
      refine ⟨_, rfl, a2, _, _, _, rfl, rfl, SqL.of h23, atI_nat (j := 1) rfl, rfl, _, rfl, ?_⟩
      rw [dStr, e1]
      refine iteT ⟨_, rfl, a2, _, _, _, rfl, rfl, SqL.of h23, atI_nat (j := 1) rfl, ⟨_, rfl⟩, h1, " ", rfl, rfl, _, rfl, ?_⟩
      rw [e2]
      refine iteT (fail ?_ _ (sl_of (s2.trans s3)))
      rw [hc]
      rfl
    | true =>
    rw [hc] at fail k
    rw [if_pos rfl] at fail k
    refine guardF (fun H9 => H3 = H9) (fun Q' q => ?_) ?_
    · refine ⟨_, rfl, a2, _, _, _, rfl, rfl, SqL.of h23, atI_nat (j := 1) rfl, rfl, _, rfl, ?_⟩
      rw [dStr]
      by_cases e1 : h1 = ""
      · rw [decide_eq_true e1]
        exact iteF (q _ rfl)
      · rw [decide_eq_false e1] at hc ⊢
        refine iteT ⟨_, rfl, a2, _, _, _, rfl, rfl, SqL.of h23, atI_nat (j := 1) rfl, ⟨_, rfl⟩, h1, " ", rfl, rfl, _, rfl, ?_⟩
        rw [show Txt.startswith h1 " " = true from hc]
        exact q _ rfl
    rintro _ rfl
    -- outputs
    refine asg (fun v H4 => ∃ b, v = .ref b ∧ Same H3 H4 ∧ H3 b = none ∧ H4 b = some (.lst ((headOut h1).map V.str))) (fun Q' q => ?_) ?_
    · refine ⟨_, rfl, a2, _, _, _, rfl, rfl, SqL.of h23, atI_nat (j := 1) rfl, rfl, _, rfl, ?_⟩
      rw [dStr]
      by_cases e0 : h1 = ""
      · rw [decide_eq_true e0]
        refine iteT ⟨szl (Nat.zero_le _), fun b hb => q _ _ ⟨b, rfl, same_new hb, hb, ?_⟩⟩
        unfold headOut
        rw [if_pos e0]
        exact upd_same
      · rw [decide_eq_false e0]
        have hcl := cutS_length h1 (some 1) none
        refine iteF ⟨_, rfl, a2, _, _, _, rfl, rfl, SqL.of h23, atI_nat (j := 1) rfl, _, rfl, h1, rfl, by omega, ⟨_, rfl⟩, cutS h1 (some 1) none, " ", rfl, rfl, (by decide +kernel), by omega, fun b hb => q _ _ ⟨b, rfl, same_new hb, hb, ?_⟩⟩
        unfold headOut
        rw [if_neg e0]
        exact upd_same
    rintro _ H4 ⟨b4, rfl, s4, hb4, ho4⟩
    dsimp only [gName]
    have hR4 := hR3.same s4
    have hi4 := s4 _ _ hi3
    have s04 := (s2.trans s3).trans s4
    generalize hins : headPorts h0 = ins at fail k hi3 hi4
    generalize houts : headOut h1 = outs at fail k ho4
    have hli : ins.length ≤ 100102 ∧ ∀ y ∈ ins, y.length ≤ 100100 := by
      rw [← hins]
      unfold headPorts
      split
      · exact ⟨Nat.zero_le _, fun y hy => by cases hy⟩
      · exact ⟨Nat.le_trans (PyProof.Rows.split_le _ _) (by omega), fun y hy => by
          have := split_lens (x := h0) sp_ne sp_k y hy
          omega⟩
    have hlo : outs.length ≤ 100102 ∧ ∀ y ∈ outs, y.length ≤ 100100 := by
      rw [← houts]
      unfold headOut
      have hcl := cutS_length h1 (some 1) none
      split
      · exact ⟨Nat.zero_le _, fun y hy => by cases hy⟩
      · exact ⟨Nat.le_trans (PyProof.Rows.split_le _ _) (by omega), fun y hy => by
          have := split_lens (x := cutS h1 (some 1) none) sp_ne sp_k y hy
          omega⟩
    unfold headFin at fail k
    -- the names
    refine ⟨_, rfl, n, rfl, by omega, fun H5 s5 => ⟨_, rfl, ?_⟩⟩
    cases c5 : nameOk n with
    | false =>
      refine iteT (fail ?_ _ (sl_of (s04.trans s5)))
      rw [c5]
      rfl
    | true =>
    refine iteF ?_
    obtain ⟨rr, hr1, hr2⟩ := ports_in T n
    refine ⟨_, rfl, n, rr, rfl, rfl, hr1, _, rfl, ?_⟩
    rw [hr2]
    by_cases c6 : n ∈ portNames
    · rw [decide_eq_true c6]
      refine iteT (fail ?_ _ (sl_of (s04.trans s5)))
      rw [c5, decide_eq_true c6]
      rfl
    rw [decide_eq_false c6]
    refine iteF ?_
    have hi5 := s5 _ _ hi4
    have ho5 := s5 _ _ ho4
    have hR5 := hR4.same s5
    have s05 := s04.trans s5
    have hlio : ∀ y ∈ ins ++ outs, y.length ≤ 100100 := fun y hy => (List.mem_append.mp hy).elim (hli.2 y) (hlo.2 y)
    have hln : (ins ++ outs).length ≤ 200204 := by rw [List.length_append]; omega
    refine ⟨_, rfl, _, rfl, b3, b4, ins.map V.str, outs.map V.str, rfl, rfl, hi5, ho5, (by simp only [List.length_map]; omega), fun b5 hb5 => ?_⟩
    have hb5' : upd H5 b5 (.lst (ins.map V.str ++ outs.map V.str)) b5 = some (.lst ((ins ++ outs).map V.str)) := by rw [upd_same, List.map_append]
    have s6 : Same H5 (upd H5 b5 (.lst (ins.map V.str ++ outs.map V.str))) := same_new hb5
    revert hb5' s6
    generalize upd H5 b5 (.lst (ins.map V.str ++ outs.map V.str)) = H6
    intro hb5' s6
    refine ⟨b5, rfl, ⟨_, SqL.of hb5'⟩, fun D hD => lc_list (K := K) (a := b5) (xs := (ins ++ outs).map V.str) (fun i' H' => Same H6 H' ∧ H' D = some (.lst (((ins ++ outs).take i').map fun y => V.bl (nameOk y)))) ⟨same_new hD, upd_same⟩ (fun i' H' _ h => SqL.of (h.1 _ _ hb5')) ?_ ?_⟩
    · rintro i' x' H' hx ⟨s', h'⟩
      rw [List.getElem?_map] at hx
      cases e : (ins ++ outs)[i']? with
      | none => rw [e] at hx; cases hx
      | some y =>
      rw [e] at hx
      cases hx
      have hy := hlio y (List.mem_of_getElem? e)
      refine ⟨rfl, ?_⟩
      dsimp only [tYes]
      refine iteT ⟨_, rfl, y, rfl, by omega, fun H'' s'' => ⟨_, s'' _ _ h', ?_, same_mut (s'.trans s'') hD, ?_⟩⟩
      · rw [List.length_map, List.length_take]
        omega
      · rw [upd_same, List.take_add_one, e]
        simp
    rintro H7 ⟨s7, h7⟩
    rw [List.length_map, List.take_length] at h7
    refine ⟨D, (ins ++ outs).map nameOk, rfl, SqL.of (by rw [h7, List.map_map]; rfl), _, rfl, ?_⟩
    have hid : ((ins ++ outs).map nameOk).all id = (ins ++ outs).all nameOk := by rw [List.all_map]; rfl
    rw [hid]
    have s07 := (s05.trans s6).trans s7
    cases c7 : (ins ++ outs).all nameOk with
    | false =>
      refine iteT (fail ?_ _ (sl_of s07))
      rw [c5, decide_eq_false c6, c7]
      rfl
    | true =>
    refine iteF ?_
    walk_at "nx"
    have hi7 := s7 _ _ (s6 _ _ hi5)
    have ho7 := s7 _ _ (s6 _ _ ho5)
    have hR7 := (hR5.same s6).same s7
    -- how many
    have hgt : ∀ i j : Int, (decide (8 < (if j > i then j else i)) = !decide (max i j ≤ 8)) := fun i j => by
      by_cases h : max i j ≤ 8
      · rw [decide_eq_true h, decide_eq_false]
        · rfl
        · split <;> omega
      · rw [decide_eq_false h, decide_eq_true]
        · rfl
        · split <;> omega
    refine ⟨_, rfl, b3, _, rfl, .inl (SqL.of hi7), _, rfl, b4, _, rfl, .inl (SqL.of ho7), _, _, rfl, _, _, _, _, rfl, T.cr_Diagram, T.cv_Diagram_MAX_PORTS, _, _, rfl, rfl, _, rfl, ?_⟩
    rw [hgt, List.length_map, List.length_map]
    have hmx : decide (max (ins.length : Int) (outs.length : Int) ≤ 8) = decide (max ins.length outs.length ≤ 8) := by
      by_cases h : max ins.length outs.length ≤ 8
      · rw [decide_eq_true h, decide_eq_true (by omega)]
      · rw [decide_eq_false h, decide_eq_false (by omega)]
    rw [hmx]
    by_cases c8 : max ins.length outs.length ≤ 8
    case neg =>
      rw [decide_eq_false c8]
      refine iteT (fail ?_ _ (sl_of s07))
      rw [c5, decide_eq_false c6, c7, decide_eq_false c8]
      rfl
    rw [decide_eq_true c8]
    refine iteF ?_
    have hl16 : (ins ++ outs).length ≤ 16 := by rw [List.length_append]; omega
    have hsz1 : (ins.map V.str).length + (outs.map V.str).length ≤ sizeLine := by simp only [List.length_map]; omega
    have hcat : ∀ (Hq : Hp) (b : Addr), upd Hq b (.lst (ins.map V.str ++ outs.map V.str)) b = some (.lst ((ins ++ outs).map V.str)) := fun Hq b => by rw [upd_same, List.map_append]
    refine ⟨_, rfl, _, rfl, b3, b4, _, _, rfl, rfl, hi7, ho7, hsz1, fun b8 hb8 => ⟨b8, ins ++ outs, rfl, SqL.of (hcat _ _), by omega, fun b9 hb9 => ⟨b9, dedS (ins ++ outs), rfl, upd_same, ?_⟩⟩⟩
    have s8 : Same H7 (upd (upd H7 b8 (.lst (ins.map V.str ++ outs.map V.str))) b9 (SetSO w b9 (dedS (ins ++ outs)))) := (same_new hb8).trans (same_new hb9)
    revert s8
    generalize upd (upd H7 b8 (.lst (ins.map V.str ++ outs.map V.str))) b9 (SetSO w b9 (dedS (ins ++ outs))) = H8
    intro s8
    refine ⟨_, rfl, _, rfl, b3, b4, _, _, rfl, rfl, s8 _ _ hi7, s8 _ _ ho7, hsz1, fun b10 hb10 => ⟨b10, _, rfl, .inl (SqL.of (hcat _ _)), _, _, rfl, rfl, _, rfl, ?_⟩⟩
    have s9 : Same H7 (upd H8 b10 (.lst (ins.map V.str ++ outs.map V.str))) := s8.trans (same_new hb10)
    revert s9
    generalize upd H8 b10 (.lst (ins.map V.str ++ outs.map V.str)) = H9
    intro s9
    have hdl : decide (((dedS (ins ++ outs)).length : Int) < (((ins ++ outs).map V.str).length : Nat)) = !decide (ins ++ outs).Nodup := by
      have := ded_lt (ins ++ outs)
      by_cases h : (ins ++ outs).Nodup
      · rw [decide_eq_true h, decide_eq_false]
        · rfl
        · rw [List.length_map]
          intro z
          exact (this.mp (by omega)) h
      · rw [decide_eq_false h, decide_eq_true]
        · rfl
        · rw [List.length_map]
          have := this.mpr h
          omega
    rw [hdl]
    have s09 := s07.trans s9
    by_cases c9 : (ins ++ outs).Nodup
    case neg =>
      rw [decide_eq_false c9]
      refine iteT (fail ?_ _ (sl_of s09))
      rw [c5, decide_eq_false c6, c7, decide_eq_true c8, decide_eq_false c9]
      rfl
    rw [decide_eq_true c9]
    refine iteF ?_
    walk_at "nx"
    have hR9 := hR7.same s9
    have hi9 := s9 _ _ hi7
    have ho9 := s9 _ _ ho7
    have n34 : b3 ≠ b4 := by
      intro e
      subst e
      rw [hb4] at hi3
      cases hi3
    have hlr := hl16
    rw [List.length_append] at hlr
    refine ⟨_, rfl, _, rfl, b3, _, rfl, .inl ⟨SqL.of hi9, fun t1 ht1 => ⟨_, rfl, b4, _, rfl, .inl ⟨SqL.of (by rw [upd_ne (ne_of_none ho9 ht1)]; exact ho9), fun t2 ht2 => ⟨szl (show 3 ≤ 100000 by decide), fun t3 ht3 => ?_⟩⟩⟩⟩⟩
    have e1 : upd (upd (upd H9 t1 (.tup (ins.map V.str))) t2 (.tup (outs.map V.str))) t3 (.tup [.str n, .ref t1, .ref t2]) t1 = some (.tup (ins.map V.str)) := by
      rw [upd_ne (ne_of_none (by rw [upd_ne (ne_of_none upd_same ht2)]; exact upd_same) ht3), upd_ne (ne_of_none upd_same ht2), upd_same]
    have e2 : upd (upd (upd H9 t1 (.tup (ins.map V.str))) t2 (.tup (outs.map V.str))) t3 (.tup [.str n, .ref t1, .ref t2]) t2 = some (.tup (outs.map V.str)) := by
      rw [upd_ne (ne_of_none upd_same ht3), upd_same]
    have e3 : upd (upd (upd H9 t1 (.tup (ins.map V.str))) t2 (.tup (outs.map V.str))) t3 (.tup [.str n, .ref t1, .ref t2]) t3 = some (.tup [.str n, .ref t1, .ref t2]) := upd_same
    have s10 : Same H9 (upd (upd (upd H9 t1 (.tup (ins.map V.str))) t2 (.tup (outs.map V.str))) t3 (.tup [.str n, .ref t1, .ref t2])) := ((same_new ht1).trans (same_new ht2)).trans (same_new ht3)
    revert e1 e2 e3 s10
    generalize upd (upd (upd H9 t1 (.tup (ins.map V.str))) t2 (.tup (outs.map V.str))) t3 (.tup [.str n, .ref t1, .ref t2]) = H10
    intro e1 e2 e3 s10
    have hR10 := hR9.same s10
    have ob := hR10.obj
    have nT := hR10.noT
    obtain ⟨n1, n2, n3⟩ := hR10.ne
    refine ⟨t3, _, rfl, SqT.of e3, rfl, _, _, rfl, _, rfl, x, _, dx, _, rfl, ob, T.cl_Reader, T.na_Reader_name, (by show 6 < 1000; decide), ?_⟩
    rw [fsR_putn]
    refine ⟨_, _, rfl, _, rfl, x, _, dx, _, rfl, upd_same, T.cl_Reader, T.na_Reader_inputs, (by show 6 < 1000; decide), ?_⟩
    rw [fsR_puti, upd_upd]
    refine ⟨_, _, rfl, _, rfl, x, _, dx, _, rfl, upd_same, T.cl_Reader, T.na_Reader_outputs, (by show 6 < 1000; decide), rfl, ?_⟩
    rw [fsR_puto, upd_upd]
    have sl : SameL [x, p, w'] H10 (upd H10 x (.ins ad.C_Reader dx (fsR (.str n) t1 t2 p w' r.done))) := sl_put (SameL.refl _ _) (by simp)
    have kk := k _ ((sl_of (s09.trans s10)).trans sl)
    rw [c5, decide_eq_false c6, c7, decide_eq_true c8, decide_eq_true c9] at kk
    refine kk t1 t2 ⟨upd_same, sl_sqt sl nT (SqT.of e1), sl_sqt sl nT (SqT.of e2), ?_, ?_⟩
    · obtain ⟨ys, hys, hdy⟩ := hR10.parts
      exact ⟨ys, by rw [upd_ne n1.symm]; exact hys, sl_pairs sl nT hdy⟩
    · obtain ⟨ys, hys, hpy⟩ := hR10.wires
      exact ⟨ys, by rw [upd_ne n2.symm]; exact hys, paired_imp (fun _ _ z => ⟨z.1, by
        obtain ⟨t, e, ht⟩ := z.2
        exact ⟨t, e, sl_sqt sl nT ht⟩⟩) hpy⟩
theorem sc_Reader_take : FnScope ["self", "row"] ["self", "row"] (defScope s_Reader_take) := ⟨rfl, rfl, rfl, by decide +kernel, rfl, by decide +kernel, by decide +kernel⟩
theorem ok_takeRow {f : Addr} {fd fdH fdP fdW : FuncData} (F : Fun K "take" "Reader.take" s_Reader_take f fd) (T : Txt K w mg ad) (G_Reader_take_head : FnOk P w K mg base CX0 2 ad.f_Reader_take_head fdH ["self", "row"] (spTakeHead K ad.C_Reader)) (b_Reader_take_head : Binds K fdH ["self", "row"] [])
    (G_Reader_take_part : FnOk P w K mg base CX0 5 ad.f_Reader_take_part fdP ["self", "halves"] (spTakePart K ad.C_Reader)) (b_Reader_take_part : Binds K fdP ["self", "halves"] []) (G_Reader_take_wire : FnOk P w K mg base CX0 4 ad.f_Reader_take_wire fdW ["self", "halves"] (spTakeWire K ad.C_Reader)) (b_Reader_take_wire : Binds K fdW ["self", "halves"] []) :
    FnOk P w K mg base CX0 6 f fd ["self", "row"] (spTakeRow K ad.C_Reader) := by
  refine F.ok sc_Reader_take (fun vs H Q E h => ?_) (fun cdv A outer s H vs Q E hr h => ?_)
  · obtain ⟨x, dx, i, o, p, w, r, z, rfl, _⟩ := h
    rfl
  · obtain ⟨x, dx, i, o, p, w', r, z, rfl, hR, hF, hz, k⟩ := h
    refine ⟨_, (pss_cons (ps_if (pt_cmpR op_isN (pe_fldK K (pv 0) rfl) pe_non (nomark _)) (pss_one (ps_ret (pe_meth (pv 0) T.cl_Reader T.m_Reader_take_head G_Reader_take_head (hr.mono (by decide)) b_Reader_take_head .nil pass0 (pa_cons (pv 1) pa_nil)))) pss_nil)
    (pss_cons (ps_if (pt_cmpR op_eq (pv 1) pe_str (nomark _)) (pss_cons (ps_fldK K (pv 0) pe_bl rfl)
    (pss_one (ps_ret pe_bl))) pss_nil)
    (pss_cons (ps_if (pt_val (pe_m1 PySem.F.slot_str_startswith PySem.F.type_str_startswith mt_startswith (pv 1) pe_str)) (pss_one (ps_ret (pe_meth (pv 0) T.cl_Reader T.m_Reader_take_part G_Reader_take_part (hr.mono (by decide)) b_Reader_take_part .nil pass0 (pa_cons (pe_split (pe_slice sl_str (pv 1) (po_some (pe_callB call_len_str (by rfl) T.n_len (by decide +kernel) (pa_cons pe_str pa_nil))) po_none) pe_str) pa_nil)))) pss_nil)
    (pss_one (ps_ret (pe_and (pe_m1 PySem.F.slot_str_startswith PySem.F.type_str_startswith mt_startswith (pv 1) pe_str) (pe_one (pe_meth (pv 0) T.cl_Reader T.m_Reader_take_wire G_Reader_take_wire (hr.mono (by decide)) b_Reader_take_wire .nil pass0 (pa_cons (pe_split (pe_slice sl_str (pv 1) (po_some pe_int) po_none) pe_str) pa_nil))))))))), ?_⟩
    have hzl : z.length ≤ sizeLine := Nat.le_trans hz (by decide)
    have hsz := sizeLine_eq
    refine ⟨_, rfl, x, _, dx, _, _, rfl, hR.obj, T.cl_Reader, T.na_Reader_name, fsR_name, rfl, _, rfl, ?_⟩
    unfold takeR at k
    cases hn : r.name with
    | none =>
      rw [hn] at k
      refine iteT ⟨_, rfl, x, dx, _, rfl, hR.obj, (by kernel_rfl), _, rfl, x, dx, i, o, p, w', r, z, rfl, hR, hn, hz, k⟩
    | some nm =>
    rw [hn] at k
    refine iteF ?_
    walk_at "nx"
    dsimp only at k
    refine ⟨_, rfl, rfl, _, rfl, ?_⟩
    rw [dStr]
    by_cases he : z = "end"
    · rw [if_pos he] at k
      rw [decide_eq_true he]
      have ob := hR.obj
      have nT := hR.noT
      obtain ⟨n1, n2, n3⟩ := hR.ne
      refine iteT ⟨_, rfl, x, _, dx, _, rfl, ob, T.cl_Reader, T.na_Reader_is_done, (by show 6 < 1000; decide), ?_⟩
      rw [fsR_putd]
      have sl : SameL [x, p, w'] H (upd H x (.ins ad.C_Reader dx (fsR (nameV r.name) i o p w' true))) := sl_put (SameL.refl _ _) (by simp)
      refine k _ sl i o ⟨by rw [upd_same, hn], sl_sqt sl nT hR.ins, sl_sqt sl nT hR.outs, ?_, ?_⟩
      · obtain ⟨ys, hys, hdy⟩ := hR.parts
        exact ⟨ys, by rw [upd_ne n1.symm]; exact hys, sl_pairs sl nT hdy⟩
      · obtain ⟨ys, hys, hpy⟩ := hR.wires
        exact ⟨ys, by rw [upd_ne n2.symm]; exact hys, paired_imp (fun _ _ z => ⟨z.1, by
          obtain ⟨t, e, ht⟩ := z.2
          exact ⟨t, e, sl_sqt sl nT ht⟩⟩) hpy⟩
    rw [if_neg he] at k
    rw [decide_eq_false he]
    refine iteF ?_
    walk_at "nx"
    refine ⟨_, rfl, ⟨_, rfl⟩, z, "  part ", rfl, rfl, _, rfl, ?_⟩
    cases c1 : Txt.startswith z "  part " with
    | true =>
      rw [c1, if_pos rfl] at k
      have h7 : (("  part " : Str)).length = 7 := by decide +kernel
      have hcl := cutS_length z (some 7) none
      have hlens := split_lens (x := cutS z (some 7) none) (y := " = ") (by decide +kernel) (by decide +kernel)
      refine iteT ⟨_, rfl, x, dx, _, rfl, hR.obj, (by kernel_rfl), _, rfl, _, rfl, (by decide +kernel), _, rfl, z, rfl, hzl, ⟨_, rfl⟩, cutS z (some 7) none, " = ", ?_, rfl, (by decide +kernel), by omega, fun q hq => ?_⟩
      · rw [h7]
        rfl
      · have s1 : Same H (upd H q (.lst ((Txt.split (cutS z (some 7) none) " = ").map V.str))) := same_new hq
        exact ⟨x, dx, i, o, p, w', q, r, _, rfl, hR.same s1, hF, SqL.of upd_same, fun y hy => by have := hlens y hy; omega, fun H' s' => k H' ((sl_of s1).trans s')⟩
    | false =>
    rw [c1, if_neg (by decide)] at k
    refine iteF ?_
    walk_at "nx"
    refine ⟨_, rfl, ⟨_, rfl⟩, z, "  ", rfl, rfl, _, rfl, ?_⟩
    cases c2 : Txt.startswith z "  " with
    | false =>
      rw [c2, if_neg (by decide)] at k
      exact k _ (SameL.refl _ _)
    | true =>
      rw [c2, if_pos rfl] at k
      have hcl := cutS_length z (some 2) none
      have hlens := split_lens (x := cutS z (some 2) none) (y := " <- ") (by decide +kernel) (by decide +kernel)
      refine ⟨_, rfl, x, dx, _, rfl, hR.obj, (by kernel_rfl), _, rfl, _, rfl, z, rfl, hzl, ⟨_, rfl⟩, cutS z (some 2) none, " <- ", rfl, rfl, (by decide +kernel), by omega, fun q hq => ?_⟩
      have s1 : Same H (upd H q (.lst ((Txt.split (cutS z (some 2) none) " <- ").map V.str))) := same_new hq
      exact ⟨x, dx, i, o, p, w', q, r, _, rfl, hR.same s1, hF, SqL.of upd_same, fun y hy => by have := hlens y hy; omega, fun H' s' => k H' ((sl_of s1).trans s')⟩

/-! ### Block.__init__ for a Diagram -/
theorem sc_Block_init : FnScope ["self", "name", "inputs", "outputs"] ["self", "name", "inputs", "outputs"] (defScope s_Block_init) := ⟨rfl, rfl, rfl, by decide +kernel, rfl, by decide +kernel, by decide +kernel⟩
theorem ok_BID {f : Addr} {fd : FuncData} (F : Fun K "__init__" "Block.__init__" s_Block_init f fd) (T : Txt K w mg ad) : FnOk P w K mg base CX0 1 f fd ["self", "name", "inputs", "outputs"] (spBI K ad.C_Diagram) := by
  refine F.ok sc_Block_init (fun vs H Q E h => ?_) (fun cdv A outer s H vs Q E hr h => ?_)
  · obtain ⟨x, dx, i, o, n, xs, ys, rfl, _⟩ := h
    rfl
  · obtain ⟨x, dx, i, o, n, xs, ys, rfl, hx, hi, ho, k⟩ := h
    refine ⟨_, (pss_cons (ps_fldK K (pv 0) (pv 1) rfl)
    (pss_cons (ps_fldK K (pv 0) (pe_callTy (call_tupleK K) (by rfl) T.n_tuple (by decide +kernel) (pa_cons (pv 2) pa_nil)) rfl)
    (pss_one (ps_fldK K (pv 0) (pe_callTy (call_tupleK K) (by rfl) T.n_tuple (by decide +kernel) (pa_cons (pv 3) pa_nil)) rfl)))), ?_⟩
    have nt : ∀ (fs : List (Str × V)) (xs : List V), HO.ins ad.C_Diagram dx fs ≠ .tup xs := fun _ _ z => by cases z
    have nf : ∀ (fs : List (Str × V)) ob xs, HO.ins ad.C_Diagram dx fs ≠ .frz ob xs := fun _ _ _ z => by cases z
    refine ⟨_, rfl, _, rfl, x, _, dx, _, rfl, hx, T.cl_Diagram, T.na_Diagram_name, (by decide), ?_⟩
    rw [fsB_put1]
    have hx1 : upd H x (.ins ad.C_Diagram dx (fs1 n)) x = some (.ins ad.C_Diagram dx (fs1 n)) := upd_same
    have hi1 := sqt_upd (u := .ins ad.C_Diagram dx (fs1 n)) hi hx (nt _) (nf _)
    have ho1 := sqt_upd (u := .ins ad.C_Diagram dx (fs1 n)) ho hx (nt _) (nf _)
    refine ⟨_, rfl, _, _, rfl, .inr ⟨hi1, _, rfl, x, _, dx, _, rfl, hx1, T.cl_Diagram, T.na_Diagram_inputs, (by show 1 < 1000; decide), ?_⟩⟩
    rw [fsB_put2, upd_upd]
    have ho2 := sqt_upd (u := .ins ad.C_Diagram dx (fs2 n i)) ho hx (nt _) (nf _)
    refine ⟨_, rfl, _, _, rfl, .inr ⟨ho2, _, rfl, x, _, dx, _, rfl, upd_same, T.cl_Diagram, T.na_Diagram_outputs, (by show 2 < 1000; decide), ?_⟩⟩
    rw [fsB_put3, upd_upd]
    exact k

/-! ### Diagram.__init__ -/
theorem sc_Diagram_init : SupX.SScope ["self", "name", "inputs", "outputs", "parts", "wires", "position", "inner", "outer", "k", "part", "block", "target", "output", "row"] ["self", "name", "inputs", "outputs", "parts", "wires"] (defScope s_Diagram_init) := ⟨rfl, rfl, rfl, by decide +kernel, rfl, by decide +kernel, by decide +kernel, by decide +kernel, by decide +kernel, by decide +kernel⟩
theorem ok_DI {f cc cda : Addr} {fd fdB fdT : FuncData} (F : SupX.FunS P K mg "__init__" "Diagram.__init__" s_Diagram_init ad.C_Diagram f cc cda ad.f_Block_init "self" fd) (T : Txt K w mg ad) (G_B : FnOk P w K mg base CX0 1 ad.f_Block_init fdB ["self", "name", "inputs", "outputs"] (spBI K ad.C_Diagram)) (b_B : Binds K fdB ["self", "name", "inputs", "outputs"] [])
    (G_text_of : FnOk P w K mg base CX0 2 ad.f_text_of fdT ["name", "inputs", "outputs", "parts", "wires"] (spTextOf K)) (b_text_of : Binds K fdT ["name", "inputs", "outputs", "parts", "wires"] []) :
    FnOk P w K mg base CX0 3 f fd ["self", "name", "inputs", "outputs", "parts", "wires"] (spDI K ad.C_Diagram) := by
  refine F.ok (k := 2) (rest := (defBody s_Diagram_init).drop 1) sc_Diagram_init rfl rfl G_B (by decide) b_B (fun vs H Q E h => ?_) (fun A outer s H vs Q E hr h => ?_) (fun _ _ => rfl) (fun _ _ => rfl) (fun _ h => by unfold interactive; rw [h]; rfl) (fun _ _ => rfl) (fun _ _ => rfl)
  · obtain ⟨x, dx, i, o, p, w, n, r, rfl, _⟩ := h
    rfl
  · obtain ⟨x, dx, i, o, p, w', n, r, rfl, hx, hok, hnm, hi, ho, hp, hw, k⟩ := h
    refine ⟨x, dx, [], _, _, rfl, hx, (pa_cons (pv 1) (pa_cons (pv 2) (pa_cons (pv 3) pa_nil))), (pss_cons (ps_fldK K (pv 0) (pe_callTy (call_tupleK K) (by rfl) T.n_tuple (by decide +kernel) (pa_cons (pv 4) pa_nil)) rfl)
    (pss_cons (ps_set (i := 6) sc_Diagram_init.nd rfl (Or.inr rfl) (pe_dc (own := [("k", 9), ("part", 10), ("block", 11)]) rfl sc_Diagram_init.nd (pi_enumT K (by rfl) T.n_enumerate (pa_cons (pe_fldK K (pv 0) rfl) pa_nil)) (blkOk_by (own := [("k", 9), ("part", 10), ("block", 11)]) (N := ["self", "name", "inputs", "outputs", "parts", "wires", "position", "inner", "outer", "k", "part", "block", "target", "output", "row"]) (sc := defScope s_Diagram_init) (by decide +kernel)) (fun _ _ _ _ _ => (by exact (pg_tupK K (n := 2) (by rfl) (pgs_cons (pg_name (i := 9) sc_Diagram_init.nd rfl (Or.inl rfl)) (pgs_cons (pg_tupK K (n := 2) (by rfl) (pgs_cons (pg_name (i := 10) sc_Diagram_init.nd rfl (Or.inl rfl)) (pgs_cons (pg_name (i := 11) sc_Diagram_init.nd rfl (Or.inl rfl)) pgs_nil))) pgs_nil))))) (fun _ _ _ _ _ => pts_nil) (fun _ _ _ _ _ => (pv 10)) (fun _ _ _ _ _ => (pv 9))))
    (pss_cons (ps_set (i := 7) sc_Diagram_init.nd rfl (Or.inl rfl) (pe_callB (cr_sortedAt K) (by rfl) T.n_sorted (by decide +kernel) (pa_cons (pe_lock (pe_lc (own := [("target", 12)]) rfl sc_Diagram_init.nd (pi_keys (pv 5)) (blkOk_by (own := [("target", 12)]) (N := ["self", "name", "inputs", "outputs", "parts", "wires", "position", "inner", "outer", "k", "part", "block", "target", "output", "row"]) (sc := defScope s_Diagram_init) (by decide +kernel)) (fun _ _ _ _ _ => (pg_name (i := 12) sc_Diagram_init.nd rfl (Or.inl rfl))) (fun _ _ _ _ _ => (pts_one (pt_cmpR op_ne (pe_ix (ix_tupK K) (pv 12) pe_int (fun _ _ => rfl)) pe_str (nomark _)))) (fun _ _ _ _ _ => (pe_tup (pa_cons (pe_dget (hu_of hr) (pv 6) (pe_ix (ix_tupK K) (pv 12) pe_int (fun _ _ => rfl)) (fun _ _ => rfl)) (pa_cons (pe_ix (ix_tupK K) (pv 12) pe_int (fun _ _ => rfl)) (pa_cons (pv 12) pa_nil))))))) pa_nil)))
    (pss_cons (ps_setLc (i := 8) (own := [("output", 13)]) rfl sc_Diagram_init.nd rfl rfl (sw_true rfl rfl rfl (by decide +kernel)) (pi_tupK K (pe_fldK K (pv 0) rfl)) (blkOk_by (own := [("output", 13)]) (N := ["self", "name", "inputs", "outputs", "parts", "wires", "position", "inner", "outer", "k", "part", "block", "target", "output", "row"]) (sc := defScope s_Diagram_init) (by decide +kernel)) (fun _ _ _ _ _ => (pg_name (i := 13) sc_Diagram_init.nd rfl (Or.inl rfl))) (fun _ _ _ _ _ => (pts_one (pt_cmp (pc_din (hu_of hr) (pe_tup (pa_cons pe_str (pa_cons (pv 13) pa_nil))) (pv 5))))) (fun _ _ _ _ _ => (pe_tup (pa_cons pe_str (pa_cons (pv 13) pa_nil)))))
    (pss_cons (ps_fldK K (pv 0) (pe_callTy (call_tupleK K) (by rfl) T.n_tuple (by decide +kernel) (pa_cons (pe_lc (own := [("target", 12)]) rfl sc_Diagram_init.nd (pi_listK K (pe_op op_cat (pe_lc (own := [("row", 14)]) rfl sc_Diagram_init.nd (pi_listK K (pv 7)) (blkOk_by (own := [("row", 14)]) (N := ["self", "name", "inputs", "outputs", "parts", "wires", "position", "inner", "outer", "k", "part", "block", "target", "output", "row"]) (sc := defScope s_Diagram_init) (by decide +kernel)) (fun _ _ _ _ _ => (pg_name (i := 14) sc_Diagram_init.nd rfl (Or.inl rfl))) (fun _ _ _ _ _ => pts_nil) (fun _ _ _ _ _ => (pe_ix (ix_tupK K) (pv 14) pe_int (fun _ _ => rfl)))) (pv 8))) (blkOk_by (own := [("target", 12)]) (N := ["self", "name", "inputs", "outputs", "parts", "wires", "position", "inner", "outer", "k", "part", "block", "target", "output", "row"]) (sc := defScope s_Diagram_init) (by decide +kernel)) (fun _ _ _ _ _ => (pg_name (i := 12) sc_Diagram_init.nd rfl (Or.inl rfl))) (fun _ _ _ _ _ => pts_nil) (fun _ _ _ _ _ => (pe_tup (pa_cons (pv 12) (pa_cons (pe_dget (hu_of hr) (pv 5) (pv 12) (fun _ _ => rfl)) pa_nil))))) pa_nil)) rfl)
    (pss_one (ps_fldK K (pv 0) (pe_call G_text_of (hr.mono (by decide)) rfl T.g_text_of T.k_text_of b_text_of .nil pass0 (pa_cons (pe_fldK K (pv 0) rfl) (pa_cons (pe_fldK K (pv 0) rfl) (pa_cons (pe_fldK K (pv 0) rfl) (pa_cons (pe_fldK K (pv 0) rfl) (pa_cons (pe_fldK K (pv 0) rfl) pa_nil)))))) rfl))))))), ?_⟩
    refine ⟨_, rfl, _, rfl, _, rfl, x, dx, i, o, n, _, _, rfl, hx, hi, ho, ?_⟩
    obtain ⟨xs, hxs, hdp⟩ := hp
    obtain ⟨kvs, hws, hwp⟩ := hw
    have nx : NoT [x] H := fun b hb => by
      rw [List.mem_singleton.mp hb]
      exact noT_ins hx
    have npx : p ≠ x := fun e => by rw [e, hx] at hxs; cases hxs
    have nwx : w' ≠ x := fun e => by rw [e, hx] at hws; cases hws
    have nd := hok.nd
    have hsz := sizeLine_eq
    have hx1 : upd H x (.ins ad.C_Diagram dx (fsB n i o)) x = some (.ins ad.C_Diagram dx (fsB n i o)) := upd_same
    have s1 : SameX x H (upd H x (.ins ad.C_Diagram dx (fsB n i o))) := sx_put (sx_of (Same.refl H))
    revert hx1 s1
    generalize upd H x (.ins ad.C_Diagram dx (fsB n i o)) = H1
    intro hx1 s1
    refine ⟨_, rfl, p, _, rfl, .inl ⟨SqL.of (s1 _ _ npx hxs), fun t ht => ⟨_, rfl, x, _, dx, _, rfl, by rw [upd_ne (ne_of_none hx1 ht)]; exact hx1, T.cl_Diagram, T.na_Diagram_parts, (by show 3 < 1000; decide), ?_⟩⟩⟩
    rw [fsD_put4]
    have ntx : t ≠ x := (ne_of_none hx1 ht).symm
    have ht2 : upd (upd H1 t (.tup xs)) x (.ins ad.C_Diagram dx (fsD4 n i o t)) t = some (.tup xs) := by rw [upd_ne ntx, upd_same]
    have hx2 : upd (upd H1 t (.tup xs)) x (.ins ad.C_Diagram dx (fsD4 n i o t)) x = some (.ins ad.C_Diagram dx (fsD4 n i o t)) := upd_same
    have s2 : SameX x H (upd (upd H1 t (.tup xs)) x (.ins ad.C_Diagram dx (fsD4 n i o t))) := sx_put (sx_new s1 ht)
    revert ht2 hx2 s2
    generalize upd (upd H1 t (.tup xs)) x (.ins ad.C_Diagram dx (fsD4 n i o t)) = H2
    intro ht2 hx2 s2
    have l2 : SameL [x] H H2 := sl_sx s2 (by simp)
    have hdp2 := sl_pairs l2 nx hdp
    have hpl : xs.length = r.parts.length := by
      have := dps_len hdp
      rw [List.length_map] at this
      exact this
    walk_at "nx"
    -- the places
    refine asg (fun v H3 => ∃ D ks, v = .ref D ∧ Same H2 H3 ∧ H2 D = none ∧ H3 D = some (.dK ks) ∧ PosKV r.parts r.parts.length ks) (fun Q' q => ?_) ?_
    · refine ⟨_, rfl, x, _, dx, _, _, rfl, hx2, T.cl_Diagram, T.na_Diagram_parts, fsD4_parts, t, xs, rfl, SqT.of ht2, fun D hD => dc_it walk_enumT (fun i' H' => Same H2 H' ∧ ∃ ks, H' D = some (.dK ks) ∧ PosKV r.parts i' ks) ⟨same_new hD, [], upd_same, Nat.le_refl _, fun j q hj => absurd hj (Nat.not_lt_zero _)⟩ (fun i' H' _ h => SqT.of (h.1 _ _ ht2)) ?_ ?_⟩
      · rintro i' v H3 H4 hi' ⟨s3, ks, hks, hpk⟩ ⟨T', a, b, rfl, hT', rfl, e1, e2⟩
        obtain ⟨y, hy, hdy⟩ := dps_map hdp2 e2
        obtain ⟨c, rfl, hc⟩ := dp_pair_inv hdy
        cases e1
        refine ⟨T', _, rfl, SqT.of upd_same, rfl, _, _, rfl, _, _, rfl, c, _, rfl, same_sqt (s3.trans (same_new hT')) hc, rfl, _, _, rfl, _, _, rfl, rfl, rfl, rfl, ?_⟩
        dsimp only [tYes]
        refine iteT ⟨_, rfl, _, rfl, ks, Sum.inr y.1, rfl, by rw [upd_ne (ne_of_none hks hT')]; exact hks, ?_, same_mut (s3.trans (same_new hT')) hD, _, upd_same, posKV_put nd hpk hy⟩
        have := hpk.1
        have := hok.few.p
        omega
      · rintro H3 ⟨s3, ks, hks, hpk⟩
        rw [hpl] at hpk
        exact q _ _ ⟨D, ks, rfl, s3, hD, hks, hpk⟩
    rintro _ H3 ⟨D, ks, rfl, s3, hDn, hD3, hpk⟩
    dsimp only [gName]
    have s23 := s2.trans (sx_of s3)
    have l3 : SameL [x] H H3 := sl_sx s23 (by simp)
    have hw3 : H3 w' = some (.dT kvs) := s23 _ _ nwx hws
    have hwp3 : Paired (fun (x : Prt × Prt) (q : List Key × V) => q.1 = keyP x.1 ∧ ∃ t, q.2 = V.ref t ∧ SqT K H3 t [.str x.2.1, .str x.2.2]) r.wires kvs := paired_imp (fun _ _ z => ⟨z.1, by
        obtain ⟨t, e, ht⟩ := z.2
        exact ⟨t, e, sl_sqt l3 nx ht⟩⟩) hwp
    have hwl : kvs.length = r.wires.length := (paired_len hwp).symm
    have hfew := hok.few.w
    have htin : ∀ y ∈ r.wires, y.1.1 ≠ "" → y.1.1 ∈ r.parts.map (·.1) := fun y hy hne => (hok.w1 y hy).elim (fun z => absurd z.1 hne) (·.1)
    -- inner
    refine asg (fun v H4 => ∃ b inn ys, v = .ref b ∧ Same H3 H4 ∧ H3 b = none ∧ H4 b = some (.lst ys) ∧ inn.Perm ((r.wires.map (·.1)).filter fun t : Prt => !decide (t.1 = "")) ∧ SrtO.Srtd (fun x y => lexA (keyW r.parts x) (keyW r.parts y)) inn ∧ Paired (InnAt H4 r.parts) inn ys) (fun Q' q => ?_) ?_
    · refine ⟨w', _, hw3, True.intro, fun od => ⟨_, rfl, w', od, rfl, .inr ⟨kvs, upd_same, ?_⟩⟩⟩
      have hD3' : upd H3 w' (.frz od (.dT kvs)) D = some (.dK ks) := by
        rw [upd_ne (fun e => by rw [e, hw3] at hD3; cases hD3)]
        exact hD3
      have hf3 : upd H3 w' (.frz od (.dT kvs)) w' = some (.frz od (.dT kvs)) := upd_same
      have oth : ∀ b u, b ≠ w' → H3 b = some u → upd H3 w' (.frz od (.dT kvs)) b = some u := fun b u nb e => by rw [upd_ne nb]; exact e
      have fre : ∀ b, upd H3 w' (.frz od (.dT kvs)) b = none → H3 b = none := fun b e => by
        by_cases eb : b = w'
        · rw [eb, upd_same] at e
          cases e
        · rw [upd_ne eb] at e
          exact e
      revert hD3' hf3 oth fre
      generalize upd H3 w' (.frz od (.dT kvs)) = G
      intro hD3' hf3 oth fre
      intro E hE
      refine lc_it walk_keysT (fun i' H' => Same G H' ∧ ∃ vs, H' E = some (.lst vs) ∧ vs.length ≤ i' ∧ Paired (InnAt H' r.parts) (((r.wires.take i').map (·.1)).filter fun t : Prt => !decide (t.1 = "")) vs) ⟨same_new hE, [], upd_same, Nat.le_refl _, .nil⟩ (fun i' H' _ h => h.1 _ _ hf3) ?_ ?_
      · rintro i' v H4 H5 hi' ⟨s4, vs, hvs, hvl, hpv⟩ ⟨rfl, k', v', q', hk', rfl, hq'⟩
        obtain ⟨y, hy, e1, _⟩ := pl_get hwp3 hk'
        have e1' : k' = keyP y.1 := e1
        subst e1'
        have hq2 : SqT K H5 q' [.str y.1.1, .str y.1.2] := SqT.of hq'
        have htk : r.wires.take (i' + 1) = r.wires.take i' ++ [y] := by
          rw [List.take_add_one, hy]
          rfl
        refine ⟨rfl, _, rfl, q', _, _, _, rfl, rfl, hq2, atI_nat (j := 0) rfl, rfl, _, rfl, ?_⟩
        rw [dStr]
        by_cases ee : y.1.1 = ""
        · rw [decide_eq_true ee]
          refine iteF ⟨s4, vs, hvs, by omega, ?_⟩
          rw [htk, List.map_append, List.filter_append]
          simp only [List.map_cons, List.map_nil, List.filter_cons, ee, decide_true, Bool.not_true, Bool.false_eq_true, if_false, List.filter_nil, List.append_nil]
          exact hpv
        · rw [decide_eq_false ee]
          have hym := htin y (List.mem_of_getElem? hy) ee
          refine iteT ⟨_, rfl, _, rfl, q', _, _, _, rfl, rfl, hq2, atI_nat (j := 0) rfl, D, .int (posOf r.parts y.1.1 : Nat), rfl, ?_, _, rfl, q', _, _, _, rfl, rfl, hq2, atI_nat (j := 1) rfl, _, rfl, szl (show 3 ≤ 100000 by decide), fun a ha => ⟨vs, by rw [upd_ne (ne_of_none hvs ha)]; exact hvs, ?_, ?_⟩⟩
          · have := DGet.k (k := Sum.inr y.1.1) (s4 _ _ hD3')
            rw [posKV_at nd hpk hym] at this
            exact this
          · omega
          · have hE' : H5 E = some (.lst vs) := hvs
            have sa := same_new (o := .tup [.int (posOf r.parts y.1.1 : Nat), .str y.1.2, .ref q']) ha
            have hEa : upd H5 a (.tup [.int (posOf r.parts y.1.1 : Nat), .str y.1.2, .ref q']) E = some (.lst vs) := by rw [upd_ne (ne_of_none hvs ha)]; exact hvs
            have naE : a ≠ E := fun e => by rw [e] at ha; rw [ha] at hvs; cases hvs
            have nqE : q' ≠ E := fun e => by rw [e, hvs] at hq'; cases hq'
            have ev : ∀ b u, b ≠ E → H5 b = some u → upd (upd H5 a (.tup [.int (posOf r.parts y.1.1 : Nat), .str y.1.2, .ref q'])) E (.lst (vs ++ [.ref a])) b = some u := fun b u nb e => by
              rw [upd_ne nb]
              exact sa _ _ e
            refine ⟨same_mut (s4.trans sa) hE, _, upd_same, by rw [List.length_append, List.length_singleton]; omega, ?_⟩
            rw [htk, List.map_append, List.filter_append]
            simp only [List.map_cons, List.map_nil, List.filter_cons, ee, decide_false, Bool.not_false, if_true, List.filter_nil]
            refine paired_snoc (paired_imp (fun t v h => ?_) hpv) ⟨a, q', rfl, ?_, ev _ _ nqE hq'⟩
            · obtain ⟨a', q'', e, h1, h2⟩ := h
              exact ⟨a', q'', e, ev _ _ (fun e => by rw [e, hvs] at h1; cases h1) h1, ev _ _ (fun e => by rw [e, hvs] at h2; cases h2) h2⟩
            · rw [upd_ne naE, upd_same]
      · rintro H4 ⟨s4, vs, hvs, hvl, hpv⟩
        rw [hwl, List.take_length] at hpv
        have nEw : E ≠ w' := fun e => by rw [e, hf3] at hE; cases hE
        have fin : Same H3 (upd H4 w' (.dT kvs)) := fun b u e => by
          by_cases eb : b = w'
          · rw [eb] at e ⊢
            rw [upd_same, ← e, hw3]
          · rw [upd_ne eb]
            exact s4 _ _ (oth b u eb e)
        refine ⟨s4 _ _ hf3, ?_⟩
        have ndf : ((r.wires.map (·.1)).filter fun t : Prt => !decide (t.1 = ("" : Str))).Nodup := hok.wn.filter _
        have hpv' : Paired (InnAt (upd H4 w' (.dT kvs)) r.parts) ((r.wires.map (·.1)).filter fun t : Prt => !decide (t.1 = "")) vs := paired_imp (fun t v h => by
          obtain ⟨a', q'', e, h1, h2⟩ := h
          have hf4 := s4 _ _ hf3
          exact ⟨a', q'', e, by rw [upd_ne (fun e => by rw [e, hf4] at h1; cases h1)]; exact h1, by rw [upd_ne (fun e => by rw [e, hf4] at h2; cases h2)]; exact h2⟩) hpv
        refine rSort_inn (SqL.of (by rw [upd_ne nEw]; exact hvs)) hpv' ndf (fun t ht => ?_) fun inn ys b hperm hs hpy hb => ?_
        · obtain ⟨h1, h2⟩ := List.mem_filter.mp ht
          obtain ⟨y, hy, rfl⟩ := List.mem_map.mp h1
          exact htin y hy (by simpa using h2)
        · refine q _ _ ⟨b, inn, ys, rfl, fin.trans (same_new hb), fin.free hb, upd_same, hperm, hs, paired_imp (fun t v h => h.same (same_new hb)) hpy⟩
    rintro _ H4 ⟨b4, inn, ys, rfl, s4, hb4n, hb4, hperm, hsrt, hpy⟩
    dsimp only [gName]
    have s24 := s23.trans (sx_of s4)
    have l4 : SameL [x] H H4 := sl_sx s24 (by simp)
    have hw4 := s4 _ _ hw3
    have hx4 := s4 _ _ (s3 _ _ hx2)
    have ho4 := sl_sqt l4 nx ho
    have hil : inn.length ≤ 14000 := by
      have h1 := hperm.length_eq
      have h2 := List.length_filter_le (fun t : Prt => !decide (t.1 = "")) (r.wires.map (·.1))
      rw [List.length_map] at h2
      omega
    -- outer
    refine asg (fun v H5 => ∃ b os, v = .ref b ∧ Same H4 H5 ∧ H4 b = none ∧ H5 b = some (.lst os) ∧ os.length ≤ 8 ∧ Paired (TgtAt H5) (outerT r.outs r.wires) os) (fun Q' q => ?_) ?_
    · refine ⟨_, rfl, x, _, dx, _, _, rfl, hx4, T.cl_Diagram, T.na_Diagram_outputs, fsD4_outputs, o, rfl, ⟨_, ho4⟩, fun E hE => lc_tup (K := K) (a := o) (xs := r.outs.map V.str) (fun i' H' => Same H4 H' ∧ ∃ vs, H' E = some (.lst vs) ∧ vs.length ≤ i' ∧ Paired (TgtAt H') (((r.outs.take i').map fun y => (("" : Str), y)).filter fun t => decide (t ∈ r.wires.map (·.1))) vs) ⟨same_new hE, [], upd_same, Nat.le_refl _, .nil⟩ (fun i' H' _ h => same_sqt h.1 ho4) ?_ ?_⟩
      · rintro i' v H5 hv ⟨s5, vs, hvs, hvl, hpv⟩
        rw [List.getElem?_map] at hv
        cases ey : r.outs[i']? with
        | none => rw [ey] at hv; cases hv
        | some y =>
        rw [ey] at hv
        cases hv
        have hilt : i' < 8 := Nat.lt_of_lt_of_le (List.getElem?_eq_some_iff.mp ey).1 hok.o.1
        have htk : r.outs.take (i' + 1) = r.outs.take i' ++ [y] := by
          rw [List.take_add_one, ey]
          rfl
        refine ⟨rfl, _, rfl, szl (show 2 ≤ 100000 by decide), fun a ha => ⟨_, rfl, w', _, rfl, DGet.t (k := keyP ("", y)) (by rw [upd_ne (ne_of_none (s5 _ _ hw4) ha)]; exact s5 _ _ hw4) upd_same, _, rfl, ?_⟩⟩
        rw [wires_in hwp3]
        have sa := same_new (o := .tup [.str "", .str y]) ha
        have hEa : upd H5 a (.tup [.str "", .str y]) E = some (.lst vs) := sa _ _ hvs
        have hpva : Paired (TgtAt (upd H5 a (.tup [.str "", .str y]))) (((r.outs.take i').map fun y => (("" : Str), y)).filter fun t => decide (t ∈ r.wires.map (·.1))) vs := paired_imp (fun t v h => h.same sa) hpv
        have s6 := s5.trans sa
        revert hEa hpva s6
        generalize upd H5 a (.tup [.str "", .str y]) = H6
        intro hEa hpva s6
        by_cases hin : (("" : Str), y) ∈ r.wires.map (·.1)
        · rw [decide_eq_true hin]
          refine iteT ⟨_, rfl, szl (show 2 ≤ 100000 by decide), fun c hc => ⟨vs, by rw [upd_ne (ne_of_none hEa hc)]; exact hEa, by omega, ?_⟩⟩
          have sc := same_new (o := .tup [.str "", .str y]) hc
          have ncE : c ≠ E := fun e => by rw [e, hEa] at hc; cases hc
          refine ⟨same_mut (s6.trans sc) hE, _, upd_same, by rw [List.length_append, List.length_singleton]; omega, ?_⟩
          rw [htk, List.map_append, List.filter_append]
          simp only [List.map_cons, List.map_nil, List.filter_cons, hin, decide_true, if_true, List.filter_nil]
          refine paired_snoc (paired_imp (fun t v h => ?_) hpva) ⟨c, rfl, by rw [upd_ne ncE, upd_same]⟩
          obtain ⟨q'', e, h2⟩ := h
          exact ⟨q'', e, by rw [upd_ne (fun e => by rw [e, hEa] at h2; cases h2)]; exact sc _ _ h2⟩
        · rw [decide_eq_false hin]
          refine iteF ⟨s6, vs, hEa, by omega, ?_⟩
          rw [htk, List.map_append, List.filter_append]
          simp only [List.map_cons, List.map_nil, List.filter_cons, hin, decide_false, Bool.false_eq_true, if_false, List.filter_nil, List.append_nil]
          exact hpva
      · rintro H5 ⟨s5, vs, hvs, hvl, hpv⟩
        rw [List.length_map] at hvl hpv
        rw [List.take_length] at hpv
        exact q _ _ ⟨E, vs, rfl, s5, hE, hvs, Nat.le_trans hvl hok.o.1, hpv⟩
    rintro _ H5 ⟨b5, os, rfl, s5, hb5n, hb5, hol, hpo⟩
    dsimp only [gName]
    have hpy5 : Paired (InnAt H5 r.parts) inn ys := paired_imp (fun t v h => h.same s5) hpy
    have hb45 := s5 _ _ hb4
    have hyl : ys.length = inn.length := (paired_len hpy5).symm
    have hx5 := s5 _ _ hx4
    have hw5 := s5 _ _ hw4
    have l5 : SameL [x] H H5 := l4.trans (sl_of s5)
    have s25 := s24.trans (sx_of s5)
    -- the wires
    refine ⟨_, rfl, b4, rfl, ⟨_, SqL.of hb45⟩, fun E hE => lc_list (K := K) (a := b4) (xs := ys) (fun i' H' => Same H5 H' ∧ ∃ vs, H' E = some (.lst vs) ∧ vs.length ≤ i' ∧ Paired (TgtAt H5) (inn.take i') vs) ⟨same_new hE, [], upd_same, Nat.le_refl _, .nil⟩ (fun i' H' _ h => SqL.of (h.1 _ _ hb45)) ?_ ?_⟩
    · rintro i' v H6 hv ⟨s6, vs, hvs, hvl, hpv⟩
      obtain ⟨t', ht', hta⟩ := pl_get hpy5 hv
      obtain ⟨a, q', rfl, h1, h2⟩ := hta
      have hlt := (List.getElem?_eq_some_iff.mp hv).1
      refine ⟨rfl, ?_⟩
      dsimp only [tYes]
      refine iteT ⟨_, rfl, a, _, _, _, rfl, rfl, SqT.of (s6 _ _ h1), atI_nat (j := 2) rfl, vs, hvs, by omega, same_mut s6 hE, _, upd_same, by rw [List.length_append, List.length_singleton]; omega, ?_⟩
      rw [List.take_add_one, ht']
      exact paired_snoc hpv ⟨q', rfl, h2⟩
    rintro H6 ⟨s6, vs, hvs, hvl, hpv⟩
    rw [hyl, List.take_length] at hpv
    refine ⟨_, rfl, E, b5, vs, os, rfl, rfl, hvs, s6 _ _ hb5, by omega, fun c hc => ?_⟩
    have sc := s6.trans (same_new (o := .lst (vs ++ os)) hc)
    have hcc : upd H6 c (.lst (vs ++ os)) c = some (.lst (vs ++ os)) := upd_same
    have hpt : Paired (TgtAt (upd H6 c (.lst (vs ++ os)))) (inn ++ outerT r.outs r.wires) (vs ++ os) := paired_imp (fun t v h => h.same sc) (paired_app hpv hpo)
    revert sc hcc hpt
    generalize upd H6 c (.lst (vs ++ os)) = H7
    intro sc hcc hpt
    have hmem : ∀ t ∈ inn ++ outerT r.outs r.wires, t ∈ r.wires.map (·.1) := fun t ht => by
      rcases List.mem_append.mp ht with ht | ht
      · exact (List.mem_filter.mp (hperm.mem_iff.mp ht)).1
      · have := (List.mem_filter.mp ht).2
        simpa using this
    generalize hts : inn ++ outerT r.outs r.wires = ts at hpt hmem
    generalize hqs : vs ++ os = qs at hcc hpt
    have hql : qs.length ≤ 15000 := by
      rw [← hqs, List.length_append]
      omega
    have htl : ts.length = qs.length := paired_len hpt
    have hw7 := sc _ _ hw5
    have l7 : SameL [x] H H7 := l5.trans (sl_of sc)
    have hwp7 : Paired (fun (x : Prt × Prt) (q : List Key × V) => q.1 = keyP x.1 ∧ ∃ t, q.2 = V.ref t ∧ SqT K H7 t [.str x.2.1, .str x.2.2]) r.wires kvs := paired_imp (fun _ _ z => ⟨z.1, by
        obtain ⟨t, e, ht⟩ := z.2
        exact ⟨t, e, sl_sqt l7 nx ht⟩⟩) hwp
    refine ⟨c, rfl, ⟨_, SqL.of hcc⟩, fun G hG => lc_list (K := K) (a := c) (xs := qs) (fun i' H' => Same H7 H' ∧ ∃ vs, H' G = some (.lst vs) ∧ vs.length ≤ i' ∧ DpAll K H' vs ((ts.take i').map fun t => dWire (t, lookW r.wires t))) ⟨same_new hG, [], upd_same, Nat.le_refl _, .nil⟩ (fun i' H' _ h => SqL.of (h.1 _ _ hcc)) ?_ ?_⟩
    · rintro i' v H8 hv ⟨s8, ws, hws8, hwl8, hdw⟩
      obtain ⟨t', ht', q', rfl, hq'⟩ := pl_get hpt hv
      have hlt := (List.getElem?_eq_some_iff.mp hv).1
      obtain ⟨u, hu1, hu2⟩ := wires_get hwp7 (hmem t' (List.mem_of_getElem? ht'))
      have hq8 := s8 _ _ hq'
      refine ⟨rfl, ?_⟩
      dsimp only [tYes]
      refine iteT ⟨_, rfl, _, rfl, _, rfl, w', .ref u, rfl, ?_, szl (show 2 ≤ 100000 by decide), fun a ha => ⟨ws, by rw [upd_ne (ne_of_none hws8 ha)]; exact hws8, by omega, ?_⟩⟩
      · have := DGet.t (k := keyP t') (s8 _ _ hw7) hq8
        rw [hu1] at this
        exact this
      · have sa := same_new (o := .tup [.ref q', .ref u]) ha
        have hGa : upd H8 a (.tup [.ref q', .ref u]) G = some (.lst ws) := sa _ _ hws8
        have sG : SameL [G] (upd H8 a (.tup [.ref q', .ref u])) (upd (upd H8 a (.tup [.ref q', .ref u])) G (.lst (ws ++ [.ref a]))) := sl_put (SameL.refl _ _) (by simp)
        have nG : NoT [G] (upd H8 a (.tup [.ref q', .ref u])) := fun b hb => by
          rw [List.mem_singleton.mp hb]
          exact noT_lst hGa
        refine ⟨same_mut (s8.trans sa) hG, _, upd_same, by rw [List.length_append, List.length_singleton]; omega, ?_⟩
        rw [List.take_add_one, ht']
        rw [List.map_append]
        have hdw' : DpAll K H8 ws (((ts.take i').map fun t => (t, lookW r.wires t)).map dWire) := by rw [List.map_map]; exact hdw
        have hd2 := sl_wires sG nG (same_dps sa hdw')
        rw [List.map_map] at hd2
        exact dps_snoc hd2 (dp_wire (x := (t', lookW r.wires t')) (sl_sqt sG nG (SqT.of upd_same)) (sl_sqt sG nG (SqT.of (sa _ _ hq8))) (sl_sqt sG nG (same_sqt (s8.trans sa) hu2)))
    rintro H8 ⟨s8, ws, hws8, hwl8, hdw⟩
    rw [← htl, List.take_length] at hdw
    have hx8 := s8 _ _ (sc _ _ hx5)
    have s28 := s25.trans (sx_of (sc.trans s8))
    refine ⟨G, ws, rfl, .inl ⟨SqL.of hws8, fun w2 hw2 => ⟨_, rfl, x, _, dx, _, rfl, by rw [upd_ne (ne_of_none hx8 hw2)]; exact hx8, T.cl_Diagram, T.na_Diagram_wires, (by show 4 < 1000; decide), ?_⟩⟩⟩
    rw [fsD_put5]
    have nwx2 : w2 ≠ x := (ne_of_none hx8 hw2).symm
    have hx9 : upd (upd H8 w2 (.tup ws)) x (.ins ad.C_Diagram dx (fsD5 n i o t w2)) x = some (.ins ad.C_Diagram dx (fsD5 n i o t w2)) := upd_same
    have hw9 : upd (upd H8 w2 (.tup ws)) x (.ins ad.C_Diagram dx (fsD5 n i o t w2)) w2 = some (.tup ws) := by rw [upd_ne nwx2, upd_same]
    have sx9 : SameX x H8 (upd (upd H8 w2 (.tup ws)) x (.ins ad.C_Diagram dx (fsD5 n i o t w2))) := sx_put (sx_new (sx_of (Same.refl H8)) hw2)
    revert hx9 hw9 sx9
    generalize upd (upd H8 w2 (.tup ws)) x (.ins ad.C_Diagram dx (fsD5 n i o t w2)) = H9
    intro hx9 hw9 sx9
    have nx8 : NoT [x] H8 := fun b hb => by
      rw [List.mem_singleton.mp hb]
      exact noT_ins hx8
    have s29 := s28.trans sx9
    have l9 : SameL [x] H H9 := sl_sx s29 (by simp)
    have hord : IsOrd r.outs r.parts r.wires (ts.map fun t => (t, lookW r.wires t)) := ⟨inn, hperm, hsrt, by rw [hts]⟩
    have hi9 := sl_sqt l9 nx hi
    have ho9 := sl_sqt l9 nx ho
    have ht9 : H9 t = some (.tup xs) := sx9 _ _ ntx (s8 _ _ (sc _ _ (s5 _ _ (s4 _ _ (s3 _ _ ht2)))))
    have hp9 : Dp K H9 (.ref t) (.tuple (r.parts.map dPair)) := .tup (SqT.of ht9) (sl_pairs l9 nx hdp)
    have hdw' : DpAll K H8 ws ((ts.map fun t => (t, lookW r.wires t)).map dWire) := by rw [List.map_map]; exact hdw
    have hdw9 : Dp K H9 (.ref w2) (.tuple ((ts.map fun t => (t, lookW r.wires t)).map dWire)) := .tup (SqT.of hw9) (sl_wires (sl_sx sx9 (by simp)) nx8 hdw')
    refine ⟨_, rfl, x, _, dx, _, _, rfl, hx9, T.cl_Diagram, T.na_Diagram_name, fsD5_name, _, rfl, x, _, dx, _, _, rfl, hx9, T.cl_Diagram, T.na_Diagram_inputs, fsD5_inputs, _, rfl, x, _, dx, _, _, rfl, hx9, T.cl_Diagram, T.na_Diagram_outputs, fsD5_outputs,
      _, rfl, x, _, dx, _, _, rfl, hx9, T.cl_Diagram, T.na_Diagram_parts, fsD5_parts, _, rfl, x, _, dx, _, _, rfl, hx9, T.cl_Diagram, T.na_Diagram_wires, fsD5_wires, n, i, o, t, w2, r.ins, r.outs, r.parts, _, rfl, ord_short hok hnm hord, hi9, ho9, hp9, hdw9, fun H10 s10 => ?_⟩
    refine ⟨_, rfl, x, _, dx, _, rfl, s10 _ _ hx9, T.cl_Diagram, T.na_Diagram_text, (by show 5 < 1000; decide), ?_⟩
    rw [fsD_put6]
    have hx10 := s10 _ _ hx9
    have nx10 : NoT [x] H10 := fun b hb => by
      rw [List.mem_singleton.mp hb]
      exact noT_ins hx10
    generalize hzs : (ts.map fun t => (t, lookW r.wires t)) = zs at hdw9 hord hdw'
    have sl : SameL [x] H10 (upd H10 x (.ins ad.C_Diagram dx (fsD n i o t w2 (textOfD n r.ins r.outs r.parts zs)))) := sl_put (SameL.refl _ _) (by simp)
    have hp10 := same_dp s10 hp9
    have hw10 := same_dp s10 hdw9
    refine k _ zs (sx_put (s29.trans (sx_of s10))) hord ⟨dx, i, o, t, w2, upd_same, sl_sqt sl nx10 (same_sqt s10 hi9), sl_sqt sl nx10 (same_sqt s10 ho9), ?_, ?_⟩
    · obtain ⟨b, xs', e, h1, h2⟩ := dp_tup_inv hp10
      cases e
      exact .tup (sl_sqt sl nx10 h1) (sl_pairs sl nx10 h2)
    · obtain ⟨b, xs', e, h1, h2⟩ := dp_tup_inv hw10
      cases e
      exact .tup (sl_sqt sl nx10 h1) (sl_wires sl nx10 h2)

/-! ### InvalidText, Primitive.parse with the raise -/
theorem sc_InvalidText_init : FnScope ["self", "row"] ["self", "row"] (defScope s_InvalidText_init) := ⟨rfl, rfl, rfl, by decide +kernel, rfl, by decide +kernel, by decide +kernel⟩
theorem ok_ITI {f : Addr} {fd : FuncData} (F : Fun K "__init__" "InvalidText.__init__" s_InvalidText_init f fd) (T : Txt K w mg ad) : FnOk P w K mg base CX0 1 f fd ["self", "row"] (spXI ad.C_InvalidText "row") := by
  refine F.ok sc_InvalidText_init (fun vs H Q E h => ?_) (fun cdv A outer s H vs Q E hr h => ?_)
  · obtain ⟨a, v, rfl, _⟩ := h
    rfl
  · obtain ⟨a, v, rfl, ha, k⟩ := h
    refine ⟨_, (pss_one (ps_ost (pv 0) (pv 1))), ?_⟩
    exact ⟨_, rfl, _, rfl, a, ad.C_InvalidText, rfl, T.oex_InvalidText, T.no_InvalidText_row, .inl ⟨ha, fun dx hdx ne => k dx hdx ne⟩⟩

/-! ### Reader.result, Diagram.parse (of right texts), Diagram.__str__ -/
theorem sc_Reader_result : FnScope ["self"] ["self"] (defScope s_Reader_result) := ⟨rfl, rfl, rfl, by decide +kernel, rfl, by decide +kernel, by decide +kernel⟩
theorem ok_result {f : Addr} {fd fdI : FuncData} (F : Fun K "result" "Reader.result" s_Reader_result f fd) (T : Txt K w mg ad) (G_Diagram_init : FnOk P w K mg base CX0 3 ad.f_Diagram_init fdI ["self", "name", "inputs", "outputs", "parts", "wires"] (spDI K ad.C_Diagram)) (b_Diagram_init : Binds K fdI ["self", "name", "inputs", "outputs", "parts", "wires"] []) :
    FnOk P w K mg base CX0 5 f fd ["self"] (spResult K ad.C_Reader ad.C_Diagram) := by
  refine F.ok sc_Reader_result (fun vs H Q E h => ?_) (fun cdv A outer s H vs Q E hr h => ?_)
  · obtain ⟨x, dx, i, o, p, w, r, n, rfl, _⟩ := h
    rfl
  · obtain ⟨x, dx, i, o, p, w', r, n, rfl, hR, hok, hn, k⟩ := h
    refine ⟨_, (pss_one (ps_ret (pe_make T.mk_Diagram G_Diagram_init (hr.mono (by decide)) rfl T.g_Diagram b_Diagram_init .nil pass0 (pa_cons (pe_fldK K (pv 0) rfl) (pa_cons (pe_fldK K (pv 0) rfl) (pa_cons (pe_fldK K (pv 0) rfl) (pa_cons (pe_fldK K (pv 0) rfl) (pa_cons (pe_fldK K (pv 0) rfl) pa_nil)))))))), ?_⟩
    have ob := hR.obj
    rw [hn] at ob
    refine ⟨_, rfl, x, _, dx, _, _, rfl, ob, T.cl_Reader, T.na_Reader_name, fsR_name, _, rfl, x, _, dx, _, _, rfl, ob, T.cl_Reader, T.na_Reader_inputs, fsR_inputs, _, rfl, x, _, dx, _, _, rfl, ob, T.cl_Reader, T.na_Reader_outputs, fsR_outputs,
      _, rfl, x, _, dx, _, _, rfl, ob, T.cl_Reader, T.na_Reader_parts, fsR_parts, _, rfl, x, _, dx, _, _, rfl, ob, T.cl_Reader, T.na_Reader_wires, fsR_wires, ?_⟩
    intro y dy hy hdy ne
    have s1 : Same H (upd (upd H dy (.own y)) y (.ins ad.C_Diagram dy [])) := (same_new hdy).trans (same_new (by rw [upd_ne ne.symm]; exact hy))
    have hR1 := hR.same s1
    exact ⟨y, dy, i, o, p, w', n, r, rfl, upd_same, hok, hn, hR1.ins, hR1.outs, hR1.parts, hR1.wires, fun H' ws sx hord hD => ⟨rfl, k y H' ws (same_sx s1 sx hy) hy hord hD⟩⟩

theorem sc_Diagram_parse : FnScope ["cls", "text", "reader", "rows", "number", "row"] ["cls", "text"] (defScope s_Diagram_parse) := ⟨rfl, rfl, rfl, by decide +kernel, rfl, by decide +kernel, by decide +kernel⟩
theorem ok_dparseX {f : Addr} {fd fdI fdT fdR fdX : FuncData} (F : Fun K "parse" "Diagram.parse" s_Diagram_parse f fd) (T : Txt K w mg ad) (G_Reader_init : FnOk P w K mg base CX0 1 ad.f_Reader_init fdI ["self"] (spRI K ad.C_Reader)) (b_Reader_init : Binds K fdI ["self"] [])
    (G_Reader_take : FnOk P w K mg base CX0 6 ad.f_Reader_take fdT ["self", "row"] (spTakeRow K ad.C_Reader)) (b_Reader_take : Binds K fdT ["self", "row"] []) (G_Reader_result : FnOk P w K mg base CX0 5 ad.f_Reader_result fdR ["self"] (spResult K ad.C_Reader ad.C_Diagram)) (b_Reader_result : Binds K fdR ["self"] [])
    (G_InvalidText_init : FnOk P w K mg base CX0 1 ad.f_InvalidText_init fdX ["self", "row"] (spXI ad.C_InvalidText "row")) (b_InvalidText_init : Binds K fdX ["self", "row"] []) :
    FnOk P w K mg base (L2.CX P w) 7 f fd ["cls", "text"] (spDParse K ad.C_Diagram ad.C_InvalidText) := by
  refine F.okX sc_Diagram_parse (fun vs H Q E h => ?_) (fun cdv A outer s H vs Q E hr h => ?_)
  · obtain ⟨z, rfl, _⟩ := h
    rfl
  · obtain ⟨z, rfl, hz, kyes, kno⟩ := h
    refine ⟨_, (pss_cons (ps_set (i := 2) sc_Diagram_parse.nd rfl (Or.inl rfl) (pe_make0 T.mk_Reader G_Reader_init (hr.mono (by decide)) rfl T.g_Reader b_Reader_init .nil pass0))
    (pss_cons (ps_set (i := 3) sc_Diagram_parse.nd rfl (Or.inl rfl) (pe_split (pv 1) pe_str))
    (pss_cons (ps_for (passes_of rfl) rfl (pi_enum (by rfl) T.n_enumerate (pa_cons (pv 3) pa_nil)) (pg_tup (by rfl) (pgs_cons (pg_name (i := 4) sc_Diagram_parse.nd rfl (Or.inl rfl)) (pgs_cons (pg_name (i := 5) sc_Diagram_parse.nd rfl (Or.inl rfl)) pgs_nil)))
    (pss_one (ps_if (PW.pt (pw_or (pt_val (pe_fldK K (pv 2) rfl)) (pw_or1 (pt_not (pt_val (pe_meth (pv 2) T.cl_Reader T.m_Reader_take G_Reader_take (hr.mono (by decide)) b_Reader_take .nil pass0 (pa_cons (pv 5) pa_nil))))))) (pss_one (ps_raise rfl (takes_of rfl rfl rfl rfl) (pmk_oex T.oex_InvalidText T.in_InvalidText T.tf_InvalidText G_InvalidText_init (hr.mono (by decide)) b_InvalidText_init .nil pass0 rfl T.g_InvalidText (by exact (pa_cons (pv 4) pa_nil))))) pss_nil)))
    (pss_cons (ps_if (pt_not (pt_val (pe_fldK K (pv 2) rfl))) (pss_one (ps_raise rfl (takes_of rfl rfl rfl rfl) (pmk_oex T.oex_InvalidText T.in_InvalidText T.tf_InvalidText G_InvalidText_init (hr.mono (by decide)) b_InvalidText_init .nil pass0 rfl T.g_InvalidText (by exact (pa_cons (pe_callB (call_lenK K) (by rfl) T.n_len (by decide +kernel) (pa_cons (pv 3) pa_nil)) pa_nil))))) pss_nil)
    (pss_one (ps_ret (pe_meth0 (pv 2) T.cl_Reader T.m_Reader_result G_Reader_result (hr.mono (by decide)) b_Reader_result .nil pass0))))))), ?_⟩
    intro x dx hx hdx ne
    refine ⟨x, dx, rfl, upd_same, fun i o p w' H1 sx hpn hwn npw hR => ⟨rfl, ?_⟩⟩
    have s0 : Same H (upd (upd H dx (.own x)) x (.ins ad.C_Reader dx [])) := (same_new hdx).trans (same_new (by rw [upd_ne ne.symm]; exact hx))
    have s01 : Same H H1 := same_sx s0 sx hx
    have fr : ∀ b, upd (upd H dx (.own x)) x (.ins ad.C_Reader dx []) b = none → H b = none := fun b e => by
      cases e2 : H b with
      | none => rfl
      | some u => rw [s0 b u e2] at e; cases e
    have hxn : H x = none := hx
    have hpn' := fr p hpn
    have hwn' := fr w' hwn
    have hsz := sizeLine_eq
    have hzl := hz.len
    refine ⟨_, rfl, ⟨_, rfl⟩, z, "\n", rfl, rfl, (by decide +kernel), by omega, fun q hq => ?_⟩
    unfold parseR at kyes kno
    have hrows := hz.rows
    have hrow := hz.row
    generalize Txt.split z "\n" = rows at kyes kno hrows hrow
    have hq2 : upd H1 q (.lst (rows.map V.str)) q = some (.lst (rows.map V.str)) := upd_same
    have s2 : Same H1 (upd H1 q (.lst (rows.map V.str))) := same_new hq
    have nq : q ∉ [x, p, w'] := fun hb => by
      obtain ⟨ys, hys, _⟩ := hR.parts
      obtain ⟨ks, hks, _⟩ := hR.wires
      have hob := hR.obj
      rcases List.mem_cons.mp hb with e | hb
      · rw [e, hob] at hq; cases hq
      rcases List.mem_cons.mp hb with e | hb
      · rw [e, hys] at hq; cases hq
      rcases List.mem_cons.mp hb with e | hb
      · rw [e, hks] at hq; cases hq
      · cases hb
    have hR2 := hR.same s2
    have s02 := s01.trans s2
    revert hq2 s2 hR2 s02
    generalize upd H1 q (.lst (rows.map V.str)) = H2
    intro hq2 s2 hR2 s02
    walk_at "nx"
    have hsig : ∀ H', SameL [x, p, w'] H2 H' → Same H H' := fun H' sl => sl_same s02 sl fun a ha => by
      rcases List.mem_cons.mp ha with e | ha
      · rw [e]; exact hxn
      rcases List.mem_cons.mp ha with e | ha
      · rw [e]; exact hpn'
      rcases List.mem_cons.mp ha with e | ha
      · rw [e]; exact hwn'
      · cases ha
    refine ⟨_, rfl, q, _, rfl, SqL.of hq2, for_it walk_enum (fun i' σ H' => (∃ x4 x5 : Option V, σ = [some (.ref ad.C_Diagram), some (.str z), some (.ref x), some (.ref q), x4, x5]) ∧ SameL [x, p, w'] H2 H' ∧ ∃ ri ia oa, ReaderAt K ad.C_Reader H' x dx ia oa p w' ri ∧ RInv ri ∧ ri.wires.length ≤ i' ∧ loopR (rows.drop i') ri i' = loopR rows rs0 0) ⟨⟨none, none, rfl⟩, SameL.refl _ _, rs0, i, o, hR2, rinv0, Nat.le_refl _, rfl⟩ (fun i' σ H' _ h => SqL.of (h.2.1 _ _ nq hq2)) ?_ ?_⟩
    · rintro i' v σ H3 H4 hi' ⟨⟨x4, x5, rfl⟩, sl, ri, ia, oa, hRi, hinv, hwl, hlo⟩ ⟨T', a, b, rfl, hT', rfl, e1, e2⟩
      dsimp only at e1 e2
      rw [List.getElem?_map] at e2
      cases er : rows[i']? with
      | none => rw [er] at e2; cases e2
      | some row =>
      rw [er] at e2
      cases e2
      cases e1
      rw [List.length_map] at hi'
      have hdr : rows.drop i' = row :: rows.drop (i' + 1) := by
        rw [List.drop_eq_getElem_cons hi']
        congr 1
        exact Option.some.inj ((List.getElem?_eq_getElem hi').symm.trans er)
      rw [hdr] at hlo
      have hR4 := hRi.same (same_new (o := .tup [.int (i' : Nat), .str row]) hT')
      have sl4 := sl_new (o := .tup [.int (i' : Nat), .str row]) sl hT'
      refine ⟨T', _, rfl, SqT.of upd_same, rfl, _, _, rfl, _, _, rfl, rfl, ?_⟩
      dsimp only
      have ob := hR4.obj
      cases hdone : ri.done with
      | true =>
        rw [hdone] at ob
        refine ⟨_, rfl, x, _, dx, _, _, rfl, ob, T.cl_Reader, T.na_Reader_is_done, fsR_done, _, rfl, iteT ?_⟩
        have hlo' : loopR rows rs0 0 = .error i' := by
          rw [← hlo]
          show (if ri.done = true then _ else _) = _
          rw [hdone]
          rfl
        refine ⟨_, rfl, (show 1 ≤ 1000 by decide), fun a ha => ⟨a, .int (i' : Nat), rfl, upd_same, fun ex hex nee => ⟨rfl, ex, [("row", .int (i' : Nat))], upd_same, ?_, ?_, ?_⟩⟩⟩
        · rw [upd_ne nee]
          exact upd_same
        · have q := hex
          rw [upd_ne nee] at q
          exact q
        · have q := hex
          rw [upd_ne nee] at q
          exact kno i' hlo' ex _ ((hsig _ sl4).trans (same_exc ha q)) upd_same
      | false =>
      rw [hdone] at ob
      refine ⟨_, rfl, x, _, dx, _, _, rfl, ob, T.cl_Reader, T.na_Reader_is_done, fsR_done, _, rfl, iteF ?_⟩
      refine ⟨_, rfl, x, dx, _, rfl, ob, (by kernel_rfl), _, rfl, x, dx, ia, oa, p, w', ri, row, rfl, hR4, hinv.few, hrow row (List.mem_of_getElem? er), fun H5 s5 => ?_⟩
      cases ht : takeR ri row with
      | none =>
        dsimp only
        have hlo' : loopR rows rs0 0 = .error i' := by
          rw [← hlo]
          show (if ri.done = true then _ else _) = _
          rw [hdone, if_neg (by decide), ht]
        refine ⟨_, rfl, iteT ?_⟩
        refine ⟨_, rfl, (show 1 ≤ 1000 by decide), fun a ha => ⟨a, .int (i' : Nat), rfl, upd_same, fun ex hex nee => ⟨rfl, ex, [("row", .int (i' : Nat))], upd_same, ?_, ?_, ?_⟩⟩⟩
        · rw [upd_ne nee]
          exact upd_same
        · have q := hex
          rw [upd_ne nee] at q
          exact q
        · have q := hex
          rw [upd_ne nee] at q
          exact kno i' hlo' ex _ ((hsig _ (sl4.trans s5)).trans (same_exc ha q)) upd_same
      | some ri' =>
      dsimp only
      intro ib obb hR5
      obtain ⟨hinv', hwl'⟩ := takeR_inv hinv (by omega) ht
      refine ⟨_, rfl, iteF ?_⟩
      refine ⟨⟨_, _, rfl⟩, sl4.trans s5, ri', ib, obb, hR5, hinv', by omega, ?_⟩
      rw [← hlo]
      show _ = (if ri.done = true then _ else _)
      rw [hdone, if_neg (by decide), ht]
    · rintro σ H3 ⟨⟨x4, x5, rfl⟩, sl, ri, ia, oa, hRi, hinv, hwl, hlo⟩
      rw [List.length_map, List.drop_length] at hlo
      have ob := hRi.obj
      have sH := hsig H3 sl
      cases hd : ri.done with
      | false =>
        rw [hd] at ob
        have hlo' : loopR rows rs0 0 = .error rows.length := by
          rw [← hlo]
          show (if ri.done = true then _ else _) = _
          rw [hd]
          rfl
        refine ⟨_, rfl, x, _, dx, _, _, rfl, ob, T.cl_Reader, T.na_Reader_is_done, fsR_done, _, rfl, iteT ?_⟩
        refine ⟨_, rfl, q, _, rfl, .inl (SqL.of (sl _ _ nq hq2)), ?_⟩
        rw [List.length_map]
        refine ⟨(show 1 ≤ 1000 by decide), fun a ha => ⟨a, .int (rows.length : Nat), rfl, upd_same, fun ex hex nee => ⟨rfl, ex, [("row", .int (rows.length : Nat))], upd_same, ?_, ?_, ?_⟩⟩⟩
        · rw [upd_ne nee]
          exact upd_same
        · have q := hex
          rw [upd_ne nee] at q
          exact q
        · have q := hex
          rw [upd_ne nee] at q
          exact kno rows.length hlo' ex _ ((sH).trans (same_exc ha q)) upd_same
      | true =>
      rw [hd] at ob
      have hlo' : loopR rows rs0 0 = .ok ri := by
        rw [← hlo]
        show (if ri.done = true then _ else _) = _
        rw [hd]
        rfl
      refine ⟨_, rfl, x, _, dx, _, _, rfl, ob, T.cl_Reader, T.na_Reader_is_done, fsR_done, _, rfl, iteF ?_⟩
      walk_at "nx"
      cases hn : ri.name with
      | none =>
        have := (hinv.z hn).2.2
        rw [hd] at this
        cases this
      | some n =>
      exact ⟨_, rfl, x, dx, _, rfl, ob, (by kernel_rfl), x, dx, ia, oa, p, w', ri, n, rfl, hRi, hinv.toROk, hn, fun y H' ws s' hy hord hD => kyes ri hlo' y H' ws n hn (sH.trans s') (sH.free hy) hord hD⟩

/-! ### Diagram.__str__ -/
theorem sc_Diagram_str : FnScope ["self"] ["self"] (defScope s_Diagram_str) := ⟨rfl, rfl, rfl, by decide +kernel, rfl, by decide +kernel, by decide +kernel⟩
theorem ok_dstr {f : Addr} {fd : FuncData} (F : Fun K "__str__" "Diagram.__str__" s_Diagram_str f fd) (T : Txt K w mg ad) : FnOk P w K mg base CX0 1 f fd ["self"] (spDStr ad.C_Diagram) := by
  refine F.ok sc_Diagram_str (fun vs H Q E h => ?_) (fun cdv A outer s H vs Q E hr h => ?_)
  · obtain ⟨x, dx, n, i, o, p, w, t, rfl, _⟩ := h
    rfl
  · obtain ⟨x, dx, n, i, o, p, w, t, rfl, hx, ht, k⟩ := h
    refine ⟨_, (pss_one (ps_ret (pe_joined1 (pe_fmt (pe_fldK K (pv 0) rfl))))), ?_⟩
    exact ⟨_, rfl, x, _, dx, _, _, rfl, hx, T.cl_Diagram, T.na_Diagram_text, fsD_text, .inl ⟨t, rfl, ht, k⟩⟩



end
end K07

set_option maxRecDepth 100000
set_option maxHeartbeats 4000000

namespace K07
open PySem L2 Ly
local macro_rules | `(tactic| walk_at "nx") => `(tactic| dsimp only [tNext])
section
variable {P : Program} {w : World} {K : PySem.W.Frag} {mg : Str → Option Value} {base : Heap} {ad : Adr}
/-! ### the words -/
theorem sc_law_words : FnScope ["feed", "size", "letters", "first", "tail", "way", "found", "k", "sign", "name"] ["feed", "size"] (defScope s_law_words) := ⟨rfl, rfl, rfl, by decide +kernel, rfl, by decide +kernel, by decide +kernel⟩
theorem ok_words {f : Addr} {fd fdt : FuncData} (F : Fun K "_law_words" "_law_words" s_law_words f fd) (T : Txt K w mg ad) (G_law_take : FnOk P w K mg base CX0 1 ad.f_law_take fdt ["feed", "many"] spTake) (b_law_take : Binds K fdt ["feed", "many"] []) : FnOk P w K mg base CX0 2 f fd ["feed", "size"] spWords := by
  refine F.ok sc_law_words (fun vs H Q E h => ?_) (fun cdv A outer s H vs Q E hr h => ?_)
  · obtain ⟨p, n, a, b, rfl, _⟩ := h
    rfl
  · obtain ⟨p, n, a, b, rfl, hf, hn, k⟩ := h
    refine ⟨_, (pss_cons (ps_set (i := 2) sc_law_words.nd rfl (Or.inl rfl) pe_str)
    (pss_cons (ps_par (i := 3) (j := 4) (by rfl) sc_law_words.nd rfl rfl (by decide) rfl rfl (pa_cons (pe_call G_law_take (hr.mono (by decide)) rfl T.g__law_take T.k__law_take b_law_take .nil pass0 (pa_cons (pv 0) (pa_cons pe_int pa_nil))) (pa_cons (pe_op op_mulStr (pe_ix ix_str (pv 2) (pe_call G_law_take (hr.mono (by decide)) rfl T.g__law_take T.k__law_take b_law_take .nil pass0 (pa_cons (pv 0) (pa_cons pe_int pa_nil))) (fun _ _ => rfl)) (pe_call G_law_take (hr.mono (by decide)) rfl T.g__law_take T.k__law_take b_law_take .nil pass0 (pa_cons (pv 0) (pa_cons pe_int pa_nil)))) pa_nil)) (by rfl))
    (pss_cons (ps_set (i := 5) sc_law_words.nd rfl (Or.inl rfl) (pe_call G_law_take (hr.mono (by decide)) rfl T.g__law_take T.k__law_take b_law_take .nil pass0 (pa_cons (pv 0) (pa_cons pe_int pa_nil))))
    (pss_cons (ps_set (i := 6) sc_law_words.nd rfl (Or.inl rfl) (pe_lst pa_nil))
    (pss_cons (ps_for PassesOwn.never rfl (pi_range1 (by rfl) T.n_range (pa_cons (pv 1) pa_nil)) (pg_name (i := 7) sc_law_words.nd rfl (Or.inl rfl))
    (pss_cons (ps_set (i := 8) sc_law_words.nd rfl (Or.inl rfl) (pe_ix ix_str (pv 2) (pe_op op_mod (pe_op op_add (pv 3) (pe_op op_mul pe_int (pv 7))) pe_int) (fun _ _ => rfl)))
    (pss_cons (ps_set (i := 9) sc_law_words.nd rfl (Or.inl rfl) (pe_ix (ix_listK K) (pe_lst (pa_cons (pe_op op_add_str (pv 8) (pv 4)) (pa_cons (pe_op op_add_str (pv 4) (pv 8)) (pa_cons (pe_op op_add_str (pe_op op_mulStr pe_str (pe_op op_add pe_int (pe_op op_fdivW (pv 7) pe_int))) (pv 8)) pa_nil)))) (pv 5) (fun _ _ => rfl)))
    (pss_one (ps_expr (pe_bm PySem.F.plainAttrs_list PySem.F.slot_list_append PySem.F.type_list_append mt_append (pv 6) (pa_cons (pe_ifExp (pt_cmpR (op_in_seqK K) (pv 9) (pe_lst (pa_cons pe_str (pa_cons pe_str (pa_cons pe_str (pa_cons pe_str pa_nil))))) (by rfl)) (pe_op op_add_str pe_str (pv 8)) (pv 9)) pa_nil)))))))
    (pss_one (ps_ret (pv 6)))))))), ?_⟩
    have hl26 : (("abcdefghijklmnopqrstuvwxyz" : Str)).length ≤ sizeLine := by decide +kernel
    refine ⟨_, rfl, p, 26, a, b, rfl, hf, by decide, by decide, fun d1 a1 b1 h10 h11 hf1 => ⟨_, rfl, _, rfl, p, 26, a1, b1, rfl, hf1, by decide, by decide, fun d2 a2 b2 h20 h21 hf2 => ?_⟩⟩
    rw [upd_upd] at hf2 ⊢
    obtain ⟨d2, rfl⟩ := Int.eq_ofNat_of_zero_le h20
    have e2 := ltrs_at d2 (by omega)
    refine ⟨ltrs, _, 97 + d2, rfl, rfl, hl26, (atI_nat (j := d2) e2), _, rfl, p, 8, a2, b2, rfl, hf2, by decide, by decide, fun d3 a3 b3 h30 h31 hf3 => ?_⟩
    rw [upd_upd] at hf3 ⊢
    obtain ⟨d3, rfl⟩ := Int.eq_ofNat_of_zero_le h30
    refine ⟨_, (d3 : Nat), rfl, rfl, mulOk_small rfl (by omega), _, _, rfl, ?_⟩
    refine ⟨_, rfl, p, 3, a3, b3, rfl, hf3, by decide, by decide, fun d4 a4 b4 h40 h41 hf4 => ?_⟩
    rw [upd_upd] at hf4 ⊢
    obtain ⟨d4, rfl⟩ := Int.eq_ofNat_of_zero_le h40
    obtain ⟨d1, rfl⟩ := Int.eq_ofNat_of_zero_le h10
    have sx : SameX p H (upd H p (.lst [.int a4, .int b4])) := sx_put (sx_of (Same.refl H))
    revert hf4 sx
    generalize upd H p (.lst [.int a4, .int b4]) = H4
    intro hf4 sx
    refine ⟨szl (Nat.zero_le _), fun q hq => ?_⟩
    have nqp : q ≠ p := (ne_of_none hf4.1 hq).symm
    have hqH : H q = none := by
      cases e : H q with
      | none => rfl
      | some u => rw [sx q u nqp e] at hq; cases hq
    refine ⟨_, rfl, (n : Nat), rfl, by omega, by omega, for_range (lo := 0) (n := ((n : Nat) : Int).toNat) (fun i σ H' => Same H4 H' ∧ H' q = some (.lst ((wordsL d1 d3 (97 + d2) d4 i).map V.str)) ∧ ∃ x7 x8 x9 : Option V, σ = [some (.ref p), some (.int (n : Nat)), some (.str ltrs), some (.int (d1 : Nat)), some (.str (Txt.mul ⟨#[97 + d2]⟩ (d3 : Nat))), some (.int (d4 : Nat)), some (.ref q), x7, x8, x9]) ⟨same_new hq, upd_same, none, none, none, rfl⟩ ?_ ?_⟩
    · rintro i σ H5 hi ⟨s5, h5, x7, x8, x9, rfl⟩
      have hi' : i < n := by omega
      have hfk : ((d1 : Int) + 5 * (0 + (i : Nat))) % 26 = (((d1 + 5 * i) % 26 : Nat) : Int) := by omega
      have hlt : (d1 + 5 * i) % 26 < 26 := Nat.mod_lt _ (by decide)
      refine ⟨_, rfl, _, rfl, _, rfl, _, _, rfl, rfl, .inl (by omega), _, _, rfl, rfl, _, _, rfl, rfl, (by decide : (0 : Int) < 26), ltrs, _, 97 + (d1 + 5 * i) % 26, rfl, rfl, hl26, ?_, ?_⟩
      · have := atI_nat (j := (d1 + 5 * i) % 26) (ltrs_at _ hlt)
        rw [← hfk] at this
        exact this
      have hsg : (⟨#[97 + (d1 + 5 * i) % 26]⟩ : Str) = sgnS d1 i := rfl
      rw [hsg]
      have hlen1 : (sgnS d1 i).length = 1 := rfl
      have hmt : (Txt.mul ⟨#[97 + d2]⟩ (d3 : Nat)).length ≤ 7 := by
        rw [← sl_len, sl_mul, List.length_replicate]
        omega
      have hmq : (Txt.mul "q" ((1 + i / 6 : Nat) : Int)).length ≤ 4 := by
        rw [← sl_len, q_is, sl_mul, List.length_replicate]
        omega
      have hq6 : (1 : Int) + (0 + (i : Nat)) / 6 = ((1 + i / 6 : Nat) : Int) := by omega
      have la : ∀ x y : Str, (x ++ y : Str).length = x.length + y.length := fun x y => PySem.Str.length_append x y
      dsimp only [gName]
      refine asg (fun v H' => v = .str (wordS d1 d3 (97 + d2) d4 i) ∧ Same H5 H') (fun Q' k' => ?_) ?_
      · refine ⟨_, rfl, _, rfl, _, _, rfl, rfl, szl (by rw [hlen1]; omega), _, rfl, _, rfl, _, _, rfl, rfl, szl (by rw [hlen1]; omega), _, rfl, _, _, rfl, rfl, wide_div (b := 41) (by decide) (by decide) (by decide) (by decide), _, _, rfl, rfl, "q", ((1 + i / 6 : Nat) : Int), rfl, congrArg V.int hq6, mulOk_small (by decide +kernel) (by omega), _, rfl, _, _, rfl, rfl, szl (by rw [hlen1]; omega), szl (show 3 ≤ 100000 by decide), fun m hm => ⟨_, rfl, ?_⟩⟩
        have s6 := same_new (o := .lst [.str (sgnS d1 i ++ Txt.mul ⟨#[97 + d2]⟩ (d3 : Nat)), .str (Txt.mul ⟨#[97 + d2]⟩ (d3 : Nat) ++ sgnS d1 i), .str (Txt.mul "q" ((1 + i / 6 : Nat) : Int) ++ sgnS d1 i)]) hm
        refine ⟨m, _, _, .str (wordS d1 d3 (97 + d2) d4 i), rfl, rfl, SqL.of upd_same, ?_, k' _ _ ⟨rfl, s6⟩⟩
        refine atI_nat (j := d4) ?_
        have h3 : d4 < 3 := by omega
        match d4, h3 with
        | 0, _ => rfl
        | 1, _ => rfl
        | 2, _ => rfl
      rintro _ H6 ⟨rfl, s6⟩
      dsimp only [gName]
      have wok := word_ok (f := d1) (w := d4) (d := 97 + d2) (m := d3) (k := i) (by omega) (by omega) (by omega)
      have hnr := nameOk_res wok
      generalize hwd : wordS d1 d3 (97 + d2) d4 i = wd at wok hnr
      refine ⟨_, rfl, .inl ⟨rfl, _, SqL.of (s6 _ _ h5)⟩, _, rfl, szl (show 4 ≤ 100000 by decide), fun m hm => ⟨m, [("end" : Str), "part", "self", "block"].map V.str, rfl, .inl (SqL.of upd_same), rfl, rfl, _, rfl, ?_⟩⟩
      show if (if false = true then !inV (V.str wd) ([("end" : Str), "part", "self", "block"].map V.str) else inV (V.str wd) ([("end" : Str), "part", "self", "block"].map V.str)) = true then _ else _
      rw [inV_mem]
      have hnm : wd ∉ [("end" : Str), "part", "self", "block"] := fun hm => hnr (by
        revert hm
        unfold reserved
        simp only [List.mem_cons, List.not_mem_nil, or_false]
        intro hm
        rcases hm with h | h | h | h
        · exact .inr (.inr (.inl h))
        · exact .inr (.inl h)
        · exact .inr (.inr (.inr h))
        · exact .inl h)
      rw [decide_eq_false hnm]
      have h6 : upd H6 m (.lst ([("end" : Str), "part", "self", "block"].map V.str)) q = some (.lst ((wordsL d1 d3 (97 + d2) d4 i).map V.str)) := by
        rw [upd_ne (ne_of_none (s6 _ _ h5) hm)]
        exact s6 _ _ h5
      have s7 := (s5.trans s6).trans (same_new (o := .lst ([("end" : Str), "part", "self", "block"].map V.str)) hm)
      refine iteF ⟨_, rfl, q, _, _, rfl, rfl, h6, ?_, same_mut s7 hq, ?_, _, _, _, rfl⟩
      · unfold wordsL
        simp only [List.length_map, List.length_range]
        exact szt (by omega)
      · rw [upd_same]
        unfold wordsL
        rw [List.range_succ, List.map_append, List.map_append, ← hwd]
        rfl
    · rintro σ H5 ⟨s5, h5, x7, x8, x9, rfl⟩
      have en : ((n : Nat) : Int).toNat = n := Int.toNat_natCast n
      rw [en] at h5
      refine ⟨_, rfl, k q _ H5 a4 b4 hqH ?_ ?_ h5 ?_ ?_⟩
      · exact sx.trans (sx_of s5)
      · exact feed_same s5 hf4
      · unfold wordsL
        rw [List.length_map, List.length_range]
      · exact words_ok (by omega) (by omega) hn
theorem sc_law_block : FnScope ["feed", "words", "number", "plain", "some"] ["feed", "words"] (defScope s_law_block) := ⟨rfl, rfl, rfl, by decide +kernel, rfl, by decide +kernel, by decide +kernel⟩
theorem ok_block {f : Addr} {fd fdt fdp : FuncData} (F : Fun K "_law_block" "_law_block" s_law_block f fd) (T : Txt K w mg ad) (G_law_take : FnOk P w K mg base CX0 1 ad.f_law_take fdt ["feed", "many"] spTake) (b_law_take : Binds K fdt ["feed", "many"] [])
    (G_law_pick : FnOk P w K mg base CX0 2 ad.f_law_pick fdp ["feed", "some"] (spPick2 K)) (b_law_pick : Binds K fdp ["feed", "some"] []) : FnOk P w K mg base CX0 3 f fd ["feed", "words"] (spBlock K) := by
  refine F.ok sc_law_block (fun vs H Q E h => ?_) (fun cdv A outer s H vs Q E hr h => ?_)
  · obtain ⟨p, q, ws, a, b, rfl, _⟩ := h
    rfl
  · obtain ⟨p, q, ws, a, b, rfl, hf, hS, ne, h0, h1, hok, k⟩ := h
    refine ⟨_, (pss_cons (ps_set (i := 2) sc_law_block.nd rfl (Or.inl rfl) (pe_call G_law_pick (hr.mono (by decide)) rfl T.g__law_pick T.k__law_pick b_law_pick .nil pass0 (pa_cons (pv 0) (pa_cons (pe_lst (pa_cons pe_int (pa_cons pe_int (pa_cons pe_int (pa_cons (pe_call G_law_take (hr.mono (by decide)) rfl T.g__law_take T.k__law_take b_law_take .nil pass0 (pa_cons (pv 0) (pa_cons pe_int pa_nil))) pa_nil))))) pa_nil))))
    (pss_cons (ps_set (i := 3) sc_law_block.nd rfl (Or.inl rfl) (pe_lst (pa_cons pe_str (pa_cons pe_str (pa_cons pe_str (pa_cons pe_str (pa_cons pe_str (pa_cons pe_str (pa_cons pe_str pa_nil)))))))))
    (pss_cons (ps_set (i := 4) sc_law_block.nd rfl (Or.inl rfl) (pe_lst (pa_cons (pe_op op_add_str pe_str (pe_callTy call_str_int (by rfl) T.n_str (by decide +kernel) (pa_cons (pv 2) pa_nil))) (pa_cons (pe_op op_add_str pe_str (pe_callTy call_str_int (by rfl) T.n_str (by decide +kernel) (pa_cons (pv 2) pa_nil))) (pa_cons (pe_call G_law_pick (hr.mono (by decide)) rfl T.g__law_pick T.k__law_pick b_law_pick .nil pass0 (pa_cons (pv 0) (pa_cons (pv 3) pa_nil))) pa_nil)))))
    (pss_one (ps_ret (pe_call G_law_pick (hr.mono (by decide)) rfl T.g__law_pick T.k__law_pick b_law_pick .nil pass0 (pa_cons (pv 0) (pa_cons (pe_op op_cat (pv 4) (pe_lst (pa_cons (pe_op op_add_str pe_str (pe_slice sl_str (pe_call G_law_pick (hr.mono (by decide)) rfl T.g__law_pick T.k__law_pick b_law_pick .nil pass0 (pa_cons (pv 0) (pa_cons (pv 1) pa_nil))) po_none (po_some pe_int))) pa_nil))) pa_nil)))))))), ?_⟩
    -- number
    refine asg (fun v H' => ∃ z, v = .int z ∧ R32 z ∧ SameX p H H' ∧ ∃ a b, FeedAt H' p a b) (fun Q' q => ?_) ?_
    · refine ⟨_, rfl, _, rfl, p, _, a, b, rfl, hf, by decide, by decide, fun d1 a1 b1 h1 h1' hf1 => ⟨szl (show 4 ≤ 100000 by decide), fun l hl => ?_⟩⟩
      have nl : l ≠ p := (ne_of_none hf1.1 hl).symm
      refine .inl ⟨p, l, _, a1, b1, rfl, feed_new hf1 hl, SqL.of upd_same, nl, by show 0 < 4; decide, by show 4 ≤ 1000; decide, fun v a2 b2 hv hf2 => ?_⟩
      have s3 : SameX p H _ := sx_put (o := .lst [V.int a2, .int b2]) (sx_new (o := .lst [V.int 0, .int 1, .int 4294967295, .int d1]) (sx_put (o := .lst [V.int a1, .int b1]) (sx_of (Same.refl H))) hl)
      have h1'' : d1 < 4294967296 := h1'
      simp only [List.mem_cons, List.not_mem_nil, or_false] at hv
      rcases hv with rfl | rfl | rfl | rfl
      all_goals first | exact q _ _ ⟨_, rfl, ⟨h1, h1''⟩, s3, _, _, hf2⟩ | exact q _ _ ⟨_, rfl, ⟨by decide, by decide⟩, s3, _, _, hf2⟩
    rintro _ H2 ⟨nu, rfl, hnu, s2, a2, b2, hf2⟩
    have hnO := okT_num hnu.1 (by have := hnu.2; omega : nu < 10 ^ 10)
    have hnl := hnO.ln
    have hlog : nu.natAbs.log2 < 1920 := r32_log hnu
    have h6 : ("const " : Str).length = 6 ∧ ("delay " : Str).length = 6 := by decide +kernel
    dsimp only [gName]
    refine ⟨szl (show 7 ≤ 100000 by decide), fun pl hpl => ?_⟩
    have hpl2 : upd H2 pl (.lst (plain7.map V.str)) pl = some (.lst (plain7.map V.str)) := upd_same
    have npl : pl ≠ p := (ne_of_none hf2.1 hpl).symm
    have hf3 := feed_new (o := .lst (plain7.map V.str)) hf2 hpl
    have s3 := sx_new (o := .lst (plain7.map V.str)) s2 hpl
    dsimp only [gName]
    have epl : ([V.str "add", .str "sub", .str "mul", .str "less", .str "equal", .str "pick", .str "divide"] : List V) = plain7.map V.str := rfl
    rw [epl]
    revert hpl2 hf3 s3
    generalize upd H2 pl (.lst (plain7.map V.str)) = H3
    intro hpl2 hf3 s3
    -- some
    refine asg (fun v H9 => ∃ (t : Addr) (ts : List Str), v = .ref t ∧ SameX p H H9 ∧ H9 t = some (.lst (ts.map V.str)) ∧ t ≠ p ∧ ts.length = 3 ∧ (∀ z ∈ ts, blockOk z = true) ∧ ∃ a b, FeedAt H9 p a b) (fun Q9 q => ?_) ?_
    · refine ⟨_, rfl, nu, rfl, hlog, _, _, rfl, rfl, szl (by omega), _, rfl, nu, rfl, hlog, _, _, rfl, rfl, szl (by omega), _, rfl, _, rfl, .inl ⟨p, pl, _, a2, b2, rfl, hf3, SqL.of hpl2, npl, by show 0 < 7; decide, by show 7 ≤ 1000; decide, fun v a4 b4 hv hf4 => ⟨szl (show 3 ≤ 100000 by decide), fun t ht => ?_⟩⟩⟩
      obtain ⟨z, hz, rfl⟩ := List.mem_map.mp hv
      refine q _ _ ⟨t, ["const " ++ Str.ofString (toString nu), "delay " ++ Str.ofString (toString nu), z], rfl, sx_new (sx_put s3) ht, upd_same, (ne_of_none hf4.1 ht).symm, rfl, fun y hy => ?_, _, _, feed_new hf4 ht⟩
      rcases List.mem_cons.mp hy with rfl | hy
      · rw [tx_const]
        exact blk_prim (pt_const hnu)
      rcases List.mem_cons.mp hy with rfl | hy
      · rw [tx_delay]
        exact blk_prim (pt_delay hnu)
      · rw [List.mem_singleton.mp hy]
        exact blk_plain z hz
    rintro _ H4 ⟨t, ts, rfl, s4, htx, ntp, htl, htb, a4, b4, hf4⟩
    dsimp only [gName]
    have hS4 : SqL K H4 q (ws.map V.str) := by
      rcases hS with (hS | ⟨ob, hS⟩) | hS
      · exact .inl (.inl (s4 _ _ ne hS))
      · exact .inl (.inr ⟨ob, s4 _ _ ne hS⟩)
      · exact .inr hS
    refine ⟨_, rfl, _, rfl, _, rfl, _, rfl, .inl ⟨p, q, _, a4, b4, rfl, hf4, hS4, ne, by rw [List.length_map]; exact h0, by rw [List.length_map]; exact h1, fun v a5 b5 hv hf5 => ?_⟩⟩
    obtain ⟨y, hy, rfl⟩ := List.mem_map.mp hv
    have hyo := hok y hy
    have hyl := (nameOk_len hyo).2
    have hcl := cutS_length y none (some 7)
    obtain ⟨z1, z2⟩ := z_ok hyo
    have lz : (("z" : Str)).length = 1 := by decide +kernel
    refine ⟨_, rfl, y, rfl, szl (by omega), _, _, rfl, rfl, szl (by omega), szl (show 1 ≤ 100000 by decide), fun l hl => ?_⟩
    have htx5 : upd H4 p (.lst [V.int a5, .int b5]) t = some (.lst (ts.map V.str)) := by rw [upd_ne ntp]; exact htx
    refine ⟨t, l, ts.map V.str, [.str ("z" ++ cutS y none (some 7))], rfl, rfl, by rw [upd_ne (ne_of_none htx5 hl)]; exact htx5, upd_same, szl (by rw [List.length_map, htl]; show 3 + 1 ≤ 100000; decide), fun m hm => ?_⟩
    have hf6 := feed_new (o := .lst (ts.map V.str ++ [.str ("z" ++ cutS y none (some 7))])) (feed_new (o := .lst [.str ("z" ++ cutS y none (some 7))]) hf5 hl) hm
    have nmp : m ≠ p := (ne_of_none (feed_new (o := .lst [.str ("z" ++ cutS y none (some 7))]) hf5 hl).1 hm).symm
    have s6 : SameX p H _ := sx_new (o := .lst (ts.map V.str ++ [.str ("z" ++ cutS y none (some 7))])) (sx_new (o := .lst [.str ("z" ++ cutS y none (some 7))]) (sx_put (o := .lst [V.int a5, .int b5]) s4) hl) hm
    refine .inl ⟨p, m, _, a5, b5, rfl, hf6, SqL.of upd_same, nmp, by simp, by simp only [List.length_append, List.length_map, List.length_singleton]; omega, fun v a7 b7 hv hf7 => ?_⟩
    rcases List.mem_append.mp hv with hv | hv
    · obtain ⟨z, hz, rfl⟩ := List.mem_map.mp hv
      exact k z _ a7 b7 (sx_put s6) hf7 (htb z hz)
    · rw [List.mem_singleton.mp hv]
      exact k _ _ a7 b7 (sx_put s6) hf7 (blk_name ⟨z1, z2⟩)
theorem sc_law_port : FnScope ["port"] ["port"] (defScope s_law_port) := ⟨rfl, rfl, rfl, by decide +kernel, rfl, by decide +kernel, by decide +kernel⟩
theorem ok_lport {f : Addr} {fd : FuncData} (F : Fun K "_law_port" "_law_port" s_law_port f fd) (T : Txt K w mg ad) : FnOk P w K mg base CX0 1 f fd ["port"] (spPortText K) := by
  refine F.ok sc_law_port (fun vs H Q E h => ?_) (fun cdv A outer s H vs Q E hr h => ?_)
  · obtain ⟨a, p, rfl, _⟩ := h
    rfl
  · obtain ⟨a, p, rfl, hS, h1, h2, k⟩ := h
    refine ⟨_, (pss_one (ps_ret (pe_ifExp (pt_cmpR op_eq (pe_ix (ix_tupK K) (pv 0) pe_int (fun _ _ => rfl)) pe_str (nomark _)) (pe_ix (ix_tupK K) (pv 0) pe_int (fun _ _ => rfl)) (pe_op op_add_str (pe_op op_add_str (pe_ix (ix_tupK K) (pv 0) pe_int (fun _ _ => rfl)) pe_str) (pe_ix (ix_tupK K) (pv 0) pe_int (fun _ _ => rfl)))))), ?_⟩
    have hd : (("." : Str)).length = 1 := by decide +kernel
    refine ⟨_, rfl, a, _, _, _, rfl, rfl, hS, atI_nat (j := 0) rfl, rfl, _, rfl, ite2 (fun z => ?_) (fun z => ?_)⟩
    · have e : p.1 = "" := dstr ▸ z
      refine ⟨_, rfl, a, _, _, _, rfl, rfl, hS, atI_nat (j := 1) rfl, ?_⟩
      unfold portText at k
      rw [if_pos e] at k
      exact k
    · have e : ¬ p.1 = "" := dstr ▸ z
      refine ⟨_, rfl, a, _, _, _, rfl, rfl, hS, atI_nat (j := 0) rfl, _, _, rfl, rfl, szl (by omega), _, rfl, a, _, _, _, rfl, rfl, hS, atI_nat (j := 1) rfl, _, _, rfl, rfl, szl (by rw [PySem.Str.length_append]; omega), ?_⟩
      unfold portText at k
      rw [if_neg e] at k
      exact k
theorem sc_law_diagram : FnScope ["feed", "words", "inputs", "outputs", "at", "parts", "ports", "targets", "part", "block", "wires", "target", "sources", "word", "name", "port"] ["feed", "words"] (defScope s_law_diagram) := ⟨rfl, rfl, rfl, by decide +kernel, rfl, by decide +kernel, by decide +kernel⟩
theorem ok_draw {f : Addr} {fd fdt fdp fdb : FuncData} (F : Fun K "_law_diagram" "_law_diagram" s_law_diagram f fd) (T : Txt K w mg ad) (G_law_take : FnOk P w K mg base CX0 1 ad.f_law_take fdt ["feed", "many"] spTake) (b_law_take : Binds K fdt ["feed", "many"] [])
    (G_law_pick : FnOk P w K mg base CX0 2 ad.f_law_pick fdp ["feed", "some"] (spPick2 K)) (b_law_pick : Binds K fdp ["feed", "some"] []) (G_law_block : FnOk P w K mg base CX0 3 ad.f_law_block fdb ["feed", "words"] (spBlock K)) (b_law_block : Binds K fdb ["feed", "words"] []) : FnOk P w K mg base CX0 4 f fd ["feed", "words"] (spDraw K) := by
  refine F.ok sc_law_diagram (fun vs H Q E h => ?_) (fun cdv A outer s H vs Q E hr h => ?_)
  · obtain ⟨p, q, ws, a, b, rfl, _⟩ := h
    rfl
  · obtain ⟨p, q, wd, a, b, rfl, hf, hS, nqp, hwl, hwo, k⟩ := h
    refine ⟨_, (pss_cons (ps_par (i := 2) (j := 3) (by rfl) sc_law_diagram.nd rfl rfl (by decide) rfl rfl (pa_cons (pe_slice (sl_listK K) (pv 1) po_none (po_some (pe_call G_law_take (hr.mono (by decide)) rfl T.g__law_take T.k__law_take b_law_take .nil pass0 (pa_cons (pv 0) (pa_cons pe_int pa_nil))))) (pa_cons (pe_slice (sl_listK K) (pv 1) (po_some pe_int) (po_some (pe_op op_add pe_int (pe_call G_law_take (hr.mono (by decide)) rfl T.g__law_take T.k__law_take b_law_take .nil pass0 (pa_cons (pv 0) (pa_cons pe_int pa_nil)))))) pa_nil)) (by rfl))
    (pss_cons (ps_set (i := 4) sc_law_diagram.nd rfl (Or.inl rfl) (pe_call G_law_pick (hr.mono (by decide)) rfl T.g__law_pick T.k__law_pick b_law_pick .nil pass0 (pa_cons (pv 0) (pa_cons (pe_lst (pa_cons pe_int (pa_cons pe_int (pa_cons pe_int (pa_cons pe_int pa_nil))))) pa_nil))))
    (pss_cons (ps_setLc (i := 5) (own := [("word", 13)]) rfl sc_law_diagram.nd rfl rfl (sw_true rfl rfl rfl (by decide +kernel)) (pi_listK K (pe_slice (sl_listK K) (pv 1) (po_some (pv 4)) (po_some (pe_op op_add (pv 4) (pe_call G_law_take (hr.mono (by decide)) rfl T.g__law_take T.k__law_take b_law_take .nil pass0 (pa_cons (pv 0) (pa_cons pe_int pa_nil))))))) (blkOk_by (own := [("word", 13)]) (N := ["feed", "words", "inputs", "outputs", "at", "parts", "ports", "targets", "part", "block", "wires", "target", "sources", "word", "name", "port"]) (sc := defScope s_law_diagram) (by decide +kernel)) (fun _ _ _ _ _ => (pg_name (i := 13) sc_law_diagram.nd rfl (Or.inl rfl))) (fun _ _ _ _ _ => pts_nil) (fun _ _ _ _ _ => (pe_tup (pa_cons (pv 13) (pa_cons (pe_call G_law_block (hr.mono (by decide)) rfl T.g__law_block T.k__law_block b_law_block .nil pass0 (pa_cons (pv 0) (pa_cons (pv 1) pa_nil))) pa_nil)))))
    (pss_cons (ps_set (i := 6) sc_law_diagram.nd rfl (Or.inr rfl) (pe_callB (cr_sortedSS w rfl) (by rfl) T.n_sorted (by decide +kernel) (pa_cons (pe_callTy (cr_setS K w rfl) (by rfl) T.n_set (by decide +kernel) (pa_cons (pe_lst (pa_cons pe_str (pa_cons pe_str (pa_cons pe_str (pa_cons pe_str (pa_cons pe_str (pa_cons pe_str (pa_cons (pe_ix (ix_listK K) (pv 1) pe_int (fun _ _ => rfl)) (pa_cons (pe_ix (ix_listK K) (pv 1) pe_int (fun _ _ => rfl)) pa_nil))))))))) pa_nil)) pa_nil)))
    (pss_cons (ps_setLc (i := 7) (own := [("name", 14)]) rfl sc_law_diagram.nd rfl rfl (sw_true rfl rfl rfl (by decide +kernel)) (pi_listK K (pv 3)) (blkOk_by (own := [("name", 14)]) (N := ["feed", "words", "inputs", "outputs", "at", "parts", "ports", "targets", "part", "block", "wires", "target", "sources", "word", "name", "port"]) (sc := defScope s_law_diagram) (by decide +kernel)) (fun _ _ _ _ _ => (pg_name (i := 14) sc_law_diagram.nd rfl (Or.inl rfl))) (fun _ _ _ _ _ => pts_nil) (fun _ _ _ _ _ => (pe_tup (pa_cons pe_str (pa_cons (pv 14) pa_nil)))))
    (pss_cons (ps_for PassesOwn.never rfl (pi_listK K (pv 5)) (pg_tup (by rfl) (pgs_cons (pg_name (i := 8) sc_law_diagram.nd rfl (Or.inr rfl)) (pgs_cons (pg_name (i := 9) sc_law_diagram.nd rfl (Or.inl rfl)) pgs_nil)))
    (pss_one (ps_set (i := 7) sc_law_diagram.nd rfl (Or.inl rfl) (pe_op op_cat (pv 7) (pe_lc (own := [("port", 15)]) rfl sc_law_diagram.nd (pi_listK K (pe_slice (sl_listK K) (pv 6) po_none (po_some (pe_call G_law_take (hr.mono (by decide)) rfl T.g__law_take T.k__law_take b_law_take .nil pass0 (pa_cons (pv 0) (pa_cons pe_int pa_nil)))))) (blkOk_by (own := [("port", 15)]) (N := ["feed", "words", "inputs", "outputs", "at", "parts", "ports", "targets", "part", "block", "wires", "target", "sources", "word", "name", "port"]) (sc := defScope s_law_diagram) (by decide +kernel)) (fun _ _ _ _ _ => (pg_name (i := 15) sc_law_diagram.nd rfl (Or.inl rfl))) (fun _ _ _ _ _ => pts_nil) (fun _ _ _ _ _ => (pe_tup (pa_cons (pv 8) (pa_cons (pv 15) pa_nil)))))))))
    (pss_cons (ps_set (i := 10) sc_law_diagram.nd rfl (Or.inl rfl) pe_dnewT)
    (pss_cons (ps_for PassesOwn.never rfl (pi_listK K (pv 7)) (pg_name (i := 11) sc_law_diagram.nd rfl (Or.inl rfl))
    (pss_cons (ps_setLc (i := 12) (own := [("name", 14)]) rfl sc_law_diagram.nd rfl rfl (sw_true rfl rfl rfl (by decide +kernel)) (pi_listK K (pv 2)) (blkOk_by (own := [("name", 14)]) (N := ["feed", "words", "inputs", "outputs", "at", "parts", "ports", "targets", "part", "block", "wires", "target", "sources", "word", "name", "port"]) (sc := defScope s_law_diagram) (by decide +kernel)) (fun _ _ _ _ _ => (pg_name (i := 14) sc_law_diagram.nd rfl (Or.inl rfl))) (fun _ _ _ _ _ => pts_nil) (fun _ _ _ _ _ => (pe_tup (pa_cons pe_str (pa_cons (pv 14) pa_nil)))))
    (pss_cons (ps_set (i := 12) sc_law_diagram.nd rfl (Or.inl rfl) (pe_op op_cat (pv 12) (pe_lc (own := [("part", 8)]) rfl sc_law_diagram.nd (pi_listK K (pv 5)) (blkOk_by (own := [("part", 8)]) (N := ["feed", "words", "inputs", "outputs", "at", "parts", "ports", "targets", "part", "block", "wires", "target", "sources", "word", "name", "port"]) (sc := defScope s_law_diagram) (by decide +kernel)) (fun _ _ _ _ _ => (pg_name (i := 8) sc_law_diagram.nd rfl (Or.inl rfl))) (fun _ _ _ _ _ => pts_nil) (fun _ _ _ _ _ => (pe_tup (pa_cons (pe_ix (ix_tupK K) (pv 8) pe_int (fun _ _ => rfl)) (pa_cons (pe_call G_law_pick (hr.mono (by decide)) rfl T.g__law_pick T.k__law_pick b_law_pick .nil pass0 (pa_cons (pv 0) (pa_cons (pv 6) pa_nil))) pa_nil)))))))
    (pss_one (ps_if (PW.pt (pw_and (pt_cmpR (op_neDK K hr.units) (pv 12) (pe_lst pa_nil) (nomark _)) (pw_and1 (pt_cmpR op_gt (pe_call G_law_take (hr.mono (by decide)) rfl T.g__law_take T.k__law_take b_law_take .nil pass0 (pa_cons (pv 0) (pa_cons pe_int pa_nil))) pe_int (nomark _))))) (pss_one (ps_dput (hu_of hr) (pv 10) (pv 11) (pe_call G_law_pick (hr.mono (by decide)) rfl T.g__law_pick T.k__law_pick b_law_pick .nil pass0 (pa_cons (pv 0) (pa_cons (pv 12) pa_nil))) rfl)) pss_nil)))))
    (pss_one (ps_ret (pe_tup (pa_cons (pe_op op_add_str pe_str (pe_slice sl_str (pe_ix (ix_listK K) (pv 1) pe_int (fun _ _ => rfl)) po_none (po_some pe_int))) (pa_cons (pe_callTy (call_tupleK K) (by rfl) T.n_tuple (by decide +kernel) (pa_cons (pv 2) pa_nil)) (pa_cons (pe_callTy (call_tupleK K) (by rfl) T.n_tuple (by decide +kernel) (pa_cons (pv 3) pa_nil)) (pa_cons (pe_callTy (call_tupleK K) (by rfl) T.n_tuple (by decide +kernel) (pa_cons (pv 5) pa_nil)) (pa_cons (pv 10) pa_nil)))))))))))))))), ?_⟩
    have hsz := sizeLine_eq
    have upS : ∀ {H1 : Hp} {l : Addr} {xs : List V}, SameX p H H1 → l ≠ p → SqL K H l xs → SqL K H1 l xs := fun s n h => by
      rcases h with (h | ⟨ob, h⟩) | h
      · exact .inl (.inl (s _ _ n h))
      · exact .inl (.inr ⟨ob, s _ _ n h⟩)
      · exact .inr h
    refine ⟨_, rfl, _, rfl, p, 4, a, b, rfl, hf, by decide, by decide, fun d1 a1 b1 h10 h11 hf1 => ?_⟩
    have s1 : SameX p H (upd H p (.lst [.int a1, .int b1])) := sx_put (sx_of (Same.refl H))
    revert hf1 s1
    generalize upd H p (.lst [.int a1, .int b1]) = H1
    intro hf1 s1
    obtain ⟨d1, rfl⟩ := Int.eq_ofNat_of_zero_le h10
    refine ⟨_, rfl, q, _, rfl, upS s1 nqp hS, fun il hil => ?_⟩
    rw [cut_hi V.str wd (by omega)]
    have nilp : il ≠ p := (ne_of_none hf1.1 hil).symm
    have hil2 : upd H1 il (.lst ((wd.take d1).map V.str)) il = some (.lst ((wd.take d1).map V.str)) := upd_same
    have hf2 := feed_new (o := .lst ((wd.take d1).map V.str)) hf1 hil
    have s2 := sx_new (o := .lst ((wd.take d1).map V.str)) s1 hil
    revert hil2 hf2 s2
    generalize upd H1 il (.lst ((wd.take d1).map V.str)) = H2
    intro hil2 hf2 s2
    refine ⟨_, rfl, _, rfl, _, rfl, p, 4, a1, b1, rfl, hf2, by decide, by decide, fun d2 a2 b2 h20 h21 hf3 => ?_⟩
    have s3 : SameX p H2 (upd H2 p (.lst [.int a2, .int b2])) := sx_put (sx_of (Same.refl H2))
    revert hf3 s3
    generalize upd H2 p (.lst [.int a2, .int b2]) = H3
    intro hf3 s3
    obtain ⟨d2, rfl⟩ := Int.eq_ofNat_of_zero_le h20
    have hil3 := s3 _ _ nilp hil2
    refine ⟨_, _, rfl, rfl, _, rfl, q, _, rfl, upS (s2.trans s3) nqp hS, fun ol hol => ?_⟩
    have e42 : (4 : Int) + (d2 : Nat) = ((4 + d2 : Nat) : Int) := by omega
    have ecut : cutV (wd.map V.str) (some 4) (some ((4 : Int) + (d2 : Nat))) = ((wd.drop 4).take d2).map V.str := by
      rw [e42]
      have := cut_lo V.str wd (a := 4) (b := 4 + d2) (by omega) (by omega)
      rw [show 4 + d2 - 4 = d2 by omega] at this
      exact this
    rw [ecut]
    refine ⟨_, _, rfl, ?_⟩
    have nolp : ol ≠ p := (ne_of_none hf3.1 hol).symm
    generalize hins : wd.take d1 = ins at hil3
    generalize houts : (wd.drop 4).take d2 = outs
    have hol4 : upd H3 ol (.lst (outs.map V.str)) ol = some (.lst (outs.map V.str)) := upd_same
    have hil4 : upd H3 ol (.lst (outs.map V.str)) il = some (.lst (ins.map V.str)) := by rw [upd_ne (ne_of_none hil3 hol)]; exact hil3
    have hf4 := feed_new (o := .lst (outs.map V.str)) hf3 hol
    have s4 := sx_new (o := .lst (outs.map V.str)) (s2.trans s3) hol
    revert hol4 hil4 hf4 s4
    generalize upd H3 ol (.lst (outs.map V.str)) = H4
    intro hol4 hil4 hf4 s4
    walk_at "nx"
    -- at
    refine asg (fun v H' => ∃ z : Nat, v = .int (z : Nat) ∧ z ≤ 8 ∧ SameX p H4 H' ∧ ∃ a b, FeedAt H' p a b) (fun Q' q' => ?_) ?_
    · refine ⟨_, rfl, szl (show 4 ≤ 100000 by decide), fun l hl => .inl ⟨p, l, _, _, _, rfl, feed_new hf4 hl, SqL.of upd_same, (ne_of_none hf4.1 hl).symm, by show 0 < 4; decide, by show 4 ≤ 1000; decide, fun v a5 b5 hv hf5 => ?_⟩⟩
      have s5 : SameX p H4 _ := sx_put (o := .lst [V.int a5, .int b5]) (sx_new (o := .lst [V.int 8, .int 8, .int 0, .int 4]) (sx_of (Same.refl H4)) hl)
      simp only [List.mem_cons, List.not_mem_nil, or_false] at hv
      rcases hv with rfl | rfl | rfl | rfl
      · exact q' _ _ ⟨8, rfl, by decide, s5, _, _, hf5⟩
      · exact q' _ _ ⟨8, rfl, by decide, s5, _, _, hf5⟩
      · exact q' _ _ ⟨0, rfl, by decide, s5, _, _, hf5⟩
      · exact q' _ _ ⟨4, rfl, by decide, s5, _, _, hf5⟩
    rintro _ H5 ⟨z, rfl, hz8, s5, a5, b5, hf5⟩
    dsimp only [gName]
    have hil5 := s5 _ _ nilp hil4
    have hol5 := s5 _ _ nolp hol4
    have s05 := s4.trans s5
    -- parts
    refine asg (fun v H' => ∃ (pl : Addr) (vs : List V) (ps : List Prt), v = .ref pl ∧ SameX p H5 H' ∧ (∃ a b, FeedAt H' p a b) ∧ pl ≠ p ∧ H' pl = some (.lst vs) ∧ Paired (PartAt H') ps vs ∧ ps.length ≤ 4 ∧ (∀ q ∈ ps, nameOk q.1 = true ∧ blockOk q.2 = true) ∧ (ps.map (·.1)).Nodup) (fun Q' q' => ?_) ?_
    · refine ⟨_, rfl, _, rfl, _, rfl, _, rfl, _, rfl, p, 5, a5, b5, rfl, hf5, by decide, by decide, fun d3 a6 b6 h30 h31 hf6 => ?_⟩
      have s6 : SameX p H5 (upd H5 p (.lst [.int a6, .int b6])) := sx_put (sx_of (Same.refl H5))
      revert hf6 s6
      generalize upd H5 p (.lst [.int a6, .int b6]) = H6
      intro hf6 s6
      obtain ⟨d3, rfl⟩ := Int.eq_ofNat_of_zero_le h30
      refine ⟨_, _, rfl, rfl, _, rfl, q, _, rfl, upS (s05.trans s6) nqp hS, fun wl hwl' => ?_⟩
      have ecut2 : cutV (wd.map V.str) (some (z : Nat)) (some ((z : Int) + (d3 : Nat))) = ((wd.drop z).take d3).map V.str := by
        have e := cut_lo V.str wd (a := z) (b := z + d3) (by omega) (by omega)
        rw [show z + d3 - z = d3 by omega] at e
        rw [show (z : Int) + (d3 : Nat) = ((z + d3 : Nat) : Int) by omega]
        exact e
      rw [ecut2]
      have hpw : ∀ y ∈ (wd.drop z).take d3, nameOk y = true := fun y hy => hwo.1 y (List.mem_of_mem_drop (List.mem_of_mem_take hy))
      have hpwn : ((wd.drop z).take d3).Nodup := (hwo.2.sublist (List.drop_sublist z wd)).sublist (List.take_sublist d3 _)
      have hpwl : ((wd.drop z).take d3).length ≤ 4 := by rw [List.length_take]; omega
      generalize (wd.drop z).take d3 = pw at hpw hpwn hpwl
      have nwlp : wl ≠ p := (ne_of_none hf6.1 hwl').symm
      have hwl7 : upd H6 wl (.lst (pw.map V.str)) wl = some (.lst (pw.map V.str)) := upd_same
      have hf7 := feed_new (o := .lst (pw.map V.str)) hf6 hwl'
      have s7 := sx_new (o := .lst (pw.map V.str)) s6 hwl'
      revert hwl7 hf7 s7
      generalize upd H6 wl (.lst (pw.map V.str)) = H7
      intro hwl7 hf7 s7
      refine ⟨wl, rfl, ⟨_, SqL.of hwl7⟩, fun D hD => lc_list (K := K) (a := wl) (xs := pw.map V.str) (fun i H' => SameX p H7 H' ∧ (∃ a b, FeedAt H' p a b) ∧ ∃ vs ps, H' D = some (.lst vs) ∧ vs.length ≤ i ∧ Paired (PartAt H') ps vs ∧ ps.map (·.1) = pw.take i ∧ ∀ q ∈ ps, blockOk q.2 = true) ⟨sx_new (sx_of (Same.refl H7)) hD, ⟨_, _, feed_new hf7 hD⟩, [], [], upd_same, Nat.le_refl _, .nil, rfl, fun q hq => (by cases hq)⟩ (fun i H' _ h => SqL.of (h.1 _ _ nwlp hwl7)) ?_ ?_⟩
      · rintro i x H8 hx ⟨s8, ⟨a8, b8, hf8⟩, vs, ps, hvs, hvl, hpp, hpm, hpb⟩
        rw [List.getElem?_map] at hx
        cases ey : pw[i]? with
        | none => rw [ey] at hx; cases hx
        | some y =>
        rw [ey] at hx
        cases hx
        have hi4 : i < 4 := Nat.lt_of_lt_of_le (List.getElem?_eq_some_iff.mp ey).1 hpwl
        have nDp : D ≠ p := (ne_of_none hf7.1 hD).symm
        have s57 := s05.trans s7
        refine ⟨rfl, ?_⟩
        dsimp only [tYes]
        refine iteT ⟨_, rfl, _, rfl, _, rfl, p, q, wd, a8, b8, rfl, hf8, upS (s57.trans s8) nqp hS, nqp, by omega, by omega, hwo.1, fun z' H9 a9 b9 s9 hf9 hz' => ⟨szl (show 2 ≤ 100000 by decide), fun a ha => ?_⟩⟩
        have hvs9 := s9 _ _ nDp hvs
        have sa := same_new (o := .tup [.str y, .str z']) ha
        have hpp9 : Paired (PartAt (upd H9 a (.tup [.str y, .str z']))) ps vs := paired_imp (fun t v h => (h.sx s9 (feed_nt hf8)).same sa) hpp
        have hDa : upd H9 a (.tup [.str y, .str z']) D = some (.lst vs) := sa _ _ hvs9
        have naD : a ≠ D := fun e => by rw [e, hvs9] at ha; cases ha
        have hfa := feed_new (o := .tup [.str y, .str z']) hf9 ha
        refine ⟨vs, hDa, by omega, ?_, ⟨a9, b9, by rw [upd_ne nDp.symm]; exact hfa.1, hfa.2⟩, _, ps ++ [(y, z')], upd_same, by rw [List.length_append, List.length_singleton]; omega, ?_, ?_, ?_⟩
        · intro b u nb e
          by_cases eb : b = D
          · subst eb
            rw [hD] at e
            cases e
          · rw [upd_ne eb]
            exact sa _ _ (s9 _ _ nb (s8 _ _ nb e))
        · have sD : SameX D (upd H9 a (.tup [.str y, .str z'])) (upd (upd H9 a (.tup [.str y, .str z'])) D (.lst (vs ++ [.ref a]))) := sx_put (sx_of (Same.refl _))
          exact paired_snoc (paired_imp (fun t v h => h.sx sD (lst_nt hDa)) hpp9) ⟨a, rfl, by rw [upd_ne naD, upd_same]⟩
        · rw [List.map_append, hpm, List.take_add_one, ey]
          rfl
        · intro q hq
          rcases List.mem_append.mp hq with hq | hq
          · exact hpb q hq
          · rw [List.mem_singleton.mp hq]
            exact hz'
      · rintro H8 ⟨s8, hfe, vs, ps, hvs, hvl, hpp, hpm, hpb⟩
        rw [List.length_map, List.take_length] at hpm
        have hpl' : ps.length = pw.length := by rw [← hpm, List.length_map]
        refine q' _ _ ⟨D, vs, ps, rfl, s7.trans s8, hfe, (ne_of_none hf7.1 hD).symm, hvs, hpp, by omega, fun q hq => ⟨hpw q.1 (by rw [← hpm]; exact List.mem_map.mpr ⟨q, hq, rfl⟩), hpb q hq⟩, by rw [hpm]; exact hpwn⟩
    rintro _ H6 ⟨pl, pvs, ps, rfl, s6, ⟨a6, b6, hf6⟩, nplp, hpl, hpp, hpn, hpo, hpnd⟩
    dsimp only [gName]
    have s06 := s05.trans s6
    have hil6 := s6 _ _ nilp hil5
    have hol6 := s6 _ _ nolp hol5
    have hS6 := upS s06 nqp hS
    have g0 : (wd.map V.str)[0]? = some (.str wd[0]) := by simp
    have g12 : (wd.map V.str)[12]? = some (.str wd[12]) := by simp
    -- ports
    refine asg (fun v H' => ∃ (pt : Addr) (po : List Str), v = .ref pt ∧ Same H6 H' ∧ H6 pt = none ∧ H' pt = some (.lst (po.map V.str)) ∧ po.length ≤ 8 ∧ 0 < po.length ∧ (∀ y ∈ po, nameOk y = true) ∧ po.Nodup) (fun Q' q' => ?_) ?_
    · refine ⟨_, rfl, q, _, 0, _, rfl, rfl, hS6, atI_nat (j := 0) g0, _, rfl, q, _, 12, _, rfl, rfl, hS6, atI_nat (j := 12) g12, szl (show 8 ≤ 100000 by decide), fun l hl => ?_⟩
      refine ⟨l, ["in", "a", "b", "c", "out", "rest", wd[0], wd[12]], rfl, SqL.of upd_same, (by show 8 ≤ 2000; decide), fun st hst => ⟨st, _, rfl, upd_same, fun ys pt hperm hsrt hpt => ?_⟩⟩
      have hm : ∀ y ∈ ys, y ∈ (["in", "a", "b", "c", "out", "rest", wd[0], wd[12]] : List Str) := fun y hy => ded_mem.mp (hperm.mem_iff.mp hy)
      have sN : Same H6 _ := ((same_new (o := .lst ((["in", "a", "b", "c", "out", "rest", wd[0], wd[12]] : List Str).map V.str)) hl).trans (same_new (o := SetSO w st (dedS ["in", "a", "b", "c", "out", "rest", wd[0], wd[12]])) hst)).trans (same_new (o := .lst (ys.map V.str)) hpt)
      have hin : ("in" : Str) ∈ ys := hperm.mem_iff.mpr (ded_mem.mpr List.mem_cons_self)
      refine q' _ _ ⟨pt, ys, rfl, sN, ((same_new (o := .lst ((["in", "a", "b", "c", "out", "rest", wd[0], wd[12]] : List Str).map V.str)) hl).trans (same_new (o := SetSO w st (dedS ["in", "a", "b", "c", "out", "rest", wd[0], wd[12]])) hst)).free hpt, upd_same, ?_, List.length_pos_of_mem hin, fun y hy => ?_, hperm.nodup_iff.mpr (ded_nodup _)⟩
      · have h1 := ded_len ["in", "a", "b", "c", "out", "rest", wd[0], wd[12]]
        have h2 := hperm.length_eq
        have h3 : (["in", "a", "b", "c", "out", "rest", wd[0], wd[12]] : List Str).length = 8 := rfl
        omega
      · have hy' := hm y hy
        have hc : ∀ y ∈ (["in", "a", "b", "c", "out", "rest"] : List Str), nameOk y = true := by decide +kernel
        have : y ∈ (["in", "a", "b", "c", "out", "rest"] : List Str) ++ [wd[0], wd[12]] := hy'
        rcases List.mem_append.mp this with h | h
        · exact hc y h
        · simp only [List.mem_cons, List.not_mem_nil, or_false] at h
          rcases h with rfl | rfl
          · exact hwo.1 _ (List.getElem_mem _)
          · exact hwo.1 _ (List.getElem_mem _)
    rintro _ H7 ⟨pt, po, rfl, s7, hptn, hpt7, hpol, hpo0, hpon, hpond⟩
    dsimp only [gName]
    have nptp : pt ≠ p := (ne_of_none hf6.1 hptn).symm
    have hf7 := feed_same s7 hf6
    have hol7 := s7 _ _ hol6
    have hil7 := s7 _ _ hil6
    have hpl7 := s7 _ _ hpl
    have hpp7 : Paired (PartAt H7) ps pvs := paired_imp (fun t v h => h.same s7) hpp
    have hon : outs.length ≤ 3 := by rw [← houts, List.length_take]; omega
    have hin3 : ins.length ≤ 3 := by rw [← hins, List.length_take]; omega
    -- targets
    refine asg (fun v H' => ∃ (tl : Addr) (vs : List V), v = .ref tl ∧ Same H7 H' ∧ H7 tl = none ∧ H' tl = some (.lst vs) ∧ Paired (PartAt H') (outs.map fun o => (("" : Str), o)) vs) (fun Q' q' => ?_) ?_
    · refine ⟨_, rfl, ol, rfl, ⟨_, SqL.of hol7⟩, fun D hD => lc_list (K := K) (a := ol) (xs := outs.map V.str) (fun i H' => Same H7 H' ∧ ∃ vs, H' D = some (.lst vs) ∧ vs.length ≤ i ∧ Paired (PartAt H') ((outs.take i).map fun o => (("" : Str), o)) vs) ⟨same_new hD, [], upd_same, Nat.le_refl _, .nil⟩ (fun i H' _ h => SqL.of (h.1 _ _ hol7)) ?_ ?_⟩
      · rintro i x H8 hx ⟨s8, vs, hvs, hvl, hpv⟩
        rw [List.getElem?_map] at hx
        cases ey : outs[i]? with
        | none => rw [ey] at hx; cases hx
        | some y =>
        rw [ey] at hx
        cases hx
        have hi3 : i < 3 := Nat.lt_of_lt_of_le (List.getElem?_eq_some_iff.mp ey).1 hon
        refine ⟨rfl, ?_⟩
        dsimp only [tYes]
        refine iteT ⟨_, rfl, szl (show 2 ≤ 100000 by decide), fun a ha => ?_⟩
        have sa := same_new (o := .tup [.str "", .str y]) ha
        have hDa : upd H8 a (.tup [.str "", .str y]) D = some (.lst vs) := sa _ _ hvs
        have naD : a ≠ D := fun e => by rw [e, hvs] at ha; cases ha
        have sD : SameX D (upd H8 a (.tup [.str "", .str y])) (upd (upd H8 a (.tup [.str "", .str y])) D (.lst (vs ++ [.ref a]))) := sx_put (sx_of (Same.refl _))
        refine ⟨vs, hDa, by omega, same_mut (s8.trans sa) hD, _, upd_same, by rw [List.length_append, List.length_singleton]; omega, ?_⟩
        rw [List.take_add_one, ey, List.map_append]
        exact paired_snoc (paired_imp (fun t v h => (h.same sa).sx sD (lst_nt hDa)) hpv) ⟨a, rfl, by rw [upd_ne naD, upd_same]⟩
      · rintro H8 ⟨s8, vs, hvs, hvl, hpv⟩
        rw [List.length_map, List.take_length] at hpv
        exact q' _ _ ⟨D, vs, rfl, s8, hD, hvs, hpv⟩
    rintro _ H8 ⟨tl, tvs, rfl, s8, htln, htl8, htp8⟩
    dsimp only [gName]
    have ntlp : tl ≠ p := (ne_of_none hf7.1 htln).symm
    have hf8 := feed_same s8 hf7
    have hpl8 := s8 _ _ hpl7
    have hpp8 : Paired (PartAt H8) ps pvs := paired_imp (fun t v h => h.same s8) hpp7
    have hpt8 := s8 _ _ hpt7
    have hil8 := s8 _ _ hil7
    have hol8 := s8 _ _ hol7
    have hond : outs.Nodup := by
      rw [← houts]
      exact (hwo.2.sublist (List.drop_sublist 4 wd)).sublist (List.take_sublist d2 _)
    have hpvl : pvs.length = ps.length := (paired_len hpp8).symm
    refine ⟨_, rfl, pl, rfl, ⟨_, SqL.of hpl8⟩, for_list (K := K) (a := pl) (xs := pvs) (fun i σ H' => (∃ (tl : Addr) (vs : List V) (ts : List Prt), (∃ x8 x9 x10 x11 x12 x13 x14 x15 : Option V, σ = [some (.ref p), some (.ref q), some (.ref il), some (.ref ol), some (.int (z : Nat)), some (.ref pl), some (.ref pt), some (.ref tl), x8, x9, x10, x11, x12, x13, x14, x15]) ∧ tl ≠ p ∧ H' tl = some (.lst vs) ∧ Paired (PartAt H') ts vs ∧ ts.Nodup ∧ ts.length ≤ 3 + 8 * i ∧ ∀ t ∈ ts, (t.1 = "" ∧ t.2 ∈ outs) ∨ (t.1 ∈ (ps.take i).map (·.1) ∧ nameOk t.2 = true)) ∧ SameX p H8 H' ∧ ∃ a b, FeedAt H' p a b) ⟨⟨tl, tvs, _, ⟨_, _, _, _, _, _, _, _, rfl⟩, ntlp, htl8, htp8, nodup_pairs hond, by rw [List.length_map]; omega, fun t ht => ?_⟩, sx_of (Same.refl _), _, _, hf8⟩ (fun i σ H' _ h => SqL.of (h.2.1 _ _ nplp hpl8)) ?_ ?_⟩
    · obtain ⟨o, ho, rfl⟩ := List.mem_map.mp ht
      exact .inl ⟨rfl, ho⟩
    · rintro i v σ H9 hv ⟨⟨tl', vs, ts, ⟨x8, x9, x10, x11, x12, x13, x14, x15, rfl⟩, ntl', htl', htp', hnd, hlen, hval⟩, s9, a9, b9, hf9⟩
      obtain ⟨pr, hpr, hpa⟩ := pl_get hpp8 hv
      obtain ⟨pa, rfl, hpa9⟩ := hpa.sx s9 (feed_nt hf8)
      have hi4 : i < 4 := by
        have := (List.getElem?_eq_some_iff.mp hpr).1
        omega
      refine ⟨pa, _, rfl, SqT.of hpa9, rfl, _, _, rfl, _, _, rfl, rfl, ?_⟩
      dsimp only
      have hpt9 := s9 _ _ nptp hpt8
      refine ⟨_, rfl, _, rfl, _, rfl, p, 9, a9, b9, rfl, hf9, by decide, by decide, fun d a10 b10 h0 h1 hf10 => ?_⟩
      have s10 : SameX p H9 (upd H9 p (.lst [.int a10, .int b10])) := sx_put (sx_of (Same.refl H9))
      have htp10 : Paired (PartAt (upd H9 p (.lst [.int a10, .int b10]))) ts vs := paired_imp (fun t v h => h.sx s10 (feed_nt hf9)) htp'
      revert hf10 s10 htp10
      generalize upd H9 p (.lst [.int a10, .int b10]) = H10
      intro hf10 s10 htp10
      obtain ⟨d, rfl⟩ := Int.eq_ofNat_of_zero_le h0
      refine ⟨_, rfl, pt, _, rfl, SqL.of (s10 _ _ nptp hpt9), fun sl hsl => ?_⟩
      rw [cut_any]
      have hsub : ∀ y ∈ po.take d, nameOk y = true := fun y hy => hpon y (List.mem_of_mem_take hy)
      have hsnd : (po.take d).Nodup := hpond.sublist (List.take_sublist d po)
      have hsl8 : (po.take d).length ≤ 8 := by rw [List.length_take]; omega
      generalize po.take d = so at hsub hsnd hsl8
      have hsl11 : upd H10 sl (.lst (so.map V.str)) sl = some (.lst (so.map V.str)) := upd_same
      have s11 : Same H10 (upd H10 sl (.lst (so.map V.str))) := same_new hsl
      revert hsl11 s11
      generalize upd H10 sl (.lst (so.map V.str)) = H11
      intro hsl11 s11
      have htl11 := s11 _ _ (s10 _ _ ntl' htl')
      have htp11 : Paired (PartAt H11) ts vs := paired_imp (fun t v h => h.same s11) htp10
      refine ⟨sl, rfl, ⟨_, SqL.of hsl11⟩, fun D hD => lc_list (K := K) (a := sl) (xs := so.map V.str) (fun j H' => Same H11 H' ∧ ∃ us, H' D = some (.lst us) ∧ us.length ≤ j ∧ Paired (PartAt H') ((so.take j).map fun y => (pr.1, y)) us) ⟨same_new hD, [], upd_same, Nat.le_refl _, .nil⟩ (fun j H' _ h => SqL.of (h.1 _ _ hsl11)) ?_ ?_⟩
      · rintro j x H12 hx ⟨s12, us, hus, hul, hpu⟩
        rw [List.getElem?_map] at hx
        cases ey : so[j]? with
        | none => rw [ey] at hx; cases hx
        | some y =>
        rw [ey] at hx
        cases hx
        have hj8 : j < 8 := Nat.lt_of_lt_of_le (List.getElem?_eq_some_iff.mp ey).1 hsl8
        refine ⟨rfl, ?_⟩
        dsimp only [tYes]
        refine iteT ⟨_, rfl, _, rfl, szl (show 2 ≤ 100000 by decide), fun a ha => ?_⟩
        have sa := same_new (o := .tup [.str pr.1, .str y]) ha
        have hDa : upd H12 a (.tup [.str pr.1, .str y]) D = some (.lst us) := sa _ _ hus
        have naD : a ≠ D := fun e => by rw [e, hus] at ha; cases ha
        have sD : SameX D (upd H12 a (.tup [.str pr.1, .str y])) (upd (upd H12 a (.tup [.str pr.1, .str y])) D (.lst (us ++ [.ref a]))) := sx_put (sx_of (Same.refl _))
        refine ⟨us, hDa, by omega, same_mut (s12.trans sa) hD, _, upd_same, by rw [List.length_append, List.length_singleton]; omega, ?_⟩
        rw [List.take_add_one, ey, List.map_append]
        exact paired_snoc (paired_imp (fun t v h => (h.same sa).sx sD (lst_nt hDa)) hpu) ⟨a, rfl, by rw [upd_ne naD, upd_same]⟩
      · rintro H12 ⟨s12, us, hus, hul, hpu⟩
        rw [List.length_map, List.take_length] at hpu
        rw [List.length_map] at hul
        have hvl : vs.length = ts.length := (paired_len htp').symm
        have htl12 := s12 _ _ htl11
        refine ⟨tl', D, vs, us, rfl, rfl, htl12, hus, by omega, fun c hc => ?_⟩
        have sc := same_new (o := .lst (vs ++ us)) hc
        have hf12 := feed_same (s11.trans s12) hf10
        have hprm : pr ∈ ps := List.mem_of_getElem? hpr
        have htk : (ps.take (i + 1)).map (·.1) = (ps.take i).map (·.1) ++ [pr.1] := by
          rw [List.take_add_one, hpr, List.map_append]
          rfl
        have hprn : pr.1 ∉ (ps.take i).map (·.1) := fun hm => by
          obtain ⟨q', hq', e⟩ := List.mem_map.mp hm
          obtain ⟨j, hj, e2⟩ := List.getElem_of_mem hq'
          rw [List.length_take] at hj
          have hj' : ps[j]? = some q' := by
            rw [List.getElem_take] at e2
            rw [List.getElem?_eq_getElem (by omega), e2]
          have h1 := posOf_get hpnd hpr
          have h2 := posOf_get hpnd hj'
          rw [e, h1] at h2
          omega
        refine ⟨⟨c, vs ++ us, ts ++ (so.map fun y => (pr.1, y)), ⟨_, _, _, _, _, _, _, _, rfl⟩, (ne_of_none hf12.1 hc).symm, upd_same, paired_imp (fun t v h => h.same sc) (paired_app (paired_imp (fun t v h => h.same s12) htp11) hpu), ?_, ?_, ?_⟩, s9.trans (s10.trans (sx_of ((s11.trans s12).trans sc))), _, _, feed_new hf12 hc⟩
        · rw [List.nodup_append]
          refine ⟨hnd, nodup_pairs hsnd, fun x hx y hy e => ?_⟩
          obtain ⟨o, ho, rfl⟩ := List.mem_map.mp hy
          rw [e] at hx
          rcases hval _ hx with ⟨e1, _⟩ | ⟨e1, _⟩
          · exact nameOk_ne (hpo pr hprm).1 e1
          · exact hprn e1
        · rw [List.length_append, List.length_map]
          omega
        · intro t ht
          rw [htk]
          rcases List.mem_append.mp ht with ht | ht
          · rcases hval t ht with h | h
            · exact .inl h
            · exact .inr ⟨List.mem_append_left _ h.1, h.2⟩
          · obtain ⟨o, ho, rfl⟩ := List.mem_map.mp ht
            exact .inr ⟨List.mem_append_right _ List.mem_cons_self, hsub o ho⟩
    · rintro σ H9 ⟨⟨tl', vs, ts, ⟨x8, x9, x10, x11, x12, x13, x14, x15, rfl⟩, ntl', htl', htp', hnd, hlen, hval⟩, s9, a9, b9, hf9⟩
      have hpl9 := s9 _ _ nplp hpl8
      rw [hpvl, List.take_length] at hval
      rw [hpvl] at hlen
      intro wd' hwd'
      dsimp only [gName]
      have nwp : wd' ≠ p := (ne_of_none hf9.1 hwd').symm
      have hvl9 : vs.length = ts.length := (paired_len htp').symm
      have hw10 : upd H9 wd' (.dT []) wd' = some (.dT []) := upd_same
      have s10 : Same H9 (upd H9 wd' (.dT [])) := same_new hwd'
      have hf10 := feed_new (o := .dT []) hf9 hwd'
      revert hw10 s10 hf10
      generalize upd H9 wd' (.dT []) = H10
      intro hw10 s10 hf10
      have htl10 := s10 _ _ htl'
      have htp10 : Paired (PartAt H10) ts vs := paired_imp (fun t v h => h.same s10) htp'
      have hpl10 := s10 _ _ hpl9
      have hpp10 : Paired (PartAt H10) ps pvs := paired_imp (fun t v h => (h.sx s9 (feed_nt hf8)).same s10) hpp8
      have hil10 := s10 _ _ (s9 _ _ nilp hil8)
      have hpt10 := s10 _ _ (s9 _ _ nptp hpt8)
      have nt10 : NoT [p, wd'] H10 := fun b hb => by
        rcases List.mem_cons.mp hb with e | hb
        · rw [e]; exact noT_lst hf10.1
        · rw [List.mem_singleton.mp hb]
          exact noT_dT hw10
      have nin : ∀ b u, H10 b = some (.lst u) → b ≠ p → b ∉ [p, wd'] := fun b u e n hm => by
        rcases List.mem_cons.mp hm with h | h
        · exact n h
        · rw [List.mem_singleton.mp h, hw10] at e
          cases e
      have pin : p ∈ [p, wd'] := by simp
      have win : wd' ∈ [p, wd'] := by simp
      have base9 : ∀ {H' : Hp}, SameL [p, wd'] H10 H' → SameX p H H' := fun {H'} sl b u nb e => by
        have e9 := (s06.trans (sx_of (s7.trans s8))).trans s9 b u nb e
        have e10 := s10 _ _ e9
        refine sl b u (fun hm => ?_) e10
        rcases List.mem_cons.mp hm with h | h
        · exact nb h
        · rw [List.mem_singleton.mp h] at e9
          rw [e9] at hwd'
          cases hwd'
      have hwdH : H wd' = none := by
        cases e : H wd' with
        | none => rfl
        | some u =>
          have e9 := (s06.trans (sx_of (s7.trans s8))).trans s9 _ _ nwp e
          rw [e9] at hwd'
          cases hwd'
      refine ⟨_, rfl, tl', rfl, ⟨_, SqL.of htl10⟩, for_list (K := K) (a := tl') (xs := vs) (fun i σ H' => (∃ x8 x9 x11 x12 x13 x14 x15 : Option V, σ = [some (.ref p), some (.ref q), some (.ref il), some (.ref ol), some (.int (z : Nat)), some (.ref pl), some (.ref pt), some (.ref tl'), x8, x9, some (.ref wd'), x11, x12, x13, x14, x15]) ∧ SameL [p, wd'] H10 H' ∧ (∃ a b, FeedAt H' p a b) ∧ ∃ ws, WiresAt K H' wd' ws ∧ ws.length ≤ i ∧ (∀ x ∈ ws, x.1 ∈ ts.take i) ∧ (ws.map (·.1)).Nodup ∧ ∀ x ∈ ws, (x.2.1 = "" ∧ x.2.2 ∈ ins) ∨ (x.2.1 ∈ ps.map (·.1) ∧ nameOk x.2.2 = true)) ⟨⟨_, _, _, _, _, _, _, rfl⟩, SameL.refl _ _, ⟨_, _, hf10⟩, [], ⟨[], hw10, .nil⟩, Nat.zero_le _, fun x hx => (by cases hx), List.nodup_nil, fun x hx => (by cases hx)⟩ (fun i σ H' _ h => SqL.of (h.2.1 _ _ (nin _ _ htl10 ntl') htl10)) ?_ ?_⟩
      · rintro i v σ H11 hv ⟨⟨x8, x9, x11, x12, x13, x14, x15, rfl⟩, sl11, ⟨a11, b11, hf11⟩, ws, hws, hwl', hwk, hwn, hwv⟩
        obtain ⟨tg, htg, htga⟩ := pl_get htp10 hv
        have hi35 : i < 35 := by
          have := (List.getElem?_eq_some_iff.mp htg).1
          omega
        obtain ⟨ta, rfl, hta⟩ := part_sl sl11 nt10 htga
        dsimp only [gName]
        have hil11 := sl11 _ _ (nin _ _ hil10 nilp) hil10
        have hpl11 := sl11 _ _ (nin _ _ hpl10 nplp) hpl10
        have hpt11 := sl11 _ _ (nin _ _ hpt10 nptp) hpt10
        have hpp11 : Paired (PartAt H11) ps pvs := paired_imp (fun t v h => part_sl sl11 nt10 h) hpp10
        -- sources
        refine asg (fun v H' => ∃ (sl : Addr) (us : List V), v = .ref sl ∧ Same H11 H' ∧ H11 sl = none ∧ H' sl = some (.lst us) ∧ Paired (PartAt H') (ins.map fun o => (("" : Str), o)) us) (fun Q' q' => ?_) ?_
        · refine ⟨_, rfl, il, rfl, ⟨_, SqL.of hil11⟩, fun D hD => lc_list (K := K) (a := il) (xs := ins.map V.str) (fun i H' => Same H11 H' ∧ ∃ vs, H' D = some (.lst vs) ∧ vs.length ≤ i ∧ Paired (PartAt H') ((ins.take i).map fun o => (("" : Str), o)) vs) ⟨same_new hD, [], upd_same, Nat.le_refl _, .nil⟩ (fun i H' _ h => SqL.of (h.1 _ _ hil11)) ?_ ?_⟩
          · rintro i x H8 hx ⟨s8, vs, hvs, hvl, hpv⟩
            rw [List.getElem?_map] at hx
            cases ey : ins[i]? with
            | none => rw [ey] at hx; cases hx
            | some y =>
            rw [ey] at hx
            cases hx
            have hi3 : i < 3 := Nat.lt_of_lt_of_le (List.getElem?_eq_some_iff.mp ey).1 hin3
            refine ⟨rfl, ?_⟩
            dsimp only [tYes]
            refine iteT ⟨_, rfl, szl (show 2 ≤ 100000 by decide), fun a ha => ?_⟩
            have sa := same_new (o := .tup [.str "", .str y]) ha
            have hDa : upd H8 a (.tup [.str "", .str y]) D = some (.lst vs) := sa _ _ hvs
            have naD : a ≠ D := fun e => by rw [e, hvs] at ha; cases ha
            have sD : SameX D (upd H8 a (.tup [.str "", .str y])) (upd (upd H8 a (.tup [.str "", .str y])) D (.lst (vs ++ [.ref a]))) := sx_put (sx_of (Same.refl _))
            refine ⟨vs, hDa, by omega, same_mut (s8.trans sa) hD, _, upd_same, by rw [List.length_append, List.length_singleton]; omega, ?_⟩
            rw [List.take_add_one, ey, List.map_append]
            exact paired_snoc (paired_imp (fun t v h => (h.same sa).sx sD (lst_nt hDa)) hpv) ⟨a, rfl, by rw [upd_ne naD, upd_same]⟩
          · rintro H8 ⟨s8, vs, hvs, hvl, hpv⟩
            rw [List.length_map, List.take_length] at hpv
            exact q' _ _ ⟨D, vs, rfl, s8, hD, hvs, hpv⟩
        rintro _ H12 ⟨so, sus, rfl, s12, hson, hso12, hsp12⟩
        dsimp only [gName]
        have nsop : so ≠ p := (ne_of_none hf11.1 hson).symm
        have hf12 := feed_same s12 hf11
        have hpl12 := s12 _ _ hpl11
        have hpt12 := s12 _ _ hpt11
        have hpp12 : Paired (PartAt H12) ps pvs := paired_imp (fun t v h => h.same s12) hpp11
        have hsul : sus.length ≤ 3 := by
          have := (paired_len hsp12).symm
          rw [List.length_map] at this
          omega
        refine asg (fun v H' => ∃ (sl : Addr) (us : List V) (sr : List Prt), v = .ref sl ∧ SameX p H12 H' ∧ H12 sl = none ∧ (∃ a b, FeedAt H' p a b) ∧ H' sl = some (.lst us) ∧ Paired (PartAt H') sr us ∧ us.length ≤ 8 ∧ ∀ x ∈ sr, (x.1 = "" ∧ x.2 ∈ ins) ∨ (x.1 ∈ ps.map (·.1) ∧ nameOk x.2 = true)) (fun Q' q' => ?_) ?_
        · refine ⟨_, rfl, _, rfl, pl, rfl, ⟨_, SqL.of hpl12⟩, fun D hD => lc_list (K := K) (a := pl) (xs := pvs) (fun j H' => SameX p H12 H' ∧ (∃ a b, FeedAt H' p a b) ∧ ∃ us sr, H' D = some (.lst us) ∧ us.length ≤ j ∧ Paired (PartAt H') sr us ∧ ∀ x ∈ sr, x.1 ∈ ps.map (·.1) ∧ nameOk x.2 = true) ⟨sx_new (sx_of (Same.refl H12)) hD, ⟨_, _, feed_new hf12 hD⟩, [], [], upd_same, Nat.le_refl _, .nil, fun x hx => (by cases hx)⟩ (fun j H' _ h => SqL.of (h.1 _ _ nplp hpl12)) ?_ ?_⟩
          · rintro j v H13 hv' ⟨s13, ⟨a13, b13, hf13⟩, us, sr, hus, hul, hpu, hsr⟩
            obtain ⟨pr, hpr, hpa⟩ := pl_get hpp12 hv'
            obtain ⟨pa, rfl, hpa13⟩ := hpa.sx s13 (feed_nt hf12)
            have hj4 : j < 4 := by
              have := (List.getElem?_eq_some_iff.mp hpr).1
              omega
            have nDp : D ≠ p := (ne_of_none hf12.1 hD).symm
            refine ⟨rfl, ?_⟩
            dsimp only [tYes]
            refine iteT ⟨_, rfl, pa, _, _, _, rfl, rfl, SqT.of hpa13, atI_nat (j := 0) rfl, _, rfl, _, rfl, .inl ⟨p, pt, _, a13, b13, rfl, hf13, SqL.of (s13 _ _ nptp hpt12), nptp, by rw [List.length_map]; exact hpo0, by rw [List.length_map]; omega, fun v a14 b14 hv14 hf14 => ?_⟩⟩
            obtain ⟨y, hy, rfl⟩ := List.mem_map.mp hv14
            refine ⟨szl (show 2 ≤ 100000 by decide), fun a ha => ?_⟩
            have s14 : SameX p H13 (upd H13 p (.lst [.int a14, .int b14])) := sx_put (sx_of (Same.refl H13))
            have sa := same_new (o := .tup [.str pr.1, .str y]) ha
            have hDa : upd (upd H13 p (.lst [.int a14, .int b14])) a (.tup [.str pr.1, .str y]) D = some (.lst us) := sa _ _ (s14 _ _ nDp hus)
            have naD : a ≠ D := fun e => by rw [e, s14 _ _ nDp hus] at ha; cases ha
            have hpu2 : Paired (PartAt (upd (upd H13 p (.lst [.int a14, .int b14])) a (.tup [.str pr.1, .str y]))) sr us := paired_imp (fun t v h => (h.sx s14 (feed_nt hf13)).same sa) hpu
            have hfa := feed_new (o := .tup [.str pr.1, .str y]) hf14 ha
            have sD : SameX D (upd (upd H13 p (.lst [.int a14, .int b14])) a (.tup [.str pr.1, .str y])) (upd (upd (upd H13 p (.lst [.int a14, .int b14])) a (.tup [.str pr.1, .str y])) D (.lst (us ++ [.ref a]))) := sx_put (sx_of (Same.refl _))
            refine ⟨us, hDa, by omega, ?_, ⟨a14, b14, by rw [upd_ne nDp.symm]; exact hfa.1, hfa.2⟩, _, sr ++ [(pr.1, y)], upd_same, by rw [List.length_append, List.length_singleton]; omega, ?_, ?_⟩
            · intro b u nb e
              by_cases eb : b = D
              · subst eb
                rw [hD] at e
                cases e
              · rw [upd_ne eb]
                exact sa _ _ (s14 _ _ nb (s13 _ _ nb e))
            · exact paired_snoc (paired_imp (fun t v h => h.sx sD (lst_nt hDa)) hpu2) ⟨a, rfl, by rw [upd_ne naD, upd_same]⟩
            · intro x hx
              rcases List.mem_append.mp hx with hx | hx
              · exact hsr x hx
              · rw [List.mem_singleton.mp hx]
                exact ⟨List.mem_map.mpr ⟨pr, List.mem_of_getElem? hpr, rfl⟩, hpon y hy⟩
          · rintro H13 ⟨s13, ⟨a13, b13, hf13⟩, us, sr, hus, hul, hpu, hsr⟩
            have hso13 := s13 _ _ nsop hso12
            refine ⟨so, D, sus, us, rfl, rfl, hso13, hus, by omega, fun c hc => ?_⟩
            have sc := same_new (o := .lst (sus ++ us)) hc
            have hcn : H12 c = none := by
              cases e : H12 c with
              | none => rfl
              | some u =>
                have ncp : c ≠ p := fun z => by rw [z, hf13.1] at hc; cases hc
                rw [s13 _ _ ncp e] at hc
                cases hc
            refine q' _ _ ⟨c, sus ++ us, (ins.map fun o => (("" : Str), o)) ++ sr, rfl, s13.trans (sx_of sc), hcn, ⟨_, _, feed_new hf13 hc⟩, upd_same, paired_app (paired_imp (fun t v h => (h.sx s13 (feed_nt hf12)).same sc) hsp12) (paired_imp (fun t v h => h.same sc) hpu), by rw [List.length_append]; omega, fun x hx => ?_⟩
            rcases List.mem_append.mp hx with hx | hx
            · obtain ⟨o, ho, rfl⟩ := List.mem_map.mp hx
              exact .inl ⟨rfl, ho⟩
            · exact .inr (hsr x hx)
        rintro _ H13 ⟨sl, us, sr, rfl, s13, hsln, ⟨a13, b13, hf13⟩, hsl13, hpu, hul, hsr⟩
        dsimp only [gName]
        have nslp : sl ≠ p := by
          intro e
          rw [e, hf12.1] at hsln
          cases hsln
        have hDp := dp_parts (K := K) hpu
        have hshp : ∀ x ∈ sr, OkS x.1 ∧ OkS x.2 := fun x hx => by
          rcases hsr x hx with ⟨e1, e2⟩ | ⟨e1, e2⟩
          · rw [e1]
            have hw : x.2 ∈ wd := by
              rw [← hins] at e2
              exact List.mem_of_mem_take e2
            exact ⟨okS_em, okS_name (hwo.1 _ hw)⟩
          · obtain ⟨q', hq', e⟩ := List.mem_map.mp e1
            rw [← e]
            exact ⟨okS_name (hpo q' hq').1, okS_name e2⟩
        have s11' : ∀ {H' : Hp}, SameX p H13 H' → SameL [p, wd'] H10 H' := fun {H'} sx => sl11.trans ((sl_of s12).trans (sl_sx (s13.trans sx) pin))
        have wires13 : ∀ {H' : Hp}, SameX p H13 H' → WiresAt K H' wd' ws := fun {H'} sx => by
          obtain ⟨kvs, hk, hp⟩ := hws
          have sxx := (sx_of (p := p) s12).trans (s13.trans sx)
          have n11 : NoT [p] H11 := fun b hb => by
            rw [List.mem_singleton.mp hb]
            exact noT_lst hf11.1
          exact ⟨kvs, sxx _ _ nwp hk, paired_imp (fun _ _ z => ⟨z.1, by
            obtain ⟨t, e, ht⟩ := z.2
            exact ⟨t, e, sl_sqt (sl_sx sxx (by simp : p ∈ [p])) n11 ht⟩⟩) hp⟩
        have htgn : tg ∉ ts.take i := fun hm => by
          obtain ⟨j, hj, e⟩ := List.getElem_of_mem hm
          rw [List.length_take] at hj
          rw [List.getElem_take] at e
          obtain ⟨hi1, e1⟩ := List.getElem?_eq_some_iff.mp htg
          have := (List.getElem_inj (xs := ts) (h₀ := by omega) (h₁ := hi1) hnd).mp (e.trans e1.symm)
          omega
        have hmk : ∀ x ∈ ws, x.1 ∈ ts.take (i + 1) := fun x hx => by
          rw [List.take_add_one, htg]
          exact List.mem_append_left _ (hwk x hx)
        refine ⟨_, rfl, szl (Nat.zero_le _), fun e he => ⟨.list (sr.map dPair), .list [], .lst (SqL.of (by rw [upd_ne (ne_of_none hsl13 he)]; exact hsl13)) (same_dps (same_new he) hDp), .lst (SqL.of upd_same) .nil, (shp_pairs hshp).1, rfl, _, rfl, ?_⟩⟩
        have se := same_new (o := .lst []) he
        have hfe := feed_new (o := .lst []) hf13 he
        have hsle := se _ _ hsl13
        have hpue : Paired (PartAt (upd H13 e (.lst []))) sr us := paired_imp (fun t v h => h.same se) hpu
        revert se hfe hsle hpue
        generalize upd H13 e (.lst []) = H14
        intro se hfe hsle hpue
        cases hsr0 : sr with
        | nil =>
          refine iteF ⟨⟨_, _, _, _, _, _, _, rfl⟩, s11' (sx_of se), ⟨_, _, hfe⟩, ws, wires13 (sx_of se), by omega, hmk, hwn, hwv⟩
        | cons x0 r0 =>
        have hus0 : 0 < us.length := by
          rw [← paired_len hpue, hsr0]
          exact Nat.zero_lt_succ _
        refine iteT ⟨_, rfl, p, 3, a13, b13, rfl, hfe, by decide, by decide, fun d a15 b15 h0 h1 hf15 => ⟨_, _, rfl, rfl, _, rfl, ?_⟩⟩
        have s15 : SameX p H14 (upd H14 p (.lst [.int a15, .int b15])) := sx_put (sx_of (Same.refl H14))
        have hpu15 : Paired (PartAt (upd H14 p (.lst [.int a15, .int b15]))) sr us := paired_imp (fun t v h => h.sx s15 (feed_nt hfe)) hpue
        revert hf15 s15 hpu15
        generalize upd H14 p (.lst [.int a15, .int b15]) = H15
        intro hf15 s15 hpu15
        have sx15 := (sx_of se).trans s15
        by_cases hd0 : 0 < d
        case neg =>
          rw [decide_eq_false hd0]
          exact iteF ⟨⟨_, _, _, _, _, _, _, rfl⟩, s11' sx15, ⟨_, _, hf15⟩, ws, wires13 sx15, by omega, hmk, hwn, hwv⟩
        rw [decide_eq_true hd0]
        refine iteT ⟨_, rfl, _, rfl, .inl ⟨p, sl, us, a15, b15, rfl, hf15, SqL.of (s15 _ _ nslp hsle), nslp, hus0, by omega, fun v a16 b16 hv16 hf16 => ?_⟩⟩
        have s16 : SameX p H15 (upd H15 p (.lst [.int a16, .int b16])) := sx_put (sx_of (Same.refl H15))
        have hpu16 : Paired (PartAt (upd H15 p (.lst [.int a16, .int b16]))) sr us := paired_imp (fun t v h => h.sx s16 (feed_nt hf15)) hpu15
        revert hf16 s16 hpu16
        generalize upd H15 p (.lst [.int a16, .int b16]) = H16
        intro hf16 s16 hpu16
        have sx16 := sx15.trans s16
        obtain ⟨j, hj, ej⟩ := List.getElem_of_mem hv16
        obtain ⟨sx', hsx', va, rfl, hva⟩ := pl_get hpu16 (List.getElem?_eq_some_iff.mpr ⟨hj, ej⟩)
        have hsxv := hsr sx' (List.mem_of_getElem? hsx')
        obtain ⟨kvs, hk16, hp16⟩ := wires13 sx16
        have hta16 : H16 ta = some (.tup [.str tg.1, .str tg.2]) := by
          have ntp : ta ≠ p := fun e => feed_nt hf11 _ (e ▸ hta)
          exact ((sx_of s12).trans (s13.trans sx16)) _ _ ntp hta
        have hkl : kvs.length = ws.length := (paired_len hp16).symm
        refine ⟨_, rfl, _, rfl, wd', _, rfl, DPut.t (k := keyP tg) hk16 hta16 (by omega), ?_⟩
        have hin := wires_in hp16 tg
        have hnk : tg ∉ ws.map (·.1) := fun hm => by
          obtain ⟨x, hx, e⟩ := List.mem_map.mp hm
          exact htgn (e ▸ hwk x hx)
        rw [decide_eq_false hnk] at hin
        rw [putK_new hin]
        have n16 : NoT [p, wd'] H16 := fun b hb => by
          rcases List.mem_cons.mp hb with e | hb
          · rw [e]; exact noT_lst hf16.1
          · rw [List.mem_singleton.mp hb]
            exact noT_dT hk16
        have sl17 : SameL [p, wd'] H16 (upd H16 wd' (.dT (kvs ++ [(keyP tg, .ref va)]))) := sl_put (SameL.refl _ _) win
        refine ⟨⟨_, _, _, _, _, _, _, rfl⟩, (s11' sx16).trans sl17, ⟨a16, b16, by rw [upd_ne nwp.symm]; exact hf16.1, hf16.2⟩, ws ++ [(tg, sx')], ⟨_, upd_same, ?_⟩, by rw [List.length_append, List.length_singleton]; omega, fun x hx => ?_, ?_, fun x hx => ?_⟩
        · exact paired_snoc (paired_imp (fun _ _ z => ⟨z.1, by
            obtain ⟨t, e, ht⟩ := z.2
            exact ⟨t, e, sl_sqt sl17 n16 ht⟩⟩) hp16) ⟨rfl, va, rfl, sl_sqt sl17 n16 (SqT.of hva)⟩
        · rcases List.mem_append.mp hx with hx | hx
          · exact hmk x hx
          · rw [List.mem_singleton.mp hx, List.take_add_one, htg]
            exact List.mem_append_right _ List.mem_cons_self
        · rw [List.map_append, List.nodup_append]
          refine ⟨hwn, by simp, fun x hx y hy e => ?_⟩
          simp only [List.map_cons, List.map_nil, List.mem_singleton] at hy
          rw [hy] at e
          exact hnk (e ▸ hx)
        · rcases List.mem_append.mp hx with hx | hx
          · exact hwv x hx
          · rw [List.mem_singleton.mp hx]
            exact hsxv
      · rintro σ H11 ⟨⟨x8, x9, x11, x12, x13, x14, x15, rfl⟩, sl11, ⟨a11, b11, hf11⟩, ws, hws, hwl', hwk, hwn, hwv⟩
        have sxH := base9 sl11
        have hq11 := upS sxH nqp hS
        have g13 : (wd.map V.str)[13]? = some (.str wd[13]) := by simp
        have hy13 := hwo.1 wd[13] (List.getElem_mem _)
        have hyl := (nameOk_len hy13).2
        have hcl := cutS_length wd[13] none (some 7)
        have hz := z_ok hy13
        have lz : (("z" : Str)).length = 1 := by decide +kernel
        have hil11 := sl11 _ _ (nin _ _ hil10 nilp) hil10
        have hol11 := sl11 _ _ (nin _ _ (s10 _ _ (s9 _ _ nolp hol8)) nolp) (s10 _ _ (s9 _ _ nolp hol8))
        have hpl11 := sl11 _ _ (nin _ _ hpl10 nplp) hpl10
        have hpp11 : Paired (PartAt H11) ps pvs := paired_imp (fun t v h => part_sl sl11 nt10 h) hpp10
        have hinO : ∀ y ∈ ins, nameOk y = true := fun y hy => hwo.1 y (by rw [← hins] at hy; exact List.mem_of_mem_take hy)
        have houO : ∀ y ∈ outs, nameOk y = true := fun y hy => hwo.1 y (by rw [← houts] at hy; exact List.mem_of_mem_drop (List.mem_of_mem_take hy))
        have hndio : (ins ++ outs).Nodup := by
          rw [← hins, ← houts]
          have h1 : (wd.take 4 ++ wd.drop 4).Nodup := by rw [List.take_append_drop]; exact hwo.2
          refine h1.sublist (List.Sublist.append ?_ (List.take_sublist _ _))
          have e : wd.take d1 = (wd.take 4).take d1 := by rw [List.take_take, Nat.min_eq_left (by omega)]
          rw [e]
          exact List.take_sublist _ _
        refine ⟨_, rfl, q, _, 13, _, rfl, rfl, hq11, atI_nat (j := 13) g13, _, rfl, wd[13], rfl, szl (by omega), _, _, rfl, rfl, szl (by omega), _, rfl, il, _, rfl, .inl ⟨SqL.of hil11, fun t1 ht1 => ?_⟩⟩
        refine ⟨_, rfl, ol, _, rfl, .inl ⟨SqL.of (by rw [upd_ne (ne_of_none hol11 ht1)]; exact hol11), fun t2 ht2 => ?_⟩⟩
        have sA : Same H11 (upd (upd H11 t1 (.tup (ins.map V.str))) t2 (.tup (outs.map V.str))) := (same_new ht1).trans (same_new ht2)
        have e1 : upd (upd H11 t1 (.tup (ins.map V.str))) t2 (.tup (outs.map V.str)) t1 = some (.tup (ins.map V.str)) := by rw [upd_ne (ne_of_none upd_same ht2), upd_same]
        have e2 : upd (upd H11 t1 (.tup (ins.map V.str))) t2 (.tup (outs.map V.str)) t2 = some (.tup (outs.map V.str)) := upd_same
        revert sA e1 e2
        generalize upd (upd H11 t1 (.tup (ins.map V.str))) t2 (.tup (outs.map V.str)) = H12
        intro sA e1 e2
        refine ⟨_, rfl, pl, _, rfl, .inl ⟨SqL.of (sA _ _ hpl11), fun t3 ht3 => ⟨_, rfl, szl (show 5 ≤ 100000 by decide), fun t4 ht4 => ?_⟩⟩⟩
        have sB : Same H12 (upd (upd H12 t3 (.tup pvs)) t4 (.tup [.str ("z" ++ cutS wd[13] none (some 7)), .ref t1, .ref t2, .ref t3, .ref wd'])) := (same_new ht3).trans (same_new ht4)
        have e3 : upd (upd H12 t3 (.tup pvs)) t4 (.tup [.str ("z" ++ cutS wd[13] none (some 7)), .ref t1, .ref t2, .ref t3, .ref wd']) t3 = some (.tup pvs) := by rw [upd_ne (ne_of_none upd_same ht4), upd_same]
        have e4 : upd (upd H12 t3 (.tup pvs)) t4 (.tup [.str ("z" ++ cutS wd[13] none (some 7)), .ref t1, .ref t2, .ref t3, .ref wd']) t4 = some (.tup [.str ("z" ++ cutS wd[13] none (some 7)), .ref t1, .ref t2, .ref t3, .ref wd']) := upd_same
        have ht4n : H t4 = none := by
          have n4 : t4 ≠ p := fun e => by
            have := sA _ _ hf11.1
            rw [e, upd_ne (ne_of_none this ht3), this] at ht4
            cases ht4
          cases e : H t4 with
          | none => rfl
          | some u =>
            have h12 := sA _ _ (sxH _ _ n4 e)
            rw [upd_ne (ne_of_none h12 ht3), h12] at ht4
            cases ht4
        revert sB e3 e4
        generalize upd (upd H12 t3 (.tup pvs)) t4 (.tup [.str ("z" ++ cutS wd[13] none (some 7)), .ref t1, .ref t2, .ref t3, .ref wd']) = H13
        intro sB e3 e4
        have sAB := sA.trans sB
        obtain ⟨kvs, hk11, hp11⟩ := hws
        have hkey : ∀ x ∈ ws, x.1 ∈ ts := fun x hx => List.mem_of_mem_take (hwk x hx)
        refine k t4 wd' _ ins outs ps ws H13 a11 b11 (sxH.trans (sx_of sAB)) (feed_same sAB hf11) ht4n hwdH ⟨⟨t1, t2, t3, SqT.of e4, SqT.of (sB _ _ e1), SqT.of (sB _ _ e2), .tup (SqT.of e3) (dp_parts (paired_imp (fun t v h => h.same sAB) hpp11))⟩, kvs, sAB _ _ hk11, paired_imp (fun _ _ z => ⟨z.1, by
            obtain ⟨t, e, ht⟩ := z.2
            exact ⟨t, e, same_sqt sAB ht⟩⟩) hp11⟩ ⟨hz, ⟨fun y hy => (List.mem_append.mp hy).elim (hinO y) (houO y), by omega, by omega, hndio⟩, ⟨by omega, hpo, hpnd⟩, hwn, fun x hx => hval _ (hkey x hx), hwv⟩ hpn (by omega)

theorem sc_law_rows : FnScope ["diagram", "name", "inputs", "outputs", "parts", "wires", "ends", "rows", "ordered", "part", "block", "target", "output"] ["diagram"] (defScope s_law_rows) := ⟨rfl, rfl, rfl, by decide +kernel, rfl, by decide +kernel, by decide +kernel⟩
theorem ok_lrows {f : Addr} {fd fdp : FuncData} (F : Fun K "_law_rows" "_law_rows" s_law_rows f fd) (T : Txt K w mg ad) (G_law_port : FnOk P w K mg base CX0 1 ad.f_law_port fdp ["port"] (spPortText K)) (b_law_port : Binds K fdp ["port"] []) : FnOk P w K mg base CX0 2 f fd ["diagram"] (spLRows K) := by
  refine F.ok sc_law_rows (fun vs H Q E h => ?_) (fun cdv A outer s H vs Q E hr h => ?_)
  · obtain ⟨t, m, n, ins, outs, ps, ws, rfl, _⟩ := h
    rfl
  · obtain ⟨t, m, n, ins, outs, ps, ws, rfl, ⟨⟨i, o, p, ht, hi, ho, hp⟩, hW⟩, hd, hwl, k⟩ := h
    refine ⟨_, (pss_cons (ps_asg (pv 0) (pg_tup (by rfl) (pgs_cons (pg_name (i := 1) sc_law_rows.nd rfl (Or.inl rfl)) (pgs_cons (pg_name (i := 2) sc_law_rows.nd rfl (Or.inl rfl)) (pgs_cons (pg_name (i := 3) sc_law_rows.nd rfl (Or.inl rfl)) (pgs_cons (pg_name (i := 4) sc_law_rows.nd rfl (Or.inl rfl)) (pgs_cons (pg_name (i := 5) sc_law_rows.nd rfl (Or.inr rfl)) pgs_nil)))))))
    (pss_cons (ps_set (i := 6) sc_law_rows.nd rfl (Or.inl rfl) (pe_join pe_str (pe_lc (own := [("output", 12)]) rfl sc_law_rows.nd (pi_tupK K (pv 3)) (blkOk_by (own := [("output", 12)]) (N := ["diagram", "name", "inputs", "outputs", "parts", "wires", "ends", "rows", "ordered", "part", "block", "target", "output"]) (sc := defScope s_law_rows) (by decide +kernel)) (fun _ _ _ _ _ => (pg_name (i := 12) sc_law_rows.nd rfl (Or.inl rfl))) (fun _ _ _ _ _ => pts_nil) (fun _ _ _ _ _ => (pe_op op_add_str pe_str (pv 12))))))
    (pss_cons (ps_set (i := 7) sc_law_rows.nd rfl (Or.inl rfl) (pe_lst (pa_cons (pe_op op_add_str (pe_op op_add_str (pe_op op_add_str (pe_op op_add_str (pe_op op_add_str (pe_op op_add_str pe_str (pv 1)) pe_str) (pe_join pe_str (pv 2))) pe_str) (pv 6)) pe_str) pa_nil)))
    (pss_cons (ps_set (i := 7) sc_law_rows.nd rfl (Or.inl rfl) (pe_op op_cat (pv 7) (pe_lc (own := [("part", 9), ("block", 10)]) rfl sc_law_rows.nd (pi_tupK K (pv 4)) (blkOk_by (own := [("part", 9), ("block", 10)]) (N := ["diagram", "name", "inputs", "outputs", "parts", "wires", "ends", "rows", "ordered", "part", "block", "target", "output"]) (sc := defScope s_law_rows) (by decide +kernel)) (fun _ _ _ _ _ => (by exact (pg_tupK K (n := 2) (by rfl) (pgs_cons (pg_name (i := 9) sc_law_rows.nd rfl (Or.inl rfl)) (pgs_cons (pg_name (i := 10) sc_law_rows.nd rfl (Or.inl rfl)) pgs_nil))))) (fun _ _ _ _ _ => pts_nil) (fun _ _ _ _ _ => (pe_op op_add_str (pe_op op_add_str (pe_op op_add_str pe_str (pv 9)) pe_str) (pv 10))))))
    (pss_cons (ps_set (i := 8) sc_law_rows.nd rfl (Or.inl rfl) (pe_lst pa_nil))
    (pss_cons (ps_for PassesOwn.never rfl (pi_tupK K (pv 4)) (pg_tup (by rfl) (pgs_cons (pg_name (i := 9) sc_law_rows.nd rfl (Or.inr rfl)) (pgs_cons (pg_name (i := 10) sc_law_rows.nd rfl (Or.inl rfl)) pgs_nil)))
    (pss_one (ps_set (i := 8) sc_law_rows.nd rfl (Or.inl rfl) (pe_op op_cat (pv 8) (pe_callB (cr_sortedAt K) (by rfl) T.n_sorted (by decide +kernel) (pa_cons (pe_lock (pe_lc (own := [("target", 11)]) rfl sc_law_rows.nd (pi_keys (pv 5)) (blkOk_by (own := [("target", 11)]) (N := ["diagram", "name", "inputs", "outputs", "parts", "wires", "ends", "rows", "ordered", "part", "block", "target", "output"]) (sc := defScope s_law_rows) (by decide +kernel)) (fun _ _ _ _ _ => (pg_name (i := 11) sc_law_rows.nd rfl (Or.inl rfl))) (fun _ _ _ _ _ => (pts_one (pt_cmpR op_eq (pe_ix (ix_tupK K) (pv 11) pe_int (fun _ _ => rfl)) (pv 9) (nomark _)))) (fun _ _ _ _ _ => (pv 11)))) pa_nil))))))
    (pss_cons (ps_set (i := 8) sc_law_rows.nd rfl (Or.inl rfl) (pe_op op_cat (pv 8) (pe_lc (own := [("output", 12)]) rfl sc_law_rows.nd (pi_tupK K (pv 3)) (blkOk_by (own := [("output", 12)]) (N := ["diagram", "name", "inputs", "outputs", "parts", "wires", "ends", "rows", "ordered", "part", "block", "target", "output"]) (sc := defScope s_law_rows) (by decide +kernel)) (fun _ _ _ _ _ => (pg_name (i := 12) sc_law_rows.nd rfl (Or.inl rfl))) (fun _ _ _ _ _ => (pts_one (pt_cmp (pc_din (hu_of hr) (pe_tup (pa_cons pe_str (pa_cons (pv 12) pa_nil))) (pv 5))))) (fun _ _ _ _ _ => (pe_tup (pa_cons pe_str (pa_cons (pv 12) pa_nil)))))))
    (pss_cons (ps_for PassesOwn.never rfl (pi_listK K (pv 8)) (pg_name (i := 11) sc_law_rows.nd rfl (Or.inl rfl))
    (pss_one (ps_expr (pe_bm PySem.F.plainAttrs_list PySem.F.slot_list_append PySem.F.type_list_append mt_append (pv 7) (pa_cons (pe_op op_add_str (pe_op op_add_str (pe_op op_add_str pe_str (pe_call G_law_port (hr.mono (by decide)) rfl T.g__law_port T.k__law_port b_law_port .nil pass0 (pa_cons (pv 11) pa_nil))) pe_str) (pe_call G_law_port (hr.mono (by decide)) rfl T.g__law_port T.k__law_port b_law_port .nil pass0 (pa_cons (pe_dget (hu_of hr) (pv 5) (pv 11) (fun _ _ => rfl)) pa_nil))) pa_nil)))))
    (pss_one (ps_ret (pe_tup (pa_cons (pe_op op_cat (pv 7) (pe_lst (pa_cons pe_str pa_nil))) (pa_cons (pe_callTy (call_tupleK K) (by rfl) T.n_tuple (by decide +kernel) (pa_cons (pe_lc (own := [("target", 11)]) rfl sc_law_rows.nd (pi_listK K (pv 8)) (blkOk_by (own := [("target", 11)]) (N := ["diagram", "name", "inputs", "outputs", "parts", "wires", "ends", "rows", "ordered", "part", "block", "target", "output"]) (sc := defScope s_law_rows) (by decide +kernel)) (fun _ _ _ _ _ => (pg_name (i := 11) sc_law_rows.nd rfl (Or.inl rfl))) (fun _ _ _ _ _ => pts_nil) (fun _ _ _ _ _ => (pe_tup (pa_cons (pv 11) (pa_cons (pe_dget (hu_of hr) (pv 5) (pv 11) (fun _ _ => rfl)) pa_nil))))) pa_nil)) pa_nil))))))))))))), ?_⟩
    have hsz := sizeLine_eq
    have hn8 := (nameOk_len hd.n.1).2
    have hin8 : ∀ y ∈ ins, y.length ≤ 8 := fun y hy => (nameOk_len (hd.io.1 y (List.mem_append_left _ hy))).2
    have hou8 : ∀ y ∈ outs, y.length ≤ 8 := fun y hy => (nameOk_len (hd.io.1 y (List.mem_append_right _ hy))).2
    have hil := hd.io.2.1
    have hol := hd.io.2.2.1
    have hsp : ((" " : Str)).length = 1 := by decide +kernel
    have hem : (("" : Str)).length = 0 := by decide +kernel
    have la : ∀ x y : Str, (x ++ y : Str).length = x.length + y.length := fun x y => PySem.Str.length_append x y
    refine ⟨_, rfl, t, _, rfl, ht, rfl, _, _, rfl, _, _, rfl, _, _, rfl, _, _, rfl, _, _, rfl, rfl, ?_⟩
    walk_at "nx"
    -- ends
    have hyo : ∀ y ∈ outs.map fun x => (" " : Str) ++ x, y.length ≤ 9 := fun y hy => by
      obtain ⟨x, hx, rfl⟩ := List.mem_map.mp hy
      rw [la]
      have := hou8 x hx
      omega
    have hjo := join_len (a := "") hyo
    have hso := sum_len hyo
    rw [List.length_map] at hjo hso
    have h00 : outs.length * (("" : Str)).length = 0 := by rw [hem, Nat.mul_zero]
    have hji := join_len (a := " ") hin8
    have hsi := sum_len hin8
    rw [hsp] at hji
    refine asg (fun v H1 => Same H H1 ∧ v = .str (Txt.join "" (outs.map fun x => (" " : Str) ++ x))) (fun Q' q => ?_) ?_
    · refine ⟨⟨_, rfl⟩, _, rfl, o, rfl, ⟨_, ho⟩, fun D hD => lc_tup (K := K) (a := o) (xs := outs.map V.str) (fun i' H' => Same H H' ∧ H' D = some (.lst (((outs.take i').map fun x => (" " : Str) ++ x).map V.str))) ⟨same_new hD, upd_same⟩ (fun i' H' _ h => same_sqt h.1 ho) ?_ ?_⟩
      · rintro i' x H1 hx ⟨s1, h1⟩
        rw [List.getElem?_map] at hx
        cases e : outs[i']? with
        | none => rw [e] at hx; cases hx
        | some y =>
        rw [e] at hx
        cases hx
        have hy := hou8 y (List.mem_of_getElem? e)
        refine ⟨rfl, ?_⟩
        dsimp only [tYes]
        refine iteT ⟨_, rfl, _, _, rfl, rfl, szl (by omega), _, h1, szt ?_, same_mut s1 hD, ?_⟩
        · rw [List.length_map, List.length_map, List.length_take]
          omega
        · rw [upd_same, List.take_add_one, e]
          simp
      · rintro H1 ⟨s1, h1⟩
        rw [List.length_map, List.take_length] at h1
        exact ⟨"", D, _, rfl, rfl, .inl (SqL.of h1), by rw [List.length_map]; omega, q _ _ ⟨s1, rfl⟩⟩
    rintro _ H1 ⟨s1, rfl⟩
    dsimp only [gName]
    generalize hends : Txt.join "" (outs.map fun x => (" " : Str) ++ x) = ends at hjo
    have lb : (("block " : Str)).length = 6 ∧ (("(" : Str)).length = 1 ∧ ((";" : Str)).length = 1 ∧ ((")" : Str)).length = 1 := by decide +kernel
    have hjl : (Txt.join " " ins).length ≤ 80 := by omega
    have hel : ends.length ≤ 72 := by omega
    have hbi : (ins.map (·.length)).sum + ins.length * ((" " : Str)).length ≤ 16777216 := by
      rw [hsp]
      omega
    refine asg (fun v H2 => ∃ rl, v = .ref rl ∧ Same H1 H2 ∧ H1 rl = none ∧ H2 rl = some (.lst [.str (headText n ins outs)])) (fun Q' q => ?_) ?_
    · refine ⟨_, rfl, _, _, rfl, rfl, szl (by omega), _, _, rfl, rfl, szl (by rw [la]; omega), ⟨_, rfl⟩, _, rfl, " ", i, ins, rfl, rfl, .inr (same_sqt s1 hi), hbi, _, _, rfl, rfl, szl (by rw [la, la]; omega), _, _, rfl, rfl, szl (by rw [la, la, la]; omega), _, rfl, _, _, rfl, rfl, szl (by rw [la, la, la, la]; omega), _, _, rfl, rfl, szl (by rw [la, la, la, la, la]; omega), szl (show 1 ≤ 100000 by decide), fun rl hrl => q _ _ ⟨rl, rfl, same_new hrl, hrl, ?_⟩⟩
      unfold headText
      rw [hends]
      exact upd_same
    rintro _ H2 ⟨rl0, rfl, s2, hrl0n, hrl0⟩
    dsimp only [gName]
    -- the parts
    obtain ⟨p', xsP, ep, hSp, hdp⟩ := dp_tup_inv hp
    cases ep
    have hPl := dps_len hdp
    rw [List.length_map] at hPl
    have hp16 := hd.p.1
    have lpt : (("  part " : Str)).length = 7 ∧ ((" = " : Str)).length = 3 ∧ (("  " : Str)).length = 2 ∧ ((" <- " : Str)).length = 4 ∧ (("end" : Str)).length = 3 ∧ (("\n" : Str)).length = 1 := by decide +kernel
    have s12 := s1.trans s2
    refine asg (fun v H3 => ∃ rl, v = .ref rl ∧ Same H H3 ∧ H rl = none ∧ H3 rl = some (.lst (([headText n ins outs] ++ ps.map partText).map V.str))) (fun Q' q => ?_) ?_
    · refine ⟨_, rfl, _, rfl, p, rfl, ⟨_, same_sqt s12 hSp⟩, fun D hD0 => lc_tup (K := K) (a := p) (xs := xsP) (fun i' H' => Same H2 H' ∧ H' D = some (.lst (((ps.take i').map partText).map V.str))) ⟨same_new hD0, upd_same⟩ (fun i' H' _ h => same_sqt (s12.trans h.1) hSp) ?_ ?_⟩
      · rintro i' x H3 hx ⟨s3, h3⟩
        obtain ⟨y, hy, hdy⟩ := dps_map hdp hx
        obtain ⟨a, rfl, ha⟩ := dp_pair_inv hdy
        have hyp := hd.p.2.1 y (List.mem_of_getElem? hy)
        have hy1 := (nameOk_len hyp.1).2
        have hy2 := blockOk_len hyp.2
        refine ⟨a, _, rfl, same_sqt (s12.trans s3) ha, rfl, _, _, rfl, _, _, rfl, rfl, rfl, ?_⟩
        dsimp only [tYes]
        refine iteT ⟨_, rfl, _, _, rfl, rfl, szl (by omega), _, _, rfl, rfl, szl (by rw [la]; omega), _, rfl, _, _, rfl, rfl, szl (by rw [la, la]; omega), _, h3, szt ?_, same_mut s3 hD0, ?_⟩
        · rw [List.length_map, List.length_map, List.length_take]
          omega
        · rw [upd_same, List.take_add_one, hy]
          simp [partText]
      · rintro H3 ⟨s3, h3⟩
        rw [hPl, List.take_length] at h3
        refine ⟨rl0, D, _, _, rfl, rfl, s3 _ _ hrl0, h3, szl (by simp only [List.length_map, List.length_singleton]; omega), fun rl hrl => q _ _ ⟨rl, rfl, (s12.trans s3).trans (same_new hrl), (s12.trans s3).free hrl, ?_⟩⟩
        rw [upd_same, List.map_append]
        rfl
    rintro _ H3 ⟨rl, rfl, s3, hrln, hrl3⟩
    dsimp only [gName]
    -- ordered
    refine ⟨szl (Nat.zero_le _), fun ol0 hol0 => ?_⟩
    dsimp only [gName]
    have s4 := s3.trans (same_new (o := .lst []) hol0)
    have hol4 : upd H3 ol0 (.lst []) ol0 = some (.lst []) := upd_same
    have hrl4 : upd H3 ol0 (.lst []) rl = some (.lst (([headText n ins outs] ++ ps.map partText).map V.str)) := by rw [upd_ne (ne_of_none hrl3 hol0)]; exact hrl3
    revert s4 hol4 hrl4
    generalize upd H3 ol0 (.lst []) = H4
    intro s4 hol4 hrl4
    obtain ⟨kvs, hk, hwp⟩ := hW
    have hkl : kvs.length = ws.length := (paired_len hwp).symm
    refine ⟨_, rfl, p, rfl, ⟨_, same_sqt s4 hSp⟩, for_tup (K := K) (a := p) (xs := xsP) (fun i' σ H' => Same H H' ∧ H' rl = some (.lst (([headText n ins outs] ++ ps.map partText).map V.str)) ∧ ∃ (ol : Addr) (vs : List V) (tss : List (List Prt)), (∃ x9 x10 x11 x12 : Option V, σ = [some (.ref t), some (.str n), some (.ref i), some (.ref o), some (.ref p), some (.ref m), some (.str ends), some (.ref rl), some (.ref ol), x9, x10, x11, x12]) ∧ ol ≠ rl ∧ H' ol = some (.lst vs) ∧ Paired (PartAt H') tss.flatten vs ∧ vs.length ≤ 200 * i' ∧ Paired (R1 ws) (ps.take i') tss) ⟨s4, hrl4, ol0, [], [], ⟨_, _, _, _, rfl⟩, (ne_of_none hrl3 hol0).symm, hol4, .nil, Nat.zero_le _, .nil⟩ (fun i' σ H' _ h => same_sqt h.1 hSp) ?_ ?_⟩
    · rintro i' v σ H5 hv ⟨s5, hrl5, ol, vs, tss, ⟨x9, x10, x11, x12, rfl⟩, nol, hol5, hpv, hvl, hR⟩
      obtain ⟨pr, hpr, hdy⟩ := dps_map hdp hv
      obtain ⟨pa, rfl, hpa⟩ := dp_pair_inv hdy
      have hi16 : i' < 16 := by
        have := (List.getElem?_eq_some_iff.mp hpr).1
        omega
      refine ⟨pa, _, rfl, same_sqt s5 hpa, rfl, _, _, rfl, _, _, rfl, rfl, ?_⟩
      dsimp only
      have hk5 := s5 _ _ hk
      have hwp5 : Paired (fun (x : Prt × Prt) (q : List Key × V) => q.1 = keyP x.1 ∧ ∃ t, q.2 = V.ref t ∧ SqT K H5 t [.str x.2.1, .str x.2.2]) ws kvs := paired_imp (fun _ _ z => ⟨z.1, by
        obtain ⟨t, e, ht⟩ := z.2
        exact ⟨t, e, same_sqt s5 ht⟩⟩) hwp
      refine ⟨_, rfl, m, _, hk5, True.intro, fun od => ⟨_, rfl, m, od, rfl, .inr ⟨kvs, upd_same, ?_⟩⟩⟩
      have hf5 : upd H5 m (.frz od (.dT kvs)) m = some (.frz od (.dT kvs)) := upd_same
      have oth : ∀ b u, b ≠ m → H5 b = some u → upd H5 m (.frz od (.dT kvs)) b = some u := fun b u nb e => by rw [upd_ne nb]; exact e
      have hol5' : upd H5 m (.frz od (.dT kvs)) ol = some (.lst vs) := oth _ _ (fun e => by rw [e, hk5] at hol5; cases hol5) hol5
      revert hf5 oth hol5'
      generalize upd H5 m (.frz od (.dT kvs)) = G
      intro hf5 oth hol5'
      intro E hE
      refine lc_it walk_keysT (fun j H' => Same G H' ∧ ∃ us, H' E = some (.lst us) ∧ us.length ≤ j ∧ Paired (PartAt H') (((ws.take j).map (·.1)).filter fun t => decide (t.1 = pr.1)) us) ⟨same_new hE, [], upd_same, Nat.le_refl _, .nil⟩ (fun j H' _ h => h.1 _ _ hf5) ?_ ?_
      · rintro j v H6 H7 hj ⟨s6, us, hus, hul, hpu⟩ ⟨rfl, k', v', q', hk', rfl, hq'⟩
        obtain ⟨y, hy, e1, _⟩ := pl_get hwp5 hk'
        have e1' : k' = keyP y.1 := e1
        subst e1'
        have hq2 : SqT K H7 q' [.str y.1.1, .str y.1.2] := SqT.of hq'
        have htk : ws.take (j + 1) = ws.take j ++ [y] := by
          rw [List.take_add_one, hy]
          rfl
        refine ⟨rfl, _, rfl, q', _, _, _, rfl, rfl, hq2, atI_nat (j := 0) rfl, _, rfl, rfl, _, rfl, ?_⟩
        rw [dStr]
        by_cases ee : y.1.1 = pr.1
        · rw [decide_eq_true ee]
          refine iteT ⟨_, rfl, us, hus, by omega, same_mut s6 hE, _, upd_same, by rw [List.length_append, List.length_singleton]; omega, ?_⟩
          rw [htk, List.map_append, List.filter_append]
          simp only [List.map_cons, List.map_nil, List.filter_cons, ee, decide_true, if_true, List.filter_nil]
          have sE : SameX E H7 (upd H7 E (.lst (us ++ [.ref q']))) := sx_put (sx_of (Same.refl _))
          exact paired_snoc (paired_imp (fun t v h => h.sx sE (lst_nt hus)) hpu) ⟨q', rfl, sE _ _ (fun e => by rw [e, hus] at hq'; cases hq') hq'⟩
        · rw [decide_eq_false ee]
          refine iteF ⟨s6, us, hus, by omega, ?_⟩
          rw [htk, List.map_append, List.filter_append]
          simp only [List.map_cons, List.map_nil, List.filter_cons, ee, decide_false, Bool.false_eq_true, if_false, List.filter_nil, List.append_nil]
          exact hpu
      · rintro H6 ⟨s6, us, hus, hul, hpu⟩
        rw [hkl, List.take_length] at hpu
        rw [hkl] at hul
        have nEm : E ≠ m := fun e => by rw [e, hf5] at hE; cases hE
        have fin : Same H5 (upd H6 m (.dT kvs)) := fun b u e => by
          by_cases eb : b = m
          · rw [eb] at e ⊢
            rw [upd_same, ← e, hk5]
          · rw [upd_ne eb]
            exact s6 _ _ (oth b u eb e)
        refine ⟨s6 _ _ hf5, ?_⟩
        have ndf : ((ws.map (·.1)).filter fun t : Prt => decide (t.1 = pr.1)).Nodup := hd.wn.filter _
        have hpu' : Paired (PartAt (upd H6 m (.dT kvs))) ((ws.map (·.1)).filter fun t => decide (t.1 = pr.1)) us := paired_imp (fun t v h => by
          obtain ⟨q'', e, h2⟩ := h
          have hf6 := s6 _ _ hf5
          exact ⟨q'', e, by rw [upd_ne (fun e => by rw [e, hf6] at h2; cases h2)]; exact h2⟩) hpu
        dsimp only [tNil]
        refine rSort_tgt (SqL.of (by rw [upd_ne nEm]; exact hus)) hpu' ndf fun ts' ys b hperm hsrt hpy hb => ?_
        have hysl : ys.length ≤ 200 := by
          have h1 := paired_len hpy
          have h2 := hperm.length_eq
          have h3 := List.length_filter_le (fun t : Prt => decide (t.1 = pr.1)) (ws.map (·.1))
          rw [List.length_map] at h3
          omega
        have sb := same_new (o := .lst ys) hb
        have s7 := fin.trans sb
        refine ⟨ol, b, vs, ys, rfl, rfl, s7 _ _ hol5, upd_same, by omega, fun c hc => ?_⟩
        have sc := same_new (o := .lst (vs ++ ys)) hc
        have s8 := s7.trans sc
        refine ⟨s5.trans s8, s8 _ _ hrl5, c, vs ++ ys, tss ++ [ts'], ⟨_, _, _, _, rfl⟩, fun e => ?_, upd_same, ?_, by rw [List.length_append]; omega, ?_⟩
        · rw [e, s7 _ _ hrl5] at hc
          cases hc
        · rw [List.flatten_append]
          have e1 : ([ts'] : List (List Prt)).flatten = ts' := by simp
          rw [e1]
          exact paired_app (paired_imp (fun t v h => h.same s8) hpv) (paired_imp (fun t v h => (h.same sb).same sc) hpy)
        · rw [List.take_add_one, hpr]
          exact paired_snoc hR ⟨hperm, hsrt⟩
    · rintro σ H5 ⟨s5, hrl5, ol, vs, tss, ⟨x9, x10, x11, x12, rfl⟩, nol, hol5, hpv, hvl, hR⟩
      rw [hPl] at hvl
      rw [hPl, List.take_length] at hR
      have hk5 := s5 _ _ hk
      have ho5 := same_sqt s5 ho
      have hflat : tss.flatten.length = vs.length := paired_len hpv
      dsimp only
      refine asg (fun v H6 => ∃ (ol : Addr) (us : List V), v = .ref ol ∧ Same H5 H6 ∧ H5 ol = none ∧ H6 ol = some (.lst us) ∧ Paired (PartAt H6) (tss.flatten ++ outerT outs ws) us ∧ us.length ≤ 4000) (fun Q' q => ?_) ?_
      · refine ⟨_, rfl, _, rfl, o, rfl, ⟨_, ho5⟩, fun E hE => lc_tup (K := K) (a := o) (xs := outs.map V.str) (fun j H' => Same H5 H' ∧ ∃ us, H' E = some (.lst us) ∧ us.length ≤ j ∧ Paired (PartAt H') (((outs.take j).map fun y => (("" : Str), y)).filter fun t => decide (t ∈ ws.map (·.1))) us) ⟨same_new hE, [], upd_same, Nat.le_refl _, .nil⟩ (fun j H' _ h => same_sqt h.1 ho5) ?_ ?_⟩
        · rintro j v H6 hv ⟨s6, us, hus, hul, hpu⟩
          rw [List.getElem?_map] at hv
          cases ey : outs[j]? with
          | none => rw [ey] at hv; cases hv
          | some y =>
          rw [ey] at hv
          cases hv
          have hj8 : j < 8 := Nat.lt_of_lt_of_le (List.getElem?_eq_some_iff.mp ey).1 hol
          have htk : outs.take (j + 1) = outs.take j ++ [y] := by
            rw [List.take_add_one, ey]
            rfl
          refine ⟨rfl, _, rfl, szl (show 2 ≤ 100000 by decide), fun a ha => ⟨_, rfl, m, _, rfl, DGet.t (k := keyP ("", y)) (by rw [upd_ne (ne_of_none (s6 _ _ hk5) ha)]; exact s6 _ _ hk5) upd_same, _, rfl, ?_⟩⟩
          rw [wires_in hwp]
          have sa := same_new (o := .tup [.str "", .str y]) ha
          have hEa : upd H6 a (.tup [.str "", .str y]) E = some (.lst us) := sa _ _ hus
          have hpua : Paired (PartAt (upd H6 a (.tup [.str "", .str y]))) (((outs.take j).map fun y => (("" : Str), y)).filter fun t => decide (t ∈ ws.map (·.1))) us := paired_imp (fun t v h => h.same sa) hpu
          have s7 := s6.trans sa
          revert hEa hpua s7
          generalize upd H6 a (.tup [.str "", .str y]) = H7
          intro hEa hpua s7
          by_cases hin : (("" : Str), y) ∈ ws.map (·.1)
          · rw [decide_eq_true hin]
            refine iteT ⟨_, rfl, szl (show 2 ≤ 100000 by decide), fun c hc => ⟨us, by rw [upd_ne (ne_of_none hEa hc)]; exact hEa, by omega, ?_⟩⟩
            have sc := same_new (o := .tup [.str "", .str y]) hc
            have ncE : c ≠ E := fun e => by rw [e, hEa] at hc; cases hc
            have hEc : upd H7 c (.tup [.str "", .str y]) E = some (.lst us) := sc _ _ hEa
            have sE : SameX E (upd H7 c (.tup [.str "", .str y])) (upd (upd H7 c (.tup [.str "", .str y])) E (.lst (us ++ [.ref c]))) := sx_put (sx_of (Same.refl _))
            refine ⟨same_mut (s7.trans sc) hE, _, upd_same, by rw [List.length_append, List.length_singleton]; omega, ?_⟩
            rw [htk, List.map_append, List.filter_append]
            simp only [List.map_cons, List.map_nil, List.filter_cons, hin, decide_true, if_true, List.filter_nil]
            exact paired_snoc (paired_imp (fun t v h => (h.same sc).sx sE (lst_nt hEc)) hpua) ⟨c, rfl, by rw [upd_ne ncE, upd_same]⟩
          · rw [decide_eq_false hin]
            refine iteF ⟨s7, us, hEa, by omega, ?_⟩
            rw [htk, List.map_append, List.filter_append]
            simp only [List.map_cons, List.map_nil, List.filter_cons, hin, decide_false, Bool.false_eq_true, if_false, List.filter_nil, List.append_nil]
            exact hpua
        · rintro H6 ⟨s6, us, hus, hul, hpu⟩
          rw [List.length_map] at hul hpu
          rw [List.take_length] at hpu
          refine ⟨ol, E, vs, us, rfl, rfl, s6 _ _ hol5, hus, by omega, fun c hc => ?_⟩
          have sc := same_new (o := .lst (vs ++ us)) hc
          exact q _ _ ⟨c, vs ++ us, rfl, s6.trans sc, s6.free hc, upd_same, paired_app (paired_imp (fun t v h => h.same (s6.trans sc)) hpv) (paired_imp (fun t v h => h.same sc) hpu), by rw [List.length_append]; omega⟩
      rintro _ H6 ⟨ol6, us, rfl, s6, hol6n, hol6, hpu, hul⟩
      dsimp only [gName]
      have s06 := s5.trans s6
      have hrl6 := s6 _ _ hrl5
      have hmem : ∀ t ∈ tss.flatten ++ outerT outs ws, t ∈ ws.map (·.1) := fun t ht => by
        rcases List.mem_append.mp ht with ht | ht
        · exact (List.mem_filter.mp ((r1_perm hR hd.p.2.2).mem_iff.mp ht)).1
        · have := (List.mem_filter.mp ht).2
          simpa using this
      have hLO : LOrd outs ps ws ((tss.flatten ++ outerT outs ws).map fun t => (t, lookW ws t)) := ⟨tss, hR, rfl⟩
      have hshort : ∀ x ∈ ws, (x.1.1.length ≤ 8 ∧ x.1.2.length ≤ 8) ∧ x.2.1.length ≤ 8 ∧ x.2.2.length ≤ 8 := fun x hx => by
        have part : ∀ a, a ∈ ps.map (·.1) → a.length ≤ 8 := fun a ha => by
          obtain ⟨q, hq, rfl⟩ := List.mem_map.mp ha
          exact (nameOk_len (hd.p.2.1 q hq).1).2
        refine ⟨?_, ?_⟩
        · rcases hd.w1 x hx with ⟨e1, e2⟩ | ⟨e1, e2⟩
          · rw [e1, hem]
            exact ⟨by omega, hou8 _ e2⟩
          · exact ⟨part _ e1, (nameOk_len e2).2⟩
        · rcases hd.w2 x hx with ⟨e1, e2⟩ | ⟨e1, e2⟩
          · rw [e1, hem]
            exact ⟨by omega, hin8 _ e2⟩
          · exact ⟨part _ e1, (nameOk_len e2).2⟩
      generalize hts : tss.flatten ++ outerT outs ws = ts at hpu hmem hLO
      have hnrl : rl ≠ ol6 := fun e => by rw [← e, hrl5] at hol6n; cases hol6n
      have htl : ts.length = us.length := paired_len hpu
      have hk6 := s6 _ _ hk5
      refine ⟨_, rfl, ol6, rfl, ⟨_, SqL.of hol6⟩, for_list (K := K) (a := ol6) (xs := us) (fun j σ H' => SameX rl H6 H' ∧ H' rl = some (.lst (([headText n ins outs] ++ ps.map partText ++ (ts.take j).map fun t => wireText (t, lookW ws t)).map V.str)) ∧ ∃ x9 x10 x11 x12 : Option V, σ = [some (.ref t), some (.str n), some (.ref i), some (.ref o), some (.ref p), some (.ref m), some (.str ends), some (.ref rl), some (.ref ol6), x9, x10, x11, x12]) ⟨sx_of (Same.refl _), by rw [List.take_zero, List.map_nil, List.append_nil]; exact hrl6, _, _, _, _, rfl⟩ (fun j σ H' _ h => SqL.of (h.1 _ _ hnrl.symm hol6)) ?_ ?_⟩
      · rintro j v σ H7 hv ⟨s7, hrl7, y9, y10, y11, y12, rfl⟩
        obtain ⟨tg, htg, ta, rfl, hta⟩ := pl_get hpu hv
        have hjl := (List.getElem?_eq_some_iff.mp hv).1
        have hta7 : H7 ta = some (.tup [.str tg.1, .str tg.2]) := s7 _ _ (fun e => by rw [e, hrl6] at hta; cases hta) hta
        have nm : m ≠ rl := fun e => by rw [e, hrl6] at hk6; cases hk6
        have hk7 := s7 _ _ nm hk6
        have s07 : Same H H7 := same_sx s06 s7 hrln
        have hwp7 : Paired (fun (x : Prt × Prt) (q : List Key × V) => q.1 = keyP x.1 ∧ ∃ t, q.2 = V.ref t ∧ SqT K H7 t [.str x.2.1, .str x.2.2]) ws kvs := paired_imp (fun _ _ z => ⟨z.1, by
          obtain ⟨t, e, ht⟩ := z.2
          exact ⟨t, e, same_sqt s07 ht⟩⟩) hwp
        have htm := hmem tg (List.mem_of_getElem? htg)
        obtain ⟨u, hu1, hu2⟩ := wires_get hwp7 htm
        have hsh : (tg.1.length ≤ 8 ∧ tg.2.length ≤ 8) ∧ (lookW ws tg).1.length ≤ 8 ∧ (lookW ws tg).2.length ≤ 8 := hshort _ (lookW_mem htm)
        have hl1 := portText_len (p := tg) (n := 8) hsh.1.1 hsh.1.2
        have hl2 := portText_len (p := lookW ws tg) (n := 8) hsh.2.1 hsh.2.2
        dsimp only [gName]
        refine ⟨_, rfl, .inl ⟨rfl, _, SqL.of hrl7⟩, _, rfl, ta, tg, rfl, SqT.of hta7, by omega, by omega, _, _, rfl, rfl, szl (by omega), _, _, rfl, rfl, szl (by rw [la]; omega), _, rfl, _, rfl, m, .ref u, rfl, ?_, u, lookW ws tg, rfl, hu2, by omega, by omega, _, _, rfl, rfl, szl (by rw [la, la]; omega), rl, _, _, rfl, rfl, hrl7, ?_, sx_put s7, ?_, _, _, _, _, rfl⟩
        · have := DGet.t (k := keyP tg) hk7 hta7
          rw [hu1] at this
          exact this
        · simp only [List.length_map, List.length_append, List.length_take, List.length_singleton]
          omega
        · rw [upd_same, List.take_add_one, htg]
          simp only [List.map_append, Option.toList_some, List.map_cons, List.map_nil, List.append_assoc]
          rfl
      · rintro σ H7 ⟨s7, hrl7, y9, y10, y11, y12, rfl⟩
        rw [← htl, List.take_length] at hrl7
        have s07 : Same H H7 := same_sx s06 s7 hrln
        have hol7 := s7 _ _ hnrl.symm hol6
        have hpu7 : Paired (PartAt H7) ts us := paired_imp (fun t v h => h.sx s7 (lst_nt hrl6)) hpu
        have hk7 := s07 _ _ hk
        have hwp7 : Paired (fun (x : Prt × Prt) (q : List Key × V) => q.1 = keyP x.1 ∧ ∃ t, q.2 = V.ref t ∧ SqT K H7 t [.str x.2.1, .str x.2.2]) ws kvs := paired_imp (fun _ _ z => ⟨z.1, by
          obtain ⟨t, e, ht⟩ := z.2
          exact ⟨t, e, same_sqt s07 ht⟩⟩) hwp
        refine ⟨_, rfl, szl (show 1 ≤ 100000 by decide), fun l1 hl1 => ⟨rl, l1, _, _, rfl, rfl, by rw [upd_ne (ne_of_none hrl7 hl1)]; exact hrl7, upd_same, ?_, fun l2 hl2 => ?_⟩⟩
        · simp only [List.length_map, List.length_append, List.length_singleton]
          omega
        have erows : ([headText n ins outs] ++ ps.map partText ++ ts.map fun t => wireText (t, lookW ws t)).map V.str ++ [.str "end"] = (textRows n ins outs ps (ts.map fun t => (t, lookW ws t))).map V.str := by
          have em : (ts.map fun t => (t, lookW ws t)).map wireText = ts.map fun t => wireText (t, lookW ws t) := by rw [List.map_map]; rfl
          unfold textRows
          rw [em]
          simp only [List.map_append, List.map_cons, List.map_nil]
        rw [erows]
        have sA : Same H7 (upd (upd H7 l1 (.lst [.str "end"])) l2 (.lst ((textRows n ins outs ps (ts.map fun t => (t, lookW ws t))).map V.str))) := (same_new hl1).trans (same_new hl2)
        have hl2' : upd (upd H7 l1 (.lst [.str "end"])) l2 (.lst ((textRows n ins outs ps (ts.map fun t => (t, lookW ws t))).map V.str)) l2 = some (.lst ((textRows n ins outs ps (ts.map fun t => (t, lookW ws t))).map V.str)) := upd_same
        have hl2n : H l2 = none := (s07.trans (same_new hl1)).free hl2
        revert sA hl2'
        generalize upd (upd H7 l1 (.lst [.str "end"])) l2 (.lst ((textRows n ins outs ps (ts.map fun t => (t, lookW ws t))).map V.str)) = H8
        intro sA hl2'
        have hol8 := sA _ _ hol7
        have hk8 := sA _ _ hk7
        have hpu8 : Paired (PartAt H8) ts us := paired_imp (fun t v h => h.same sA) hpu7
        refine ⟨_, rfl, ol6, rfl, ⟨_, SqL.of hol8⟩, fun D hD => lc_list (K := K) (a := ol6) (xs := us) (fun j H' => Same H8 H' ∧ ∃ qs, H' D = some (.lst qs) ∧ qs.length ≤ j ∧ DpAll K H' qs ((ts.take j).map fun t => dWire (t, lookW ws t))) ⟨same_new hD, [], upd_same, Nat.le_refl _, .nil⟩ (fun j H' _ h => SqL.of (h.1 _ _ hol8)) ?_ ?_⟩
        · rintro j v H9 hv ⟨s9, qs, hqs, hql, hdq⟩
          obtain ⟨tg, htg, ta, rfl, hta⟩ := pl_get hpu8 hv
          have hjl := (List.getElem?_eq_some_iff.mp hv).1
          have htm := hmem tg (List.mem_of_getElem? htg)
          obtain ⟨u, hu1, hu2⟩ := wires_get hwp7 htm
          have hta9 := s9 _ _ hta
          refine ⟨rfl, ?_⟩
          dsimp only [tYes]
          refine iteT ⟨_, rfl, _, rfl, _, rfl, m, .ref u, rfl, ?_, szl (show 2 ≤ 100000 by decide), fun a ha => ⟨qs, by rw [upd_ne (ne_of_none hqs ha)]; exact hqs, by omega, ?_⟩⟩
          · have := DGet.t (k := keyP tg) (s9 _ _ hk8) hta9
            rw [hu1] at this
            exact this
          · have sa := same_new (o := .tup [.ref ta, .ref u]) ha
            have hDa : upd H9 a (.tup [.ref ta, .ref u]) D = some (.lst qs) := sa _ _ hqs
            have sD : SameL [D] (upd H9 a (.tup [.ref ta, .ref u])) (upd (upd H9 a (.tup [.ref ta, .ref u])) D (.lst (qs ++ [.ref a]))) := sl_put (SameL.refl _ _) (by simp)
            have nD : NoT [D] (upd H9 a (.tup [.ref ta, .ref u])) := fun b hb => by
              rw [List.mem_singleton.mp hb]
              exact noT_lst hDa
            refine ⟨same_mut (s9.trans sa) hD, _, upd_same, by rw [List.length_append, List.length_singleton]; omega, ?_⟩
            rw [List.take_add_one, htg, List.map_append]
            have hdq' : DpAll K H9 qs (((ts.take j).map fun t => (t, lookW ws t)).map dWire) := by rw [List.map_map]; exact hdq
            have hd2 := sl_wires sD nD (same_dps sa hdq')
            rw [List.map_map] at hd2
            exact dps_snoc hd2 (dp_wire (x := (tg, lookW ws tg)) (sl_sqt sD nD (SqT.of upd_same)) (sl_sqt sD nD (SqT.of (sa _ _ hta9))) (sl_sqt sD nD (same_sqt ((sA.trans s9).trans sa) hu2)))
        · rintro H9 ⟨s9, qs, hqs, hql, hdq⟩
          rw [← htl, List.take_length] at hdq
          have s79 := s07.trans (sA.trans s9)
          refine ⟨D, qs, rfl, .inl ⟨SqL.of hqs, fun v hv => ⟨szl (show 2 ≤ 100000 by decide), fun u hu => ?_⟩⟩⟩
          have sB : Same H9 (upd (upd H9 v (.tup qs)) u (.tup [.ref l2, .ref v])) := (same_new hv).trans (same_new hu)
          have ev : upd (upd H9 v (.tup qs)) u (.tup [.ref l2, .ref v]) v = some (.tup qs) := by rw [upd_ne (ne_of_none upd_same hu), upd_same]
          have hdq' : DpAll K H9 qs ((ts.map fun t => (t, lookW ws t)).map dWire) := by rw [List.map_map]; exact hdq
          refine k u l2 v _ _ (s79.trans sB) ((s79.trans (same_new hv)).free hu) hl2n (s79.free hv) ?_ upd_same (sB _ _ (s9 _ _ hl2')) (.tup (SqT.of ev) (same_dps sB hdq')) hLO
          intro e
          rw [← e, s9 _ _ hl2'] at hv
          cases hv

end
end K07

set_option maxRecDepth 100000
set_option maxHeartbeats 4000000

namespace K07
open PySem L2 Ly
local macro_rules | `(tactic| walk_at "nx") => `(tactic| dsimp only [tNext])
section
variable {P : Program} {w : World} {K : PySem.W.Frag} {mg : Str → Option Value} {base : Heap} {ad : Adr}
/-! ### _law_is_name, _law_is_number, _law_is_block, _law_is_port -/
theorem sc_law_is_name : FnScope ["word", "sign"] ["word"] (defScope s_law_is_name) := ⟨rfl, rfl, rfl, by decide +kernel, rfl, by decide +kernel, by decide +kernel⟩
def spName7 : Sp := fun vs H Q _ => ∃ z : Str, vs = [.str z] ∧ OkT 100000 z ∧ ∀ H', Same H H' → Q (.bl (nameOk z)) H'
theorem ok_name7 {f : Addr} {fd : FuncData} (F : Fun K "_law_is_name" "_law_is_name" s_law_is_name f fd) (T : Txt K w mg ad) : FnOk P w K mg base CX0 1 f fd ["word"] spName7 := by
  refine F.ok sc_law_is_name (fun vs H Q E h => ?_) (fun cdv A outer s H vs Q E hr h => ?_)
  · obtain ⟨z, rfl, _⟩ := h
    rfl
  · obtain ⟨z, rfl, ⟨hz, hsg⟩, k⟩ := h
    refine ⟨_, (pss_cons (ps_if (PW.pt (pw_or (pt_not (pt_chain op_le op_le pe_int (pe_callB call_len_str (by rfl) T.n_len (by decide +kernel) (pa_cons (pv 0) pa_nil)) pe_int)) (pw_or1 (pt_cmpR (op_in_seqK K) (pv 0) (pe_lst (pa_cons pe_str (pa_cons pe_str (pa_cons pe_str (pa_cons pe_str pa_nil))))) (by rfl))))) (pss_one (ps_ret pe_bl)) pss_nil)
    (pss_one (ps_ret (pe_cmpR (op_eqDK K hr.units) (pe_lc (own := [("sign", 1)]) rfl sc_law_is_name.nd (pi_str (pv 0)) (blkOk_by (own := [("sign", 1)]) (N := ["word", "sign"]) (sc := defScope s_law_is_name) (by decide +kernel)) (fun _ _ _ _ _ => (pg_name (i := 1) sc_law_is_name.nd rfl (Or.inl rfl))) (fun _ _ _ _ _ => (pts_one (pt_cmpR op_notIn_sign (pv 1) pe_str (by rfl)))) (fun _ _ _ _ _ => (pv 1))) (pe_lst pa_nil) (nomark _))))), ?_⟩
    have hzl : z.length ≤ sizeLine := szl hz
    have fail : nameOk z = false → ∀ H', Same H H' → Q (.bl false) H' := fun h H' s => by
      have q := k H' s
      rw [h] at q
      exact q
    refine ⟨_, rfl, z, rfl, hzl, _, _, rfl, rfl, _, rfl, ?_⟩
    by_cases c1 : (1 : Int) ≤ (z.length : Int)
    case neg =>
      rw [decide_eq_false c1]
      refine iteF ⟨_, rfl, iteT (iteT (fail ?_ _ (Same.refl H)))⟩
      unfold nameOk
      rw [decide_eq_false (show ¬ 1 ≤ z.length by omega)]
      rfl
    rw [decide_eq_true c1]
    refine iteT ⟨_, _, rfl, rfl, _, rfl, ?_⟩
    by_cases c2 : (z.length : Int) ≤ 8
    case neg =>
      rw [decide_eq_false c2]
      refine iteT (iteT (fail ?_ _ (Same.refl H)))
      unfold nameOk
      rw [decide_eq_false (show ¬ z.length ≤ 8 by omega)]
      simp
    rw [decide_eq_true c2]
    refine iteF ?_
    refine ⟨_, rfl, szl (show 4 ≤ 100000 by decide), fun rl hrl => ⟨rl, reserved.map V.str, rfl, .inl (SqL.of upd_same), rfl, rfl, _, rfl, ?_⟩⟩
    have s0 : Same H (upd H rl (.lst [.str "block", .str "part", .str "end", .str "self"])) := same_new hrl
    revert s0
    generalize upd H rl (.lst [.str "block", .str "part", .str "end", .str "self"]) = H0
    intro s0
    show if (if false = true then !inV (V.str z) (reserved.map V.str) else inV (V.str z) (reserved.map V.str)) = true then _ else _
    rw [inV_mem]
    by_cases c3 : z ∈ reserved
    · rw [decide_eq_true c3]
      refine iteT (fail ?_ _ s0)
      unfold nameOk
      rw [decide_eq_true c3]
      simp
    rw [decide_eq_false c3]
    refine iteF ?_
    walk_at "nx"
    refine ⟨_, rfl, z, rfl, fun D hD => lc_it walk_str (fun i H' => Same H H' ∧ H' D = some (.lst (((z.cps.toList.take i).filter fun c => !isLet c).map fun c => V.str ⟨#[c]⟩))) ⟨s0.trans (same_new hD), upd_same⟩ (fun _ _ _ _ => True.intro) ?_ ?_⟩
    · rintro i x H1 H2 hi ⟨s1, h1⟩ ⟨rfl, c, hc, rfl⟩
      have e : z.cps.toList[i]? = some c := by simpa using hc
      refine ⟨rfl, _, rfl, c, "abcdefghijklmnopqrstuvwxyz", rfl, rfl, _, rfl, ?_⟩
      rw [let_in]
      cases hd : isLet c with
      | true =>
        refine iteF ⟨s1, ?_⟩
        rw [h1, List.take_add_one, e]
        simp [hd]
      | false =>
        refine iteT ⟨_, rfl, _, h1, szt ?_, same_mut s1 (s0.free hD), ?_⟩
        · rw [List.length_map]
          have h2 := List.length_filter_le (fun c => !isLet c) (z.cps.toList.take i)
          rw [List.length_take] at h2
          have e : z.cps.size = z.length := rfl
          omega
        · rw [upd_same, List.take_add_one, e]
          simp [hd]
    rintro H1 ⟨s1, h1⟩
    have hfull : (z.cps.toList.take z.cps.size) = z.cps.toList := by rw [show z.cps.size = z.cps.toList.length by simp, List.take_length]
    rw [hfull] at h1
    refine ⟨Nat.zero_le _, fun q hq => ?_⟩
    have nq : D ≠ q := ne_of_none h1 hq
    have s2 := s1.trans (same_new (o := .lst []) hq)
    have hds : ∀ cs : List Nat, DpAll K (upd H1 q (.lst [])) (cs.map fun c => V.str ⟨#[c]⟩) (cs.map fun c => PyData.str ⟨#[c]⟩) := fun cs => by
      induction cs with
      | nil => exact .nil
      | cons c r ih => exact .cons (.str _) ih
    have hsh := shaped_chars (z := z) (cs := z.cps.toList.filter fun c => !isLet c) hsg fun c hc => (List.mem_filter.mp hc).1
    refine ⟨.list ((z.cps.toList.filter fun c => !isLet c).map fun c => PyData.str ⟨#[c]⟩), .list [], .lst (SqL.of (by rw [upd_ne nq]; exact h1)) (hds _), .lst (SqL.of upd_same) .nil, hsh, rfl, ?_⟩
    have ek : nameOk z = z.cps.toList.all isLet := by
      unfold nameOk
      rw [decide_eq_true (show 1 ≤ z.length by omega), decide_eq_true (show z.length ≤ 8 by omega), decide_eq_false c3]
      rfl
    have kk := k _ s2
    rw [ek] at kk
    cases hfl : z.cps.toList.filter fun c => !isLet c with
    | cons c r =>
      have hc : c ∈ z.cps.toList.filter fun c => !isLet c := by rw [hfl]; exact List.mem_cons_self
      obtain ⟨m1, m2⟩ := List.mem_filter.mp hc
      have : z.cps.toList.all isLet = false := by
        rw [List.all_eq_false]
        exact ⟨c, m1, by simpa using m2⟩
      rw [this] at kk
      exact kk
    | nil =>
      have c3 : z.cps.toList.all isLet = true := by
        rw [List.all_eq_true]
        intro c hc
        have := List.filter_eq_nil_iff.mp hfl c hc
        simpa using this
      rw [c3] at kk
      exact kk
theorem sc_law_is_number : FnScope ["word", "sign"] ["word"] (defScope s_law_is_number) := ⟨rfl, rfl, rfl, by decide +kernel, rfl, by decide +kernel, by decide +kernel⟩
def spIsNum : Sp := fun vs H Q _ => ∃ z : Str, vs = [.str z] ∧ OkT 100000 z ∧ ∀ H', Same H H' → Q (.bl (numOf z).isSome) H'
theorem ok_isnum {f : Addr} {fd : FuncData} (F : Fun K "_law_is_number" "_law_is_number" s_law_is_number f fd) (T : Txt K w mg ad) : FnOk P w K mg base CX0 1 f fd ["word"] spIsNum := by
  refine F.ok sc_law_is_number (fun vs H Q E h => ?_) (fun cdv A outer s H vs Q E hr h => ?_)
  · obtain ⟨z, rfl, _⟩ := h
    rfl
  · obtain ⟨z, rfl, ⟨hz, hsg⟩, k⟩ := h
    refine ⟨_, (pss_cons (ps_if (PW.pt (pw_or (pt_not (pt_chain op_le op_le pe_int (pe_callB call_len_str (by rfl) T.n_len (by decide +kernel) (pa_cons (pv 0) pa_nil)) pe_int)) (pw_or1 (pt_cmpR (op_neDK K hr.units) (pe_lc (own := [("sign", 1)]) rfl sc_law_is_number.nd (pi_str (pv 0)) (blkOk_by (own := [("sign", 1)]) (N := ["word", "sign"]) (sc := defScope s_law_is_number) (by decide +kernel)) (fun _ _ _ _ _ => (pg_name (i := 1) sc_law_is_number.nd rfl (Or.inl rfl))) (fun _ _ _ _ _ => (pts_one (pt_cmpR op_notIn_sign (pv 1) pe_str (by rfl)))) (fun _ _ _ _ _ => (pv 1))) (pe_lst pa_nil) (nomark _))))) (pss_one (ps_ret pe_bl)) pss_nil)
    (pss_one (ps_ret (pe_or (pe_cmpR op_eq (pv 0) pe_str (nomark _)) (pe_one (pe_and (pe_cmpR op_ne (pe_ix ix_str (pv 0) pe_int (fun _ _ => rfl)) pe_str (nomark _)) (pe_one (pe_cmpR op_lt (pe_callTy call_int_str (by rfl) T.n_int (by decide +kernel) (pa_cons (pv 0) pa_nil)) (pe_op op_pow pe_int pe_int) (nomark _))))))))), ?_⟩
    have hzl : z.length ≤ sizeLine := szl hz
    have fail : numOk z = false → ∀ H', Same H H' → Q (.bl false) H' := fun h H' s => by
      have q := k H' s
      rw [numOf_none h] at q
      exact q
    have good : numOk z = true → ∀ H', Same H H' → Q (.bl true) H' := fun h H' s => by
      have q := k H' s
      rw [numOf_some h] at q
      exact q
    refine ⟨_, rfl, z, rfl, hzl, _, _, rfl, rfl, _, rfl, ?_⟩
    by_cases c1 : (1 : Int) ≤ (z.length : Int)
    case neg =>
      rw [decide_eq_false c1]
      refine iteF ⟨_, rfl, iteT (iteT (fail ?_ _ (Same.refl H)))⟩
      unfold numOk
      rw [decide_eq_false (show ¬ 1 ≤ z.length by omega)]
      rfl
    rw [decide_eq_true c1]
    refine iteT ⟨_, _, rfl, rfl, _, rfl, ?_⟩
    by_cases c2 : (z.length : Int) ≤ 10
    case neg =>
      rw [decide_eq_false c2]
      refine iteT (iteT (fail ?_ _ (Same.refl H)))
      unfold numOk
      rw [decide_eq_false (show ¬ z.length ≤ 10 by omega)]
      simp
    rw [decide_eq_true c2]
    refine iteF ?_
    refine ⟨_, rfl, z, rfl, fun D hD => lc_it walk_str (fun i H' => Same H H' ∧ H' D = some (.lst (((z.cps.toList.take i).filter fun c => !isDig c).map fun c => V.str ⟨#[c]⟩))) ⟨same_new hD, upd_same⟩ (fun _ _ _ _ => True.intro) ?_ ?_⟩
    · rintro i x H1 H2 hi ⟨s1, h1⟩ ⟨rfl, c, hc, rfl⟩
      have e : z.cps.toList[i]? = some c := by simpa using hc
      refine ⟨rfl, _, rfl, c, "0123456789", rfl, rfl, _, rfl, ?_⟩
      rw [dig_in]
      cases hd : isDig c with
      | true =>
        refine iteF ⟨s1, ?_⟩
        rw [h1, List.take_add_one, e]
        simp [hd]
      | false =>
        refine iteT ⟨_, rfl, _, h1, szt ?_, same_mut s1 hD, ?_⟩
        · rw [List.length_map]
          have h2 := List.length_filter_le (fun c => !isDig c) (z.cps.toList.take i)
          rw [List.length_take] at h2
          have e : z.cps.size = z.length := rfl
          omega
        · rw [upd_same, List.take_add_one, e]
          simp [hd]
    rintro H1 ⟨s1, h1⟩
    have hfull : (z.cps.toList.take z.cps.size) = z.cps.toList := by rw [show z.cps.size = z.cps.toList.length by simp, List.take_length]
    rw [hfull] at h1
    refine ⟨Nat.zero_le _, fun q hq => ?_⟩
    have nq : D ≠ q := ne_of_none h1 hq
    have s2 := s1.trans (same_new (o := .lst []) hq)
    have hds : ∀ cs : List Nat, DpAll K (upd H1 q (.lst [])) (cs.map fun c => V.str ⟨#[c]⟩) (cs.map fun c => PyData.str ⟨#[c]⟩) := fun cs => by
      induction cs with
      | nil => exact .nil
      | cons c r ih => exact .cons (.str _) ih
    have hsh := shaped_chars (z := z) (cs := z.cps.toList.filter fun c => !isDig c) hsg fun c hc => (List.mem_filter.mp hc).1
    refine ⟨.list ((z.cps.toList.filter fun c => !isDig c).map fun c => PyData.str ⟨#[c]⟩), .list [], .lst (SqL.of (by rw [upd_ne nq]; exact h1)) (hds _), .lst (SqL.of upd_same) .nil, hsh, rfl, _, rfl, ?_⟩
    cases hfl : z.cps.toList.filter fun c => !isDig c with
    | cons c r =>
      refine iteT (fail ?_ _ s2)
      have hc : c ∈ z.cps.toList.filter fun c => !isDig c := by rw [hfl]; exact List.mem_cons_self
      obtain ⟨m1, m2⟩ := List.mem_filter.mp hc
      have : z.cps.toList.all isDig = false := by
        rw [List.all_eq_false]
        exact ⟨c, m1, by simpa using m2⟩
      unfold numOk
      rw [this]
      simp
    | nil =>
      refine iteF ?_
      have c3 : z.cps.toList.all isDig = true := by
        rw [List.all_eq_true]
        intro c hc
        have := List.filter_eq_nil_iff.mp hfl c hc
        simpa using this
      walk_at "nx"
      have hn : 0 < z.cps.toList.length := by rw [← str_len_list]; omega
      have h0 : z.cps.toList.head? = some (z.cps.toList[0]) := by rw [List.head?_eq_getElem?, List.getElem?_eq_getElem hn]
      have hl10 : z.length ≤ 10 := by omega
      have hl1 : 1 ≤ z.length := by omega
      have hint := int_dig c3 hl1 hl10
      refine ⟨_, rfl, rfl, _, rfl, ite2 (fun e => ?_) (fun e => ?_)⟩
      · have e1 : z = "0" := dstr ▸ e
        have q1 : numOk z = true := by rw [e1]; decide +kernel
        exact good q1 _ s2
      · have e1 : ¬ z = "0" := dstr ▸ e
        refine ⟨_, rfl, z, _, _, rfl, rfl, hzl, atI_nat (j := 0) (List.getElem?_eq_getElem hn), rfl, _, rfl, ?_⟩
        by_cases hd0 : z.cps.toList[0] = 48
        · have q3 : (("0" : Str)) = ⟨#[48]⟩ := by decide +kernel
          have eV : V.str ⟨#[z.cps.toList[0]]⟩ = V.str "0" := by rw [hd0, q3]
          refine iteNF eV (fail ?_ _ s2)
          have hl : 1 < z.length := by
            rcases Nat.lt_or_ge 1 z.length with q | q
            · exact q
            · exfalso
              have hl2 : z.cps.toList.length = 1 := by rw [← str_len_list]; omega
              have e3 : z.cps.toList = [48] := by
                match hm : z.cps.toList, hl2 with
                | [a], _ =>
                  have : z.cps.toList[0] = a := by simp [hm]
                  rw [← hd0, this]
              refine e1 ?_
              rw [q3]
              have e4 : z.cps = #[48] := by
                have := congrArg List.toArray e3
                simpa using this
              cases z with
              | mk a => exact congrArg Str.mk e4
          unfold numOk
          have e5 : z.cps.toList.head? = some 48 := h0.trans (congrArg some hd0)
          rw [decide_eq_true e5, decide_eq_true hl]
          simp
        · have eV : ¬ V.str ⟨#[z.cps.toList[0]]⟩ = V.str "0" := fun q => hd0 (by
            have q2 := congrArg (fun s : Str => s.cps.toList) (V.str.inj q)
            have q3 : (("0" : Str)).cps.toList = [48] := by decide +kernel
            have q4 : [z.cps.toList[0]] = [48] := q2.trans q3
            exact List.head_eq_of_cons_eq q4)
          refine iteNT eV ⟨_, rfl, z, numVal z, rfl, hint, Nat.le_trans hl10 (by decide), _, _, rfl, rfl, ⟨by decide, by decide, by decide⟩, numVal z, 4294967296, rfl, rfl, ?_⟩
          have hzb : (!(decide (z.cps.toList.head? = some 48) && decide (1 < z.length))) = true := by
            have : ¬ z.cps.toList.head? = some 48 := fun q => hd0 (by rw [h0] at q; exact Option.some.inj q)
            rw [decide_eq_false this]
            rfl
          have fin : ∀ b, decide (numVal z < 4294967296) = b → Q (.bl b) (upd H1 q (.lst [])) := fun b hb => by
            cases b with
            | true =>
              refine good ?_ _ s2
              unfold numOk
              rw [decide_eq_true hl1, decide_eq_true hl10, c3, hzb, hb]
              rfl
            | false =>
              refine fail ?_ _ s2
              unfold numOk
              rw [hb]
              simp
          exact fin _ rfl
/-! ### _law_is_primitive -/

theorem sc_law_is_block : FnScope ["text", "plain", "words"] ["text"] (defScope s_law_is_block) := ⟨rfl, rfl, rfl, by decide +kernel, rfl, by decide +kernel, by decide +kernel⟩
def spIsBlock : Sp := fun vs H Q _ => ∃ z : Str, vs = [.str z] ∧ OkT 100000 z ∧ ∀ H', Same H H' → Q (.bl (blockOk z)) H'
theorem ok_isblock {f : Addr} {fd fdN fdA : FuncData} (F : Fun K "_law_is_block" "_law_is_block" s_law_is_block f fd) (T : Txt K w mg ad) (G_law_is_number : FnOk P w K mg base CX0 1 ad.f_law_is_number fdN ["word"] spIsNum) (b_law_is_number : Binds K fdN ["word"] [])
    (G_law_is_name : FnOk P w K mg base CX0 1 ad.f_law_is_name fdA ["word"] spName7) (b_law_is_name : Binds K fdA ["word"] []) : FnOk P w K mg base CX0 2 f fd ["text"] spIsBlock := by
  refine F.ok sc_law_is_block (fun vs H Q E h => ?_) (fun cdv A outer s H vs Q E hr h => ?_)
  · obtain ⟨z, rfl, _⟩ := h
    rfl
  · obtain ⟨z, rfl, hO, k⟩ := h
    refine ⟨_, (pss_cons (ps_set (i := 1) sc_law_is_block.nd rfl (Or.inl rfl) (pe_lst (pa_cons pe_str (pa_cons pe_str (pa_cons pe_str (pa_cons pe_str (pa_cons pe_str (pa_cons pe_str (pa_cons pe_str pa_nil)))))))))
    (pss_cons (ps_set (i := 2) sc_law_is_block.nd rfl (Or.inl rfl) (pe_split (pv 0) pe_str))
    (pss_cons (ps_if (pt_cmpR (op_in_seqK K) (pe_ix (ix_listK K) (pv 2) pe_int (fun _ _ => rfl)) (pe_lst (pa_cons pe_str (pa_cons pe_str pa_nil))) (by rfl)) (pss_one (ps_ret (pe_and (pe_cmpR op_eq (pe_callB (call_lenK K) (by rfl) T.n_len (by decide +kernel) (pa_cons (pv 2) pa_nil)) pe_int (nomark _)) (pe_one (pe_call G_law_is_number (hr.mono (by decide)) rfl T.g__law_is_number T.k__law_is_number b_law_is_number .nil pass0 (pa_cons (pe_ix (ix_listK K) (pv 2) pe_int (fun _ _ => rfl)) pa_nil)))))) pss_nil)
    (pss_one (ps_ret (pe_or (pe_cmpR (op_in_seqK K) (pv 0) (pv 1) (by rfl)) (pe_one (pe_call G_law_is_name (hr.mono (by decide)) rfl T.g__law_is_name T.k__law_is_name b_law_is_name .nil pass0 (pa_cons (pv 0) pa_nil))))))))), ?_⟩
    refine ⟨szl (show 7 ≤ 100000 by decide), fun pl hpl => ?_⟩
    have hpl1 : upd H pl (.lst [.str "add", .str "sub", .str "mul", .str "less", .str "equal", .str "pick", .str "divide"]) pl = some (.lst (plain7.map V.str)) := upd_same
    have sp : Same H (upd H pl (.lst [.str "add", .str "sub", .str "mul", .str "less", .str "equal", .str "pick", .str "divide"])) := same_new hpl
    revert hpl1 sp
    generalize upd H pl (.lst [.str "add", .str "sub", .str "mul", .str "less", .str "equal", .str "pick", .str "divide"]) = H0
    intro hpl1 sp
    dsimp only [gName]
    refine ⟨_, rfl, ⟨z, rfl⟩, z, " ", rfl, rfl, (by decide +kernel), Nat.le_trans (Nat.add_le_add_right hO.ln 2) (by decide), fun p hp0 => ?_⟩
    have hbk : ∀ n r, Txt.split z " " = n :: r → withK n = true → blockOk z = oneNum r := fun n r => blk_k
    have hbn : ∀ n r, Txt.split z " " = n :: r → withK n = false → blockOk z = (decide (z ∈ plain7) || nameOk z) := fun n r => blk_n
    have hws := okT_split hO
    have hne := split_ne (x := z) sp_ne sp_k
    generalize Txt.split z " " = ws at hws hne hbk hbn
    match ws, hws, hne, hbk, hbn with
    | [], _, hne, _, _ => exact absurd rfl hne
    | n :: r, hws, _, hbk, hbn =>
    refine ⟨_, rfl, p, _, _, _, rfl, rfl, SqL.of upd_same, atI_nat (j := 0) rfl, szl (show 2 ≤ 100000 by decide), fun q hq => ?_⟩
    have nqp : p ≠ q := ne_of_none upd_same hq
    have hp2 : upd (upd H0 p (.lst ((n :: r).map V.str))) q (.lst [V.str "const", V.str "delay"]) p = some (.lst ((n :: r).map V.str)) := by rw [upd_ne nqp]; exact upd_same
    have s2 : Same H0 (upd (upd H0 p (.lst ((n :: r).map V.str))) q (.lst [V.str "const", V.str "delay"])) := (same_new hp0).trans (same_new hq)
    have hll : ∀ (m : Int), decide (V.int (((n :: r).map V.str).length : Nat) = V.int m) = true → (r.length : Int) + 1 = m := fun m z => by
      have := V.int.inj (of_decide_eq_true z)
      simpa using this
    have hll2 : ∀ (m : Int), ¬ decide (V.int (((n :: r).map V.str).length : Nat) = V.int m) = true → ¬ (r.length : Int) + 1 = m := fun m z q => z (decide_eq_true (by
      rw [List.length_map, List.length_cons, ← q]
      rfl))
    refine ⟨q, _, rfl, .inl (SqL.of upd_same), rfl, rfl, _, rfl, ?_⟩
    show if (if false = true then !inV (V.str n) [V.str "const", V.str "delay"] else inV (V.str n) [V.str "const", V.str "delay"]) = true then _ else _
    rw [inV_cd]
    cases hk : withK n with
    | true =>
      have kb := k
      rw [hbk n r rfl hk] at kb
      refine iteT ?_
      refine ⟨_, rfl, p, _, rfl, .inl (SqL.of hp2), rfl, _, rfl, ite2 (fun z1 => ?_) (fun z1 => ?_)⟩
      · have e1 := hll _ z1
        match r, kb, hws, hp2, s2, hq, e1 with
        | [w2], kb, hws, hp2, s2, hq, _ =>
          exact ⟨_, rfl, p, _, _, _, rfl, rfl, SqL.of hp2, atI_nat (j := 1) rfl, w2, rfl, hws w2 (by simp), fun H3 s3 => kb H3 ((sp.trans s2).trans s3)⟩
        | [], _, _, _, _, _, e1 => exact absurd e1 (by decide)
        | _ :: _ :: _, _, _, _, _, _, e1 => simp at e1; omega
      · have e1 := hll2 _ z1
        have kk := kb _ (sp.trans s2)
        match r, kk, e1 with
        | [], kk, _ => exact kk
        | [_], _, e1 => exact absurd rfl e1
        | _ :: _ :: _, kk, _ => exact kk
    | false =>
      have kb := k
      rw [hbn n r rfl hk] at kb
      refine iteF ?_
      walk_at "nx"
      have hpl2 := s2 _ _ hpl1
      refine ⟨_, rfl, _, rfl, pl, _, rfl, .inl (SqL.of hpl2), rfl, rfl, _, rfl, ?_⟩
      show if (if false = true then !inV (V.str z) (plain7.map V.str) else inV (V.str z) (plain7.map V.str)) = true then _ else _
      rw [inV_mem]
      by_cases hm : z ∈ plain7
      · rw [decide_eq_true hm] at kb ⊢
        exact iteT (kb _ (sp.trans s2))
      · rw [decide_eq_false hm] at kb ⊢
        exact iteF ⟨_, rfl, z, rfl, hO, fun H3 s3 => kb H3 ((sp.trans s2).trans s3)⟩

end
end K07

set_option maxRecDepth 100000
set_option maxHeartbeats 4000000

namespace K07
open PySem L2 Ly
local macro_rules | `(tactic| walk_at "nx") => `(tactic| dsimp only [tNext])
section
variable {P : Program} {w : World} {K : PySem.W.Frag} {mg : Str → Option Value} {base : Heap} {ad : Adr}
theorem flat_strs (l : List Str) : (l.map V.str).all flatV = true := by
  induction l with
  | nil => rfl
  | cons a l ih => rw [List.map_cons, List.all_cons, ih]; rfl
theorem sc_law_is_port : FnScope ["text", "own", "parts", "words"] ["text", "own", "parts"] (defScope s_law_is_port) := ⟨rfl, rfl, rfl, by decide +kernel, rfl, by decide +kernel, by decide +kernel⟩
def spPort7 (K : PySem.W.Frag) : Sp := fun vs H Q _ => ∃ (z : Str) (oa pa : Addr) (own ps : List Str), vs = [.str z, .ref oa, .ref pa] ∧ OkT 100000 z ∧ SqL K H oa (own.map V.str) ∧ SqL K H pa (ps.map V.str) ∧ ∀ H', Same H H' → Q (.bl (portB own ps z)) H'
theorem ok_port7 {f : Addr} {fd fdA : FuncData} (F : Fun K "_law_is_port" "_law_is_port" s_law_is_port f fd) (T : Txt K w mg ad) (G_law_is_name : FnOk P w K mg base CX0 1 ad.f_law_is_name fdA ["word"] spName7) (b_law_is_name : Binds K fdA ["word"] []) :
    FnOk P w K mg base CX0 2 f fd ["text", "own", "parts"] (spPort7 K) := by
  refine F.ok sc_law_is_port (fun vs H Q E h => ?_) (fun cdv A outer s H vs Q E hr h => ?_)
  · obtain ⟨z, oa, pa, own, ps, rfl, _⟩ := h
    rfl
  · obtain ⟨z, oa, pa, own, ps, rfl, hO, ho, hp, k⟩ := h
    refine ⟨_, (pss_cons (ps_set (i := 3) sc_law_is_port.nd rfl (Or.inl rfl) (pe_split (pv 0) pe_str))
    (pss_cons (ps_if (pt_cmpR op_eq (pe_callB (call_lenK K) (by rfl) T.n_len (by decide +kernel) (pa_cons (pv 3) pa_nil)) pe_int (nomark _)) (pss_one (ps_ret (pe_cmpR (op_in_seqK K) (pv 0) (pv 1) (by rfl)))) pss_nil)
    (pss_one (ps_ret (pe_and (pe_cmpR op_eq (pe_callB (call_lenK K) (by rfl) T.n_len (by decide +kernel) (pa_cons (pv 3) pa_nil)) pe_int (nomark _)) (pe_and (pe_cmpR (op_in_seqK K) (pe_ix (ix_listK K) (pv 3) pe_int (fun _ _ => rfl)) (pv 2) (by rfl)) (pe_one (pe_call G_law_is_name (hr.mono (by decide)) rfl T.g__law_is_name T.k__law_is_name b_law_is_name .nil pass0 (pa_cons (pe_ix (ix_listK K) (pv 3) pe_int (fun _ _ => rfl)) pa_nil))))))))), ?_⟩
    refine ⟨_, rfl, ⟨z, rfl⟩, z, ".", rfl, rfl, (by decide +kernel), Nat.le_trans (Nat.add_le_add_right hO.ln 2) (by decide), fun p hp0 => ?_⟩
    have hws := okT_splitG (y := ".") (by decide +kernel) (by decide +kernel) hO
    have hne := split_ne (x := z) (y := ".") (by decide +kernel) (by decide +kernel)
    unfold portB at k
    generalize Txt.split z "." = ws at hws hne k
    have hp1 : upd H p (.lst (ws.map V.str)) p = some (.lst (ws.map V.str)) := upd_same
    have s1 : Same H (upd H p (.lst (ws.map V.str))) := same_new hp0
    revert hp1 s1
    generalize upd H p (.lst (ws.map V.str)) = H1
    intro hp1 s1
    dsimp only [gName]
    refine ⟨_, rfl, p, _, rfl, .inl (SqL.of hp1), rfl, _, rfl, ?_⟩
    match ws, hws, hne, k, hp1 with
    | [], _, hne, _, _ => exact absurd rfl hne
    | [a], _, _, k, hp1 =>
      refine iteT ⟨_, rfl, _, rfl, oa, _, rfl, .inl (s1.seq ho), rfl, flat_strs own, ?_⟩
      have kk := k _ s1
      rw [← inV_mem] at kk
      exact kk
    | [a, b], hws, _, k, hp1 =>
      refine iteF ?_
      walk_at "nx"
      refine ⟨_, rfl, p, _, rfl, .inl (SqL.of hp1), rfl, _, rfl, iteT ?_⟩
      refine ⟨_, rfl, p, _, _, _, rfl, rfl, SqL.of hp1, atI_nat (j := 0) rfl, _, rfl, pa, _, rfl, .inl (s1.seq hp), rfl, flat_strs ps, _, rfl, ?_⟩
      show if (if false = true then !inV (V.str a) (ps.map V.str) else inV (V.str a) (ps.map V.str)) = true then _ else _
      rw [inV_mem]
      dsimp only at k
      by_cases hm : a ∈ ps
      · rw [decide_eq_true hm] at k ⊢
        exact iteT ⟨_, rfl, p, _, _, _, rfl, rfl, SqL.of hp1, atI_nat (j := 1) rfl, b, rfl, hws b (by simp), fun H' s => k H' (s1.trans s)⟩
      · rw [decide_eq_false hm] at k ⊢
        exact iteF (k _ s1)
    | a :: b :: c :: r, _, _, k, hp1 =>
      have e1 : ∀ m : Int, m ≤ 2 → ¬ decide (V.int (((a :: b :: c :: r).map V.str).length : Nat) = V.int m) = true := fun m hm e => by
        have := V.int.inj (of_decide_eq_true e)
        simp only [List.length_map, List.length_cons] at this
        omega
      rw [show decide (V.int (((a :: b :: c :: r).map V.str).length : Nat) = V.int 1) = false by simpa using e1 1 (by decide)]
      refine iteF ?_
      walk_at "nx"
      refine ⟨_, rfl, p, _, rfl, .inl (SqL.of hp1), rfl, _, rfl, ?_⟩
      rw [show decide (V.int (((a :: b :: c :: r).map V.str).length : Nat) = V.int 2) = false by simpa using e1 2 (by decide)]
      exact iteF (k _ s1)
theorem sc_law_head : FnScope ["row", "first", "middle", "name", "ends", "inputs", "outputs", "written", "every", "plain", "one"] ["row"] (defScope s_law_head) := ⟨rfl, rfl, rfl, by decide +kernel, rfl, by decide +kernel, by decide +kernel⟩
def HeadIs (H' : Hp) (o : Option (List Str × List Str)) (v : V) : Prop := match o with
  | none => v = .non
  | some x => ∃ t i o, v = .ref t ∧ H' t = some (.tup [.ref i, .ref o]) ∧ H' i = some (.lst (x.1.map V.str)) ∧ H' o = some (.lst (x.2.map V.str))
def spHead7 : Sp := fun vs H Q _ => ∃ z : Str, vs = [.str z] ∧ OkT 100000 z ∧ mu fSp z ≤ 1900 ∧ ∀ v H', Same H H' → HeadIs H' (lawHead z) v → Q v H'
theorem ok_head7 {f : Addr} {fd fdA : FuncData} (F : Fun K "_law_head" "_law_head" s_law_head f fd) (T : Txt K w mg ad) (G_law_is_name : FnOk P w K mg base CX0 1 ad.f_law_is_name fdA ["word"] spName7) (b_law_is_name : Binds K fdA ["word"] []) :
    FnOk P w K mg base CX0 2 f fd ["row"] spHead7 := by
  refine F.ok sc_law_head (fun vs H Q E h => ?_) (fun cdv A outer s H vs Q E hr h => ?_)
  · obtain ⟨z, rfl, _⟩ := h
    rfl
  · obtain ⟨z, rfl, hO, hsp, k⟩ := h
    refine ⟨_, (pss_cons (ps_set (i := 1) sc_law_head.nd rfl (Or.inl rfl) (pe_partition (pv 0) pe_str))
    (pss_cons (ps_set (i := 2) sc_law_head.nd rfl (Or.inl rfl) (pe_partition (pe_ix (ix_tupK K) (pv 1) pe_int (fun _ _ => rfl)) pe_str))
    (pss_cons (ps_if (PW.pt (pw_or (pt_cmpR op_ne (pe_slice sl_str (pv 0) (po_some (pe_un un_neg pe_int)) po_none) pe_str (nomark _)) (pw_or (pt_cmpR op_ne (pe_slice sl_str (pe_ix (ix_tupK K) (pv 1) pe_int (fun _ _ => rfl)) po_none (po_some pe_int)) pe_str (nomark _)) (pw_or1 (pt_cmpR op_eq (pe_ix (ix_tupK K) (pv 2) pe_int (fun _ _ => rfl)) pe_str (nomark _)))))) (pss_one (ps_ret pe_non)) pss_nil)
    (pss_cons (ps_par (i := 3) (j := 4) (by rfl) sc_law_head.nd rfl rfl (by decide) rfl rfl (pa_cons (pe_slice sl_str (pe_ix (ix_tupK K) (pv 1) pe_int (fun _ _ => rfl)) (po_some pe_int) po_none) (pa_cons (pe_slice sl_str (pe_ix (ix_tupK K) (pv 2) pe_int (fun _ _ => rfl)) po_none (po_some (pe_un un_neg pe_int))) pa_nil)) (by rfl))
    (pss_cons (ps_set (i := 5) sc_law_head.nd rfl (Or.inl rfl) (pe_ifExp (pt_cmpR op_ne (pe_ix (ix_tupK K) (pv 2) pe_int (fun _ _ => rfl)) pe_str (nomark _)) (pe_split (pe_ix (ix_tupK K) (pv 2) pe_int (fun _ _ => rfl)) pe_str) (pe_lst pa_nil)))
    (pss_cons (ps_set (i := 6) sc_law_head.nd rfl (Or.inl rfl) (pe_ifExp (pt_cmpR op_ne (pv 4) pe_str (nomark _)) (pe_split (pe_slice sl_str (pv 4) (po_some pe_int) po_none) pe_str) (pe_lst pa_nil)))
    (pss_cons (ps_set (i := 7) sc_law_head.nd rfl (Or.inl rfl) (pe_op op_add_str (pe_op op_add_str (pe_op op_add_str (pe_op op_add_str pe_str (pv 3)) pe_str) (pe_join pe_str (pv 5))) pe_str))
    (pss_cons (ps_set (i := 7) sc_law_head.nd rfl (Or.inl rfl) (pe_op op_add_str (pe_op op_add_str (pv 7) (pe_join pe_str (pe_lc (own := [("one", 10)]) rfl sc_law_head.nd (pi_listK K (pv 6)) (blkOk_by (own := [("one", 10)]) (N := ["row", "first", "middle", "name", "ends", "inputs", "outputs", "written", "every", "plain", "one"]) (sc := defScope s_law_head) (by decide +kernel)) (fun _ _ _ _ _ => (pg_name (i := 10) sc_law_head.nd rfl (Or.inl rfl))) (fun _ _ _ _ _ => pts_nil) (fun _ _ _ _ _ => (pe_op op_add_str pe_str (pv 10)))))) pe_str))
    (pss_cons (ps_set (i := 8) sc_law_head.nd rfl (Or.inl rfl) (pe_op op_cat (pv 5) (pv 6)))
    (pss_cons (ps_if (PW.pt (pw_or (pt_cmpR op_ne (pv 7) (pv 0) (nomark _)) (pw_or1 (pt_cmpR op_ne (pe_callB (cr_lenSetS w) (by rfl) T.n_len (by decide +kernel) (pa_cons (pe_callTy (cr_setS K w rfl) (by rfl) T.n_set (by decide +kernel) (pa_cons (pv 8) pa_nil)) pa_nil)) (pe_callB (call_lenK K) (by rfl) T.n_len (by decide +kernel) (pa_cons (pv 8) pa_nil)) (nomark _))))) (pss_one (ps_ret pe_non)) pss_nil)
    (pss_cons (ps_if (pt_cmpR (op_in_seqK K) pe_bl (pe_lc (own := [("one", 10)]) rfl sc_law_head.nd (pi_listK K (pv 8)) (blkOk_by (own := [("one", 10)]) (N := ["row", "first", "middle", "name", "ends", "inputs", "outputs", "written", "every", "plain", "one"]) (sc := defScope s_law_head) (by decide +kernel)) (fun _ _ _ _ _ => (pg_name (i := 10) sc_law_head.nd rfl (Or.inl rfl))) (fun _ _ _ _ _ => pts_nil) (fun _ _ _ _ _ => (pe_call G_law_is_name (hr.mono (by decide)) rfl T.g__law_is_name T.k__law_is_name b_law_is_name .nil pass0 (pa_cons (pv 10) pa_nil)))) (by rfl)) (pss_one (ps_ret pe_non)) pss_nil)
    (pss_cons (ps_set (i := 9) sc_law_head.nd rfl (Or.inl rfl) (pe_lst (pa_cons pe_str (pa_cons pe_str (pa_cons pe_str (pa_cons pe_str (pa_cons pe_str (pa_cons pe_str (pa_cons pe_str (pa_cons pe_str (pa_cons pe_str pa_nil)))))))))))
    (pss_cons (ps_if (PW.pt (pw_or (pt_not (pt_val (pe_call G_law_is_name (hr.mono (by decide)) rfl T.g__law_is_name T.k__law_is_name b_law_is_name .nil pass0 (pa_cons (pv 3) pa_nil)))) (pw_or (pt_cmpR (op_in_seqK K) (pv 3) (pv 9) (by rfl)) (pw_or (pt_cmpR op_gt (pe_callB (call_lenK K) (by rfl) T.n_len (by decide +kernel) (pa_cons (pv 5) pa_nil)) pe_int (nomark _)) (pw_or1 (pt_cmpR op_gt (pe_callB (call_lenK K) (by rfl) T.n_len (by decide +kernel) (pa_cons (pv 6) pa_nil)) pe_int (nomark _))))))) (pss_one (ps_ret pe_non)) pss_nil)
    (pss_one (ps_ret (pe_tup (pa_cons (pv 5) (pa_cons (pv 6) pa_nil)))))))))))))))))), ?_⟩
    have hzl := hO.ln
    have q1 := okT_part (y := "(") hO
    have w1 := part_sp (z := z) (y := "(")
    unfold lawHead at k
    dsimp only at k
    -- first, middle
    refine ⟨_, rfl, ⟨_, rfl⟩, z, "(", rfl, rfl, (by decide +kernel), szl hzl, fun ft hft => ?_⟩
    have hf2 : upd H ft (.tup [.str (Txt.partition z "(").1, .str (Txt.partition z "(").2.1, .str (Txt.partition z "(").2.2]) ft = some (.tup [.str (Txt.partition z "(").1, .str (Txt.partition z "(").2.1, .str (Txt.partition z "(").2.2]) := upd_same
    have s1 : Same H (upd H ft (.tup [.str (Txt.partition z "(").1, .str (Txt.partition z "(").2.1, .str (Txt.partition z "(").2.2])) := same_new hft
    revert hf2 s1
    generalize upd H ft _ = H1
    generalize Txt.partition z "(" = pf at k q1 w1
    obtain ⟨f1, f2, f3⟩ := pf
    dsimp only at k q1 w1 ⊢
    intro hf2 s1
    have q2 := okT_part (y := ";") q1.2
    have w2 := part_sp (z := f3) (y := ";")
    have hf1l := q1.1.ln
    have hf3l := q1.2.ln
    dsimp only [gName]
    refine ⟨_, rfl, ft, _, _, _, rfl, rfl, SqT.of hf2, atI_nat (j := 2) rfl, ⟨_, rfl⟩, f3, ";", rfl, rfl, (by decide +kernel), szl hf3l, fun mt hmt => ?_⟩
    have hm3 : upd H1 mt (.tup [.str (Txt.partition f3 ";").1, .str (Txt.partition f3 ";").2.1, .str (Txt.partition f3 ";").2.2]) mt = some (.tup [.str (Txt.partition f3 ";").1, .str (Txt.partition f3 ";").2.1, .str (Txt.partition f3 ";").2.2]) := upd_same
    have s2 : Same H1 (upd H1 mt (.tup [.str (Txt.partition f3 ";").1, .str (Txt.partition f3 ";").2.1, .str (Txt.partition f3 ";").2.2])) := same_new hmt
    revert hm3 s2
    generalize upd H1 mt _ = H2
    generalize Txt.partition f3 ";" = pm at k q2 w2
    obtain ⟨m1, m2, m3⟩ := pm
    dsimp only at k q2 w2 ⊢
    intro hm3 s2
    have hf3 := s2 _ _ hf2
    have sH2 := s1.trans s2
    have hm1l := q2.1.ln
    have hm3l := q2.2.ln
    dsimp only [gName]
    have fail : ∀ (b : Bool) (x : Option (List Str × List Str)) (H' : Hp), Same H H' → b = true → (∀ v H'', Same H H'' → HeadIs H'' (if b = true then none else x) v → Q v H'') → Q .non H' := fun b x H' s e k => k _ _ s (by rw [if_pos e]; rfl)
    refine ⟨_, rfl, _, rfl, _, rfl, z, rfl, szl hzl, rfl, _, rfl, ?_⟩
    rw [dStr]
    cases c1 : decide (cutS z (some (-1)) none = ")") with
    | false => exact iteT (fail _ _ _ sH2 (by rw [c1]; rfl) k)
    | true =>
    refine iteF ⟨_, rfl, ft, _, _, _, rfl, rfl, SqT.of hf3, atI_nat (j := 0) rfl, _, rfl, f1, rfl, szl hf1l, rfl, _, rfl, ?_⟩
    rw [dStr]
    cases c2 : decide (cutS f1 none (some 6) = "block ") with
    | false => exact iteT (fail _ _ _ sH2 (by rw [c1, c2]; rfl) k)
    | true =>
    refine iteF ⟨_, rfl, mt, _, _, _, rfl, rfl, SqT.of hm3, atI_nat (j := 1) rfl, rfl, _, rfl, ?_⟩
    rw [dStr]
    cases c3 : decide (m2 = "") with
    | true => exact iteT (fail _ _ _ sH2 (by rw [c1, c2, c3]; rfl) k)
    | false =>
    refine iteF ?_
    rw [c1, c2, c3, if_neg (by decide)] at k
    clear fail
    walk_at "nx"
    -- name, ends
    have hn := okT_cut (lo := some 6) (hi := none) q1.1
    have he := okT_cut (lo := none) (hi := some (-1)) q2.2
    have hes := Nat.le_trans (mu_cut (f := fSp) (z := m3) (lo := none) (hi := some (-1))) w2.2
    have hms := w2.1
    refine ⟨_, rfl, ft, _, _, _, rfl, rfl, SqT.of hf3, atI_nat (j := 0) rfl, _, rfl, f1, rfl, szl hf1l, _, rfl, mt, _, _, _, rfl, rfl, SqT.of hm3, atI_nat (j := 2) rfl, _, rfl, _, rfl, m3, rfl, szl hm3l, _, _, rfl, ?_⟩
    dsimp only at hn he hes k ⊢
    generalize cutS f1 (some 6) none = n at k hn
    generalize cutS m3 none (some (-1)) = e at k he hes
    have hnl := hn.ln
    have hel := he.ln
    -- inputs
    refine asg (fun v H' => ∃ il, v = .ref il ∧ Same H2 H' ∧ H' il = some (.lst ((headPorts m1).map V.str))) (fun Q' q => ?_) ?_
    · refine ⟨_, rfl, mt, _, _, _, rfl, rfl, SqT.of hm3, atI_nat (j := 0) rfl, rfl, _, rfl, ?_⟩
      rw [dStr]
      by_cases e0 : m1 = ""
      · rw [decide_eq_true e0]
        refine iteF ⟨szl (Nat.zero_le _), fun b hb => q _ _ ⟨b, rfl, same_new hb, ?_⟩⟩
        unfold headPorts
        rw [if_pos e0]
        exact upd_same
      · rw [decide_eq_false e0]
        refine iteT ⟨_, rfl, mt, _, _, _, rfl, rfl, SqT.of hm3, atI_nat (j := 0) rfl, ⟨_, rfl⟩, m1, " ", rfl, rfl, (by decide +kernel), szn (by omega), fun b hb => q _ _ ⟨b, rfl, same_new hb, ?_⟩⟩
        unfold headPorts
        rw [if_neg e0]
        exact upd_same
    rintro _ H3 ⟨il, rfl, s3, hi3⟩
    dsimp only [gName]
    -- outputs
    refine asg (fun v H' => ∃ ol, v = .ref ol ∧ Same H3 H' ∧ H' ol = some (.lst ((headOut e).map V.str))) (fun Q' q => ?_) ?_
    · refine ⟨_, rfl, rfl, _, rfl, ?_⟩
      rw [dStr]
      by_cases e0 : e = ""
      · rw [decide_eq_true e0]
        refine iteF ⟨szl (Nat.zero_le _), fun b hb => q _ _ ⟨b, rfl, same_new hb, ?_⟩⟩
        unfold headOut
        rw [if_pos e0]
        exact upd_same
      · rw [decide_eq_false e0]
        have hcl := cutS_length e (some 1) none
        refine iteT ⟨_, rfl, _, rfl, e, rfl, szl hel, ⟨_, rfl⟩, cutS e (some 1) none, " ", rfl, rfl, (by decide +kernel), szn (by omega), fun b hb => q _ _ ⟨b, rfl, same_new hb, ?_⟩⟩
        unfold headOut
        rw [if_neg e0]
        exact upd_same
    rintro _ H4 ⟨ol, rfl, s4, ho4⟩
    dsimp only [gName]
    have hi4 := s4 _ _ hi3
    have p1 := ports_sum m1
    have p2 := out_sum e
    have j1 := ports_join m1
    have oi := ports_ok q2.1
    have oo := out_ok he
    have hsz := sizeLine_eq
    have la : ∀ x y : Str, (x ++ y : Str).length = x.length + y.length := fun x y => PySem.Str.length_append x y
    have lc : ("block " : Str).length = 6 ∧ ("(" : Str).length = 1 ∧ (";" : Str).length = 1 ∧ (")" : Str).length = 1 ∧ (" " : Str).length = 1 ∧ ("" : Str).length = 0 := by decide +kernel
    have hsG : ∀ l : List Str, ((l.map fun x => (" " : Str) ++ x).map (·.length)).sum = l.length + (l.map (·.length)).sum := fun l => by
      induction l with
      | nil => rfl
      | cons a l ih =>
        rw [List.map_cons, List.map_cons, List.sum_cons, ih, la, lc.2.2.2.2.1, List.map_cons, List.sum_cons, List.length_cons]
        omega
    generalize headPorts m1 = ins at k hi4 p1 j1 oi
    generalize headOut e = outs at k ho4 p2 oo
    -- written
    have hjl : (Txt.join " " ins).length ≤ 100000 := by rw [j1]; exact hm1l
    refine ⟨_, rfl, _, _, rfl, rfl, szn (by omega), _, _, rfl, rfl, szn (by rw [la]; omega), ⟨_, rfl⟩, _, rfl, " ", il, ins, rfl, rfl, .inl (SqL.of hi4), (by rw [lc.2.2.2.2.1]; omega), _, _, rfl, rfl, szn (by rw [la, la]; omega), _, _, rfl, rfl, szn (by rw [la, la, la]; omega), ?_⟩
    have hwl : ("block " ++ n ++ "(" ++ Txt.join " " ins ++ ";" : Str).length ≤ 200010 := by rw [la, la, la, la]; omega
    dsimp only [gName]
    refine asg (fun v H' => v = .str (headText n ins outs) ∧ Same H4 H') (fun Q' q => ?_) ?_
    · refine ⟨_, rfl, ⟨_, rfl⟩, _, rfl, ol, rfl, ⟨_, SqL.of ho4⟩, fun D hD => lc_list (K := K) (a := ol) (xs := outs.map V.str) (fun i' H' => Same H4 H' ∧ H' D = some (.lst (((outs.take i').map fun x => (" " : Str) ++ x).map V.str))) ⟨same_new hD, upd_same⟩ (fun i' H' _ h => SqL.of (h.1 _ _ ho4)) ?_ ?_⟩
      · rintro i' x H5 hx ⟨s5, h5⟩
        rw [List.getElem?_map] at hx
        cases ey : outs[i']? with
        | none => rw [ey] at hx; cases hx
        | some y =>
        rw [ey] at hx
        cases hx
        have hy := (oo y (List.mem_of_getElem? ey)).ln
        refine ⟨rfl, ?_⟩
        dsimp only [tYes]
        refine iteT ⟨_, rfl, _, _, rfl, rfl, szn (by omega), _, h5, Nat.lt_of_lt_of_le (m := 1000000) ?_ (by decide), same_mut s5 hD, ?_⟩
        · rw [List.length_map, List.length_map, List.length_take]
          omega
        · rw [upd_same, List.take_add_one, ey]
          simp
      · rintro H5 ⟨s5, h5⟩
        rw [List.length_map, List.take_length] at h5
        have hs := hsG outs
        have hjo : (Txt.join "" (outs.map fun x => (" " : Str) ++ x)).length ≤ 100001 := by
          have a := mu_join fLen "" (outs.map fun x => (" " : Str) ++ x)
          rw [mu_len, mu_len, lc.2.2.2.2.2, ← sum_mus, hs, Nat.mul_zero] at a
          omega
        refine ⟨"", D, _, rfl, rfl, .inl (SqL.of h5), by rw [hs, lc.2.2.2.2.2, Nat.mul_zero]; omega, _, _, rfl, rfl, szn (by omega), _, _, rfl, rfl, szn (by rw [la]; omega), q _ _ ⟨rfl, s5⟩⟩
    rintro _ H5 ⟨rfl, s5⟩
    dsimp only [gName]
    have hi5 := s5 _ _ hi4
    have ho5 := s5 _ _ ho4
    refine ⟨_, rfl, _, rfl, il, ol, _, _, rfl, rfl, hi5, ho5, (by simp only [List.length_map]; omega), fun el hel' => ?_⟩
    have hel6 : upd H5 el (.lst (ins.map V.str ++ outs.map V.str)) el = some (.lst ((ins ++ outs).map V.str)) := by rw [upd_same, List.map_append]
    have s6 : Same H5 (upd H5 el (.lst (ins.map V.str ++ outs.map V.str))) := same_new hel'
    revert hel6 s6
    generalize upd H5 el (.lst (ins.map V.str ++ outs.map V.str)) = H6
    intro hel6 s6
    dsimp only [gName]
    have sT : Same H H6 := ((((sH2.trans s3).trans s4).trans s5).trans s6)
    have hi6 := s6 _ _ hi5
    have ho6 := s6 _ _ ho5
    refine ⟨_, rfl, _, rfl, rfl, _, rfl, ?_⟩
    rw [dStr]
    have fail2 : ∀ (b : Bool) (x : Option (List Str × List Str)) (H' : Hp), Same H H' → b = true → (∀ v H'', Same H H'' → HeadIs H'' (if b = true then none else x) v → Q v H'') → Q .non H' := fun b x H' s e k => k _ _ s (by rw [if_pos e]; rfl)
    cases c4 : decide (headText n ins outs = z) with
    | false => exact iteT (fail2 _ _ _ sT (by rw [c4]; rfl) k)
    | true =>
    have hcount : ins.length + outs.length ≤ 1900 := by
      have := head_count (n := n) (ins := ins) (outs := outs)
      rw [of_decide_eq_true c4] at this
      omega
    refine iteF ⟨_, rfl, el, ins ++ outs, rfl, SqL.of hel6, (by rw [List.length_append]; omega), fun sp hsp' => ⟨sp, dedS (ins ++ outs), rfl, upd_same, ?_⟩⟩
    have s7 : Same H6 (upd H6 sp (SetSO w sp (dedS (ins ++ outs)))) := same_new hsp'
    revert s7
    generalize upd H6 sp (SetSO w sp (dedS (ins ++ outs))) = H7
    intro s7
    have hel7 := s7 _ _ hel6
    refine ⟨_, rfl, el, _, rfl, .inl (SqL.of hel7), rfl, _, rfl, ?_⟩
    have hdl : decide (V.int ((dedS (ins ++ outs)).length : Nat) = V.int (((ins ++ outs).map V.str).length : Nat)) = decide (ins ++ outs).Nodup := by
      have := ded_lt (ins ++ outs)
      rw [dInt, List.length_map]
      by_cases h : (ins ++ outs).Nodup
      · rw [decide_eq_true h, decide_eq_true]
        have h1 : ¬ (dedS (ins ++ outs)).length < (ins ++ outs).length := fun z => this.mp z h
        have h2 := ded_len (ins ++ outs)
        omega
      · rw [decide_eq_false h, decide_eq_false]
        have := this.mpr h
        omega
    rw [hdl]
    have sT7 := sT.trans s7
    cases c5 : decide (ins ++ outs).Nodup with
    | false => exact iteT (fail2 _ _ _ sT7 (by rw [c4, c5]; rfl) k)
    | true =>
    refine iteF ?_
    rw [c4, c5, if_neg (by decide)] at k
    walk_at "nx"
    -- are all names
    refine ⟨_, rfl, el, rfl, ⟨_, SqL.of hel7⟩, fun D hD => lc_list (K := K) (a := el) (xs := (ins ++ outs).map V.str) (fun i' H' => Same H7 H' ∧ H' D = some (.lst (((ins ++ outs).take i').map fun y => V.bl (nameOk y)))) ⟨same_new hD, upd_same⟩ (fun i' H' _ h => SqL.of (h.1 _ _ hel7)) ?_ ?_⟩
    · rintro i' x' H' hx ⟨s', h'⟩
      rw [List.getElem?_map] at hx
      cases e : (ins ++ outs)[i']? with
      | none => rw [e] at hx; cases hx
      | some y =>
      rw [e] at hx
      cases hx
      have hy : OkT 100000 y := (List.mem_append.mp (List.mem_of_getElem? e)).elim (oi y) (oo y)
      refine ⟨rfl, ?_⟩
      dsimp only [tYes]
      refine iteT ⟨_, rfl, y, rfl, hy, fun H'' s'' => ⟨_, s'' _ _ h', ?_, same_mut (s'.trans s'') hD, ?_⟩⟩
      · rw [List.length_map, List.length_take, List.length_append]
        omega
      · rw [upd_same, List.take_add_one, e]
        simp
    rintro H8 ⟨s8, h8⟩
    rw [List.length_map, List.take_length] at h8
    have sT8 := sT7.trans s8
    have em : (ins ++ outs).map (fun y => V.bl (nameOk y)) = ((ins ++ outs).map nameOk).map V.bl := by rw [List.map_map]; rfl
    have hfl : ∀ l : List Bool, (l.map V.bl).all flatV = true := fun l => by
      induction l with
      | nil => rfl
      | cons a l ih => rw [List.map_cons, List.all_cons, ih]; rfl
    have hid : ((ins ++ outs).map nameOk).all id = (ins ++ outs).all nameOk := by rw [List.all_map]; rfl
    refine ⟨D, _, rfl, .inl (SqL.of (by rw [h8, em])), rfl, hfl _, _, rfl, ?_⟩
    show if (if false = true then _ else inV (.bl false) (((ins ++ outs).map nameOk).map V.bl)) = true then _ else _
    rw [in_false, hid]
    cases c6 : (ins ++ outs).all nameOk with
    | false => exact iteT (k .non _ sT8 (by rw [c6]; rfl))
    | true =>
    refine iteF ?_
    rw [c6, if_neg (by decide)] at k
    walk_at "nx"
    refine ⟨szl (show 9 ≤ 100000 by decide), fun pl hpl => ?_⟩
    have hpl9 : upd H8 pl (.lst [.str "const", .str "add", .str "sub", .str "mul", .str "less", .str "equal", .str "pick", .str "divide", .str "delay"]) pl = some (.lst (portNames.map V.str)) := upd_same
    have s9 : Same H8 (upd H8 pl (.lst [.str "const", .str "add", .str "sub", .str "mul", .str "less", .str "equal", .str "pick", .str "divide", .str "delay"])) := same_new hpl
    revert hpl9 s9
    generalize upd H8 pl _ = H9
    intro hpl9 s9
    dsimp only [gName]
    have hi8 := s8 _ _ (s7 _ _ hi6)
    have ho8 := s8 _ _ (s7 _ _ ho6)
    refine ⟨_, rfl, n, rfl, hn, fun H10 s10 => ⟨_, rfl, ?_⟩⟩
    have sTa := (sT8.trans s9).trans s10
    have hia := s10 _ _ (s9 _ _ hi8)
    have hoa := s10 _ _ (s9 _ _ ho8)
    have hpa := s10 _ _ hpl9
    cases c7 : nameOk n with
    | false => exact iteT (k .non _ sTa (by rw [c7]; rfl))
    | true =>
    refine iteF ⟨_, rfl, _, rfl, pl, _, rfl, .inl (SqL.of hpa), rfl, rfl, _, rfl, ?_⟩
    show if (if false = true then _ else inV (.str n) (portNames.map V.str)) = true then _ else _
    rw [inV_mem]
    cases c8 : decide (n ∈ portNames) with
    | true => exact iteT (k .non _ sTa (by rw [c7, c8]; rfl))
    | false =>
    refine iteF ⟨_, rfl, il, _, rfl, .inl (SqL.of hia), _, _, rfl, rfl, _, rfl, ?_⟩
    have d1 : ∀ l : List Str, decide ((8 : Int) < ((l.map V.str).length : Nat)) = decide (8 < l.length) := fun l => by
      rw [List.length_map]
      by_cases h : 8 < l.length
      · rw [decide_eq_true h, decide_eq_true (by omega)]
      · rw [decide_eq_false h, decide_eq_false (by omega)]
    rw [d1]
    cases c9 : decide (8 < ins.length) with
    | true => exact iteT (k .non _ sTa (by rw [c7, c8, c9]; rfl))
    | false =>
    refine iteF ⟨_, rfl, ol, _, rfl, .inl (SqL.of hoa), _, _, rfl, rfl, _, rfl, ?_⟩
    rw [d1]
    cases c10 : decide (8 < outs.length) with
    | true => exact iteT (k .non _ sTa (by rw [c7, c8, c9, c10]; rfl))
    | false =>
    refine iteF ?_
    rw [c7, c8, c9, c10, if_neg (by decide)] at k
    walk_at "nx"
    refine ⟨_, rfl, _, rfl, szl (show 2 ≤ 100000 by decide), fun t ht => k (.ref t) _ (sTa.trans (same_new ht)) ⟨t, il, ol, rfl, upd_same, ?_, ?_⟩⟩
    · rw [upd_ne (ne_of_none hia ht)]; exact hia
    · rw [upd_ne (ne_of_none hoa ht)]; exact hoa

end
end K07

set_option maxRecDepth 100000
set_option maxHeartbeats 4000000

namespace K07
open PySem L2 Ly
local macro_rules | `(tactic| walk_at "nx") => `(tactic| dsimp only [tNext])
section
variable {P : Program} {w : World} {K : PySem.W.Frag} {mg : Str → Option Value} {base : Heap} {ad : Adr}
theorem dp_strsA {K : PySem.W.Frag} {H : Hp} (l : List Str) : DpAll K H (l.map V.str) (l.map PyData.str) := by
  induction l with
  | nil => exact .nil
  | cons c r ih => exact .cons (.str _) ih
theorem okT_S {n : Nat} {z : Str} (h : OkT n z) : PySem.PyData.strOk z = true := by
  show z.cps.all (fun c => decide (c < 1114112)) = true
  rw [← Array.all_toList]
  exact h.sg
theorem sc_law_wrong : FnScope ["text", "rows", "head", "parts", "targets", "number", "row", "halves"] ["text"] (defScope s_law_wrong) := ⟨rfl, rfl, rfl, by decide +kernel, rfl, by decide +kernel, by decide +kernel⟩
def spWrong7 : Sp := fun vs H Q _ => ∃ z : Str, vs = [.str z] ∧ TxtN 100000 12000 1900 z ∧ ∀ H', Same H H' → Q (dueN (lawWrong z)) H'
theorem ok_wrong7 {f : Addr} {fd fdA fdB fdP fdH : FuncData} (F : Fun K "_law_wrong" "_law_wrong" s_law_wrong f fd) (T : Txt K w mg ad) (G_law_is_name : FnOk P w K mg base CX0 1 ad.f_law_is_name fdA ["word"] spName7) (b_law_is_name : Binds K fdA ["word"] [])
    (G_law_is_block : FnOk P w K mg base CX0 2 ad.f_law_is_block fdB ["text"] spIsBlock) (b_law_is_block : Binds K fdB ["text"] []) (G_law_is_port : FnOk P w K mg base CX0 2 ad.f_law_is_port fdP ["text", "own", "parts"] (spPort7 K)) (b_law_is_port : Binds K fdP ["text", "own", "parts"] [])
    (G_law_head : FnOk P w K mg base CX0 2 ad.f_law_head fdH ["row"] spHead7) (b_law_head : Binds K fdH ["row"] []) :
    FnOk P w K mg base CX0 3 f fd ["text"] spWrong7 := by
  refine F.ok sc_law_wrong (fun vs H Q E h => ?_) (fun cdv A outer s H vs Q E hr h => ?_)
  · obtain ⟨z, rfl, _⟩ := h
    rfl
  · obtain ⟨z, rfl, hN, k⟩ := h
    refine ⟨_, (pss_cons (ps_set (i := 1) sc_law_wrong.nd rfl (Or.inl rfl) (pe_split (pv 0) pe_str))
    (pss_cons (ps_set (i := 2) sc_law_wrong.nd rfl (Or.inl rfl) (pe_call G_law_head (hr.mono (by decide)) rfl T.g__law_head T.k__law_head b_law_head .nil pass0 (pa_cons (pe_ix (ix_listK K) (pv 1) pe_int (fun _ _ => rfl)) pa_nil)))
    (pss_cons (ps_if (pt_cmpR op_isN (pv 2) pe_non (nomark _)) (pss_one (ps_ret pe_int)) pss_nil)
    (pss_cons (ps_par (i := 3) (j := 4) (by rfl) sc_law_wrong.nd rfl rfl (by decide) rfl rfl (pa_cons (pe_lst pa_nil) (pa_cons (pe_lst pa_nil) pa_nil)) (by rfl))
    (pss_cons (ps_for PassesOwn.never rfl (pi_range2 (by rfl) T.n_range (pa_cons pe_int (pa_cons (pe_callB (call_lenK K) (by rfl) T.n_len (by decide +kernel) (pa_cons (pv 1) pa_nil)) pa_nil))) (pg_name (i := 5) sc_law_wrong.nd rfl (Or.inl rfl))
    (pss_cons (ps_set (i := 6) sc_law_wrong.nd rfl (Or.inl rfl) (pe_ix (ix_listK K) (pv 1) (pv 5) (fun _ _ => rfl)))
    (pss_cons (ps_if (pt_cmpR op_eq (pv 6) pe_str (nomark _)) (pss_one (ps_ret (pe_ifExp (pt_cmpR op_eq (pv 5) (pe_op op_sub (pe_callB (call_lenK K) (by rfl) T.n_len (by decide +kernel) (pa_cons (pv 1) pa_nil)) pe_int) (nomark _)) pe_non (pe_op op_add (pv 5) pe_int)))) pss_nil)
    (pss_one (ps_if (pt_cmpR op_eq (pe_slice sl_str (pv 6) po_none (po_some pe_int)) pe_str (nomark _)) (pss_cons (ps_set (i := 7) sc_law_wrong.nd rfl (Or.inl rfl) (pe_split (pe_slice sl_str (pv 6) (po_some pe_int) po_none) pe_str))
    (pss_cons (ps_if (PW.pt (pw_or (pt_cmpR op_ne (pe_callB (call_lenK K) (by rfl) T.n_len (by decide +kernel) (pa_cons (pv 7) pa_nil)) pe_int (nomark _)) (pw_or (pt_not (pt_val (pe_call G_law_is_name (hr.mono (by decide)) rfl T.g__law_is_name T.k__law_is_name b_law_is_name .nil pass0 (pa_cons (pe_ix (ix_listK K) (pv 7) pe_int (fun _ _ => rfl)) pa_nil)))) (pw_or1 (pt_not (pt_val (pe_call G_law_is_block (hr.mono (by decide)) rfl T.g__law_is_block T.k__law_is_block b_law_is_block .nil pass0 (pa_cons (pe_ix (ix_listK K) (pv 7) pe_int (fun _ _ => rfl)) pa_nil)))))))) (pss_one (ps_ret (pv 5))) pss_nil)
    (pss_cons (ps_if (PW.pt (pw_or (pt_cmpR (op_neDK K hr.units) (pv 4) (pe_lst pa_nil) (nomark _)) (pw_or (pt_cmpR op_eq (pe_callB (call_lenK K) (by rfl) T.n_len (by decide +kernel) (pa_cons (pv 3) pa_nil)) pe_int (nomark _)) (pw_or1 (pt_cmpR (op_in_seqK K) (pe_ix (ix_listK K) (pv 7) pe_int (fun _ _ => rfl)) (pv 3) (by rfl)))))) (pss_one (ps_ret (pv 5))) pss_nil)
    (pss_one (ps_expr (pe_bm PySem.F.plainAttrs_list PySem.F.slot_list_append PySem.F.type_list_append mt_append (pv 3) (pa_cons (pe_ix (ix_listK K) (pv 7) pe_int (fun _ _ => rfl)) pa_nil))))))) (pss_cons (ps_set (i := 7) sc_law_wrong.nd rfl (Or.inl rfl) (pe_split (pe_slice sl_str (pv 6) (po_some pe_int) po_none) pe_str))
    (pss_cons (ps_if (PW.pt (pw_or (pt_cmpR op_ne (pe_slice sl_str (pv 6) po_none (po_some pe_int)) pe_str (nomark _)) (pw_or (pt_cmpR op_ne (pe_callB (call_lenK K) (by rfl) T.n_len (by decide +kernel) (pa_cons (pv 7) pa_nil)) pe_int (nomark _)) (pw_or1 (pt_not (pt_val (pe_call G_law_is_port (hr.mono (by decide)) rfl T.g__law_is_port T.k__law_is_port b_law_is_port .nil pass0 (pa_cons (pe_ix (ix_listK K) (pv 7) pe_int (fun _ _ => rfl)) (pa_cons (pe_ix (ix_tupK K) (pv 2) pe_int (fun _ _ => rfl)) (pa_cons (pv 3) pa_nil)))))))))) (pss_one (ps_ret (pv 5))) pss_nil)
    (pss_cons (ps_if (PW.pt (pw_or (pt_not (pt_val (pe_call G_law_is_port (hr.mono (by decide)) rfl T.g__law_is_port T.k__law_is_port b_law_is_port .nil pass0 (pa_cons (pe_ix (ix_listK K) (pv 7) pe_int (fun _ _ => rfl)) (pa_cons (pe_ix (ix_tupK K) (pv 2) pe_int (fun _ _ => rfl)) (pa_cons (pv 3) pa_nil)))))) (pw_or1 (pt_cmpR (op_in_seqK K) (pe_ix (ix_listK K) (pv 7) pe_int (fun _ _ => rfl)) (pv 4) (by rfl))))) (pss_one (ps_ret (pv 5))) pss_nil)
    (pss_one (ps_expr (pe_bm PySem.F.plainAttrs_list PySem.F.slot_list_append PySem.F.type_list_append mt_append (pv 4) (pa_cons (pe_ix (ix_listK K) (pv 7) pe_int (fun _ _ => rfl)) pa_nil))))))))))))
    (pss_one (ps_ret (pe_callB (call_lenK K) (by rfl) T.n_len (by decide +kernel) (pa_cons (pv 1) pa_nil))))))))), ?_⟩
    have hzl := hN.ok.ln
    have hrows := okT_splitG (y := "\n") (by decide +kernel) (by decide +kernel) hN.ok
    have hcnt := rows_nl_count z
    have hnl := hN.nl
    have hsp := hN.sp
    have hmsp : ∀ p ∈ Txt.split z "\n", mu fSp p ≤ 1900 := fun p hp => by
      have a := mu_split fSp z "\n"
      have b := mus_mem (f := fSp) hp
      have c : mu fSp "\n" = 0 := by decide +kernel
      rw [c] at a
      omega
    unfold lawWrong at k
    have hsz := sizeLine_eq
    refine ⟨_, rfl, ⟨_, rfl⟩, z, "\n", rfl, rfl, (by decide +kernel), szn (by omega), fun p hp0 => ?_⟩
    generalize Txt.split z "\n" = rows at k hrows hcnt hmsp
    have hp1 : upd H p (.lst (rows.map V.str)) p = some (.lst (rows.map V.str)) := upd_same
    have s1 : Same H (upd H p (.lst (rows.map V.str))) := same_new hp0
    revert hp1 s1
    generalize upd H p (.lst (rows.map V.str)) = H1
    intro hp1 s1
    dsimp only [gName]
    match rows, hrows, hcnt, hmsp, k, hp1 with
    | [], _, hcnt, _, _, _ => simp at hcnt
    | y :: rest, hrows, hcnt, hmsp, k, hp1 =>
    dsimp only at k
    rw [List.length_cons] at hcnt
    refine ⟨_, rfl, p, _, _, _, rfl, rfl, SqL.of hp1, atI_nat (j := 0) rfl, y, rfl, hrows y (by simp), hmsp y (by simp), fun v H2 s2 hv => ?_⟩
    have s12 := s1.trans s2
    have hp2 := s2 _ _ hp1
    dsimp only [gName]
    cases hh : lawHead y with
    | none =>
      rw [hh] at hv k
      cases (show v = .non from hv)
      exact ⟨_, rfl, rfl, _, rfl, iteT (k _ s12)⟩
    | some x =>
    obtain ⟨ins, outs⟩ := x
    rw [hh] at hv k
    obtain ⟨ht, il, ol, rfl, hht, hil, hol⟩ := hv
    dsimp only at k hil hol
    refine ⟨_, rfl, rfl, _, rfl, iteF ?_⟩
    walk_at "nx"
    refine ⟨szl (Nat.zero_le _), fun pl hpl => ⟨szl (Nat.zero_le _), fun tl htl => ?_⟩⟩
    have ntp : pl ≠ tl := ne_of_none (H := upd H2 pl (.lst [])) upd_same htl
    have hpl3 : upd (upd H2 pl (.lst [])) tl (.lst []) pl = some (.lst (([] : List Str).map V.str)) := by rw [upd_ne ntp, upd_same]; rfl
    have htl3 : upd (upd H2 pl (.lst [])) tl (.lst []) tl = some (.lst (([] : List Str).map V.str)) := upd_same
    have s23 : Same H2 (upd (upd H2 pl (.lst [])) tl (.lst [])) := (same_new hpl).trans (same_new htl)
    have hplH : H pl = none := s12.free hpl
    have htlH : H tl = none := (s12.trans (same_new (o := .lst []) hpl)).free htl
    have s03 := s12.trans s23
    revert hpl3 htl3 s23 s03
    generalize upd (upd H2 pl (.lst [])) tl (.lst []) = H3
    intro hpl3 htl3 s23 s03
    refine ⟨_, _, rfl, ?_⟩
    dsimp only
    have hp3 := s23 _ _ hp2
    have hht3 := s23 _ _ hht
    have hil3 := s23 _ _ hil
    have hol3 := s23 _ _ hol
    have nl2 : ∀ {a : Addr} {o : HO}, H2 a = some o → a ∉ [pl, tl] := fun {a o} e hm => by
      rcases List.mem_cons.mp hm with rfl | hm
      · rw [hpl] at e; cases e
      · rw [List.mem_singleton.mp hm] at e
        rw [(same_new (o := .lst []) hpl).free htl] at e
        cases e
    have hsame : ∀ H', SameL [pl, tl] H3 H' → Same H H' := fun H' sl => sl_same s03 sl fun a ha => by
      rcases List.mem_cons.mp ha with rfl | ha
      · exact hplH
      · rw [List.mem_singleton.mp ha]; exact htlH
    have hlen1 : ((y :: rest).map V.str).length = rest.length + 1 := by rw [List.length_map, List.length_cons]
    refine ⟨_, rfl, p, _, rfl, .inl (SqL.of hp3), 1, _, rfl, ⟨by decide, by decide, by omega, by omega⟩, ?_⟩
    rw [hlen1, show (((rest.length + 1 : Nat) : Int) - 1).toNat = rest.length by omega]
    refine for_range (lo := 1) (n := rest.length) (fun i σ H' => (∃ x5 x6 x7 : Option V, σ = [some (.str z), some (.ref p), some (.ref ht), some (.ref pl), some (.ref tl), x5, x6, x7]) ∧ SameL [pl, tl] H3 H' ∧ ∃ ps ts : List Str, H' pl = some (.lst (ps.map V.str)) ∧ H' tl = some (.lst (ts.map V.str)) ∧ ps.length ≤ i ∧ ts.length ≤ i ∧ (∀ t ∈ ts, OkT 100000 t) ∧ lawLoop ins outs (rest.drop i) ps ts (1 + i) = lawLoop ins outs rest [] [] 1) ⟨⟨_, _, _, rfl⟩, SameL.refl _ _, [], [], hpl3, htl3, Nat.le_refl _, Nat.le_refl _, fun t ht => (by cases ht), rfl⟩ ?_ ?_
    · rintro i σ H4 hi ⟨⟨x5, x6, x7, rfl⟩, sl4, ps, ts, hpl4, htl4, hpn, htn, hto, hlo⟩
      dsimp only [gName]
      have ei : (1 : Int) + (i : Nat) = ((1 + i : Nat) : Int) := by omega
      rw [ei]
      have er : rest[i]? = some rest[i] := List.getElem?_eq_getElem hi
      have hdr : rest.drop i = rest[i] :: rest.drop (i + 1) := List.drop_eq_getElem_cons hi
      have hmem : rest[i] ∈ y :: rest := List.mem_cons_of_mem _ (List.getElem_mem hi)
      rw [hdr] at hlo
      generalize rest[i] = row at er hdr hmem hlo
      have hrow := hrows row hmem
      have hrl := hrow.ln
      have kk : ∀ o H', Same H H' → lawLoop ins outs (row :: rest.drop (i + 1)) ps ts (1 + i) = o → Q (dueN o) H' := fun o H' s e => by
        have := k H' s
        rw [← hlo, e] at this
        exact this
      have hp4 := sl4 _ _ (nl2 hp2) hp3
      have hht4 := sl4 _ _ (nl2 hht) hht3
      have hil4 := sl4 _ _ (nl2 hil) hil3
      have hol4 := sl4 _ _ (nl2 hol) hol3
      refine ⟨_, rfl, _, rfl, p, _, _, .str row, rfl, rfl, SqL.of hp4, atI_nat (by rw [List.getElem?_map, Nat.add_comm, List.getElem?_cons_succ, er]; rfl), ?_⟩
      dsimp only [gName]
      refine ⟨_, rfl, rfl, _, rfl, ?_⟩
      rw [dStr]
      by_cases ce : row = "end"
      · rw [decide_eq_true ce]
        have he := ll_end (ins := ins) (outs := outs) (rest := rest.drop (i + 1)) (ps := ps) (ts := ts) (k := 1 + i) ce
        refine iteT ⟨_, rfl, _, rfl, p, _, rfl, .inl (SqL.of hp4), _, _, rfl, rfl, rfl, _, rfl, ?_⟩
        rw [hlen1, dInt]
        by_cases cl : rest.drop (i + 1) = []
        · rw [if_pos cl] at he
          have hl : rest.length ≤ i + 1 := List.drop_eq_nil_iff.mp cl
          rw [decide_eq_true (by omega)]
          exact iteT (kk none _ (hsame _ sl4) he)
        · rw [if_neg cl] at he
          have hl : ¬ rest.length ≤ i + 1 := fun h => cl (List.drop_eq_nil_iff.mpr h)
          rw [decide_eq_false (by omega)]
          exact iteF ⟨_, rfl, _, _, rfl, rfl, kk (some (1 + i + 1)) _ (hsame _ sl4) he⟩
      rw [decide_eq_false ce]
      refine iteF ?_
      walk_at "nx"
      have cs7 : decide (cutS row none (some 7) = "  part ") = Txt.startswith row "  part " := cut_starts (n := 7) (by decide +kernel)
      have cs2 : decide (cutS row none (some 2) = "  ") = Txt.startswith row "  " := cut_starts (n := 2) (by decide +kernel)
      refine ⟨_, rfl, _, rfl, row, rfl, szl hrl, rfl, _, rfl, ?_⟩
      rw [dStr, cs7]
      cases cp : Txt.startswith row "  part " with
      | true =>
        have hcl := cutS_length row (some 7) none
        have hho := okT_splitG (y := " = ") (by decide +kernel) (by decide +kernel) (okT_cut (lo := some 7) (hi := none) hrow)
        have hll := fun hs e => ll_part (ins := ins) (outs := outs) (rest := rest.drop (i + 1)) (ps := ps) (ts := ts) (k := 1 + i) (hs := hs) ce cp e
        refine iteT ⟨_, rfl, _, rfl, row, rfl, szl hrl, ⟨_, rfl⟩, cutS row (some 7) none, " = ", rfl, rfl, (by decide +kernel), szn (by omega), fun hp hhp => ?_⟩
        generalize Txt.split (cutS row (some 7) none) " = " = hs at hho hll
        obtain ⟨hl2, hlx⟩ := hll hs rfl
        have hh5 : upd H4 hp (.lst (hs.map V.str)) hp = some (.lst (hs.map V.str)) := upd_same
        have s5 : Same H4 (upd H4 hp (.lst (hs.map V.str))) := same_new hhp
        revert hh5 s5
        generalize upd H4 hp (.lst (hs.map V.str)) = H5
        intro hh5 s5
        dsimp only [gName]
        have sl5 := sl4.trans (sl_of s5)
        refine ⟨_, rfl, hp, _, rfl, .inl (SqL.of hh5), rfl, _, rfl, ?_⟩
        rw [dInt, List.length_map]
        by_cases h2 : hs.length = 2
        case neg =>
          rw [decide_eq_false (by omega)]
          exact iteT ⟨_, rfl, kk (some (1 + i)) _ (hsame _ sl5) (hlx h2)⟩
        rw [decide_eq_true (by omega)]
        obtain ⟨a, b, rfl⟩ := two_of h2
        have hl := hl2 a b rfl
        have hOa := hho a (by simp)
        have hOb := hho b (by simp)
        refine iteF ⟨_, rfl, hp, _, _, _, rfl, rfl, SqL.of hh5, atI_nat (j := 0) rfl, a, rfl, hOa, fun H6 s6 => ⟨_, rfl, ?_⟩⟩
        have sl6 := sl5.trans (sl_of s6)
        have hh6 := s6 _ _ hh5
        cases n1 : nameOk a with
        | false => exact iteT ⟨_, rfl, kk (some (1 + i)) _ (hsame _ sl6) (by rw [hl, n1]; rfl)⟩
        | true =>
        refine iteF ⟨_, rfl, hp, _, _, _, rfl, rfl, SqL.of hh6, atI_nat (j := 1) rfl, b, rfl, hOb, fun H7 s7 => ⟨_, rfl, ?_⟩⟩
        have sl7 := sl6.trans (sl_of s7)
        have hh7 := s7 _ _ hh6
        have htl7 := s7 _ _ (s6 _ _ (s5 _ _ htl4))
        have hpl7 := s7 _ _ (s6 _ _ (s5 _ _ hpl4))
        cases n2 : blockOk b with
        | false => exact iteT ⟨_, rfl, kk (some (1 + i)) _ (hsame _ sl7) (by rw [hl, n1, n2]; rfl)⟩
        | true =>
        refine iteF ?_
        walk_at "nx"
        refine ⟨_, rfl, szl (Nat.zero_le _), fun q hq => ⟨.list (ts.map PyData.str), .list [], .lst (SqL.of (by rw [upd_ne (ne_of_none htl7 hq)]; exact htl7)) (dp_strsA ts), .lst (SqL.of upd_same) .nil, shp_strs fun t ht => okT_S (hto t ht), rfl, _, rfl, ?_⟩⟩
        have s8 : Same H7 (upd H7 q (.lst [])) := same_new hq
        revert s8
        generalize upd H7 q (.lst []) = H8
        intro s8
        have sl8 := sl7.trans (sl_of s8)
        have hpl8 := s8 _ _ hpl7
        have hh8 := s8 _ _ hh7
        have htl8 := s8 _ _ htl7
        have etl : (!PyData.eqv (.list (ts.map PyData.str)) (.list [])) = !(ts.length == 0) := by
          cases ts with
          | nil => rfl
          | cons t l => rfl
        show if (!PyData.eqv (.list (ts.map PyData.str)) (.list [])) = true then _ else _
        rw [etl]
        cases n3 : ts.length == 0 with
        | false => exact iteT ⟨_, rfl, kk (some (1 + i)) _ (hsame _ sl8) (by rw [hl, n1, n2, n3]; rfl)⟩
        | true =>
        refine iteF ⟨_, rfl, pl, _, rfl, .inl (SqL.of hpl8), rfl, _, rfl, ?_⟩
        rw [dInt, List.length_map]
        have e16 : decide (((ps.length : Nat) : Int) = 16) = (ps.length == 16) := by
          by_cases h : ps.length = 16
          · rw [h]; rfl
          · rw [decide_eq_false (by omega)]
            exact (beq_eq_false_iff_ne.mpr h).symm
        rw [e16]
        cases n4 : ps.length == 16 with
        | true => exact iteT ⟨_, rfl, kk (some (1 + i)) _ (hsame _ sl8) (by rw [hl, n1, n2, n3, n4]; rfl)⟩
        | false =>
        refine iteF ⟨_, rfl, hp, _, _, _, rfl, rfl, SqL.of hh8, atI_nat (j := 0) rfl, _, rfl, pl, _, rfl, .inl (SqL.of hpl8), rfl, flat_strs ps, _, rfl, ?_⟩
        show if (if false = true then _ else inV (.str a) (ps.map V.str)) = true then _ else _
        rw [inV_mem]
        cases n5 : decide (a ∈ ps) with
        | true => exact iteT ⟨_, rfl, kk (some (1 + i)) _ (hsame _ sl8) (by rw [hl, n1, n2, n3, n4, n5]; rfl)⟩
        | false =>
        refine iteF ?_
        walk_at "nx"
        refine ⟨_, rfl, .inl ⟨rfl, _, SqL.of hpl8⟩, _, rfl, hp, _, _, _, rfl, rfl, SqL.of hh8, atI_nat (j := 0) rfl, pl, _, _, rfl, rfl, hpl8, szt (by rw [List.length_map]; omega), ⟨_, _, _, rfl⟩, sl8.trans (sl_put (SameL.refl _ _) (by simp)), ps ++ [a], ts, (by rw [upd_same, List.map_append]; rfl), (by rw [upd_ne ntp.symm]; exact htl8), (by rw [List.length_append, List.length_singleton]; omega), (by omega), hto, ?_⟩
        rw [hl, n1, n2, n3, n4, n5] at hlo
        exact hlo
      | false =>
        have hcl := cutS_length row (some 2) none
        have hho := okT_splitG (y := " <- ") (by decide +kernel) (by decide +kernel) (okT_cut (lo := some 2) (hi := none) hrow)
        have hll := fun hs e => ll_wire (ins := ins) (outs := outs) (rest := rest.drop (i + 1)) (ps := ps) (ts := ts) (k := 1 + i) (hs := hs) ce cp e
        refine iteF ⟨_, rfl, _, rfl, row, rfl, szl hrl, ⟨_, rfl⟩, cutS row (some 2) none, " <- ", rfl, rfl, (by decide +kernel), szn (by omega), fun hp hhp => ?_⟩
        generalize Txt.split (cutS row (some 2) none) " <- " = hs at hho hll
        obtain ⟨hl2, hlx, hly⟩ := hll hs rfl
        have hh5 : upd H4 hp (.lst (hs.map V.str)) hp = some (.lst (hs.map V.str)) := upd_same
        have s5 : Same H4 (upd H4 hp (.lst (hs.map V.str))) := same_new hhp
        revert hh5 s5
        generalize upd H4 hp (.lst (hs.map V.str)) = H5
        intro hh5 s5
        dsimp only [gName]
        have sl5 := sl4.trans (sl_of s5)
        refine ⟨_, rfl, _, rfl, row, rfl, szl hrl, rfl, _, rfl, ?_⟩
        rw [dStr, cs2]
        cases n0 : Txt.startswith row "  " with
        | false => exact iteT ⟨_, rfl, kk (some (1 + i)) _ (hsame _ sl5) (hly n0)⟩
        | true =>
        refine iteF ⟨_, rfl, hp, _, rfl, .inl (SqL.of hh5), rfl, _, rfl, ?_⟩
        rw [dInt, List.length_map]
        by_cases h2 : hs.length = 2
        case neg =>
          rw [decide_eq_false (by omega)]
          exact iteT ⟨_, rfl, kk (some (1 + i)) _ (hsame _ sl5) (hlx h2)⟩
        rw [decide_eq_true (by omega)]
        obtain ⟨a, b, rfl⟩ := two_of h2
        have hl := hl2 a b rfl
        have hOa := hho a (by simp)
        have hOb := hho b (by simp)
        have hht5 := s5 _ _ hht4
        have hol5 := s5 _ _ hol4
        have hil5 := s5 _ _ hil4
        have hpl5 := s5 _ _ hpl4
        refine iteF ⟨_, rfl, hp, _, _, _, rfl, rfl, SqL.of hh5, atI_nat (j := 0) rfl, _, rfl, ht, _, _, _, rfl, rfl, SqT.of hht5, atI_nat (j := 1) rfl, _, rfl, a, ol, pl, outs, ps, rfl, hOa, SqL.of hol5, SqL.of hpl5, fun H6 s6 => ⟨_, rfl, ?_⟩⟩
        have sl6 := sl5.trans (sl_of s6)
        cases n1 : portB outs ps a with
        | false => exact iteT ⟨_, rfl, kk (some (1 + i)) _ (hsame _ sl6) (by rw [hl, n0, n1]; rfl)⟩
        | true =>
        refine iteF ?_
        walk_at "nx"
        have hh6 := s6 _ _ hh5
        have hht6 := s6 _ _ hht5
        have hil6 := s6 _ _ hil5
        have hpl6 := s6 _ _ hpl5
        have htl6 := s6 _ _ (s5 _ _ htl4)
        refine ⟨_, rfl, hp, _, _, _, rfl, rfl, SqL.of hh6, atI_nat (j := 1) rfl, _, rfl, ht, _, _, _, rfl, rfl, SqT.of hht6, atI_nat (j := 0) rfl, _, rfl, b, il, pl, ins, ps, rfl, hOb, SqL.of hil6, SqL.of hpl6, fun H7 s7 => ⟨_, rfl, ?_⟩⟩
        have sl7 := sl6.trans (sl_of s7)
        have hh7 := s7 _ _ hh6
        have htl7 := s7 _ _ htl6
        have hpl7 := s7 _ _ hpl6
        cases n2 : portB ins ps b with
        | false => exact iteT ⟨_, rfl, kk (some (1 + i)) _ (hsame _ sl7) (by rw [hl, n0, n1, n2]; rfl)⟩
        | true =>
        refine iteF ⟨_, rfl, hp, _, _, _, rfl, rfl, SqL.of hh7, atI_nat (j := 0) rfl, _, rfl, tl, _, rfl, .inl (SqL.of htl7), rfl, flat_strs ts, _, rfl, ?_⟩
        show if (if false = true then _ else inV (.str a) (ts.map V.str)) = true then _ else _
        rw [inV_mem]
        cases n3 : decide (a ∈ ts) with
        | true => exact iteT ⟨_, rfl, kk (some (1 + i)) _ (hsame _ sl7) (by rw [hl, n0, n1, n2, n3]; rfl)⟩
        | false =>
        refine iteF ?_
        walk_at "nx"
        refine ⟨_, rfl, .inl ⟨rfl, _, SqL.of htl7⟩, _, rfl, hp, _, _, _, rfl, rfl, SqL.of hh7, atI_nat (j := 0) rfl, tl, _, _, rfl, rfl, htl7, szt (by rw [List.length_map]; omega), ⟨_, _, _, rfl⟩, sl7.trans (sl_put (SameL.refl _ _) (by simp)), ps, ts ++ [a], (by rw [upd_ne ntp]; exact hpl7), (by rw [upd_same, List.map_append]; rfl), (by omega), (by rw [List.length_append, List.length_singleton]; omega), fun t ht => ?_, ?_⟩
        · rcases List.mem_append.mp ht with ht | ht
          · exact hto t ht
          · rw [List.mem_singleton.mp ht]; exact hOa
        · rw [hl, n0, n1, n2, n3] at hlo
          exact hlo
    · rintro σ H4 ⟨⟨x5, x6, x7, rfl⟩, sl4, ps, ts, hpl4, htl4, hpn, htn, hto, hlo⟩
      have hp4 := sl4 _ _ (nl2 hp2) hp3
      dsimp only
      have kk := k _ (hsame _ sl4)
      rw [← hlo, List.drop_length] at kk
      refine ⟨_, rfl, p, _, rfl, .inl (SqL.of hp4), ?_⟩
      rw [hlen1, Nat.add_comm]
      exact kk

end
end K07

set_option maxRecDepth 100000
set_option maxHeartbeats 4000000

namespace K07
open PySem L2 Ly
local macro_rules | `(tactic| walk_at "nx") => `(tactic| dsimp only [tNext])
section
variable {P : Program} {w : World} {K : PySem.W.Frag} {mg : Str → Option Value} {base : Heap} {ad : Adr}
theorem sc_law_told : FnScope ["text", "caught", "found", "error"] ["text"] (defScope s_law_told) := ⟨rfl, rfl, rfl, by decide +kernel, rfl, by decide +kernel, by decide +kernel⟩
def spTold7 : Sp := fun vs H Q _ => ∃ z : Str, vs = [.str z] ∧ TextFits z ∧ ∀ H', Same H H' → Q (dueN (wrongOf (parseR z))) H'
theorem ok_told7 {f : Addr} {fd : FuncData} (F : Fun K "_law_told" "_law_told" s_law_told f fd) (T : Txt K w mg ad) (G_Diagram_parse : FnR P w K mg base (L2.CX P w) 7 ad.f_Diagram_parse (spDParse K ad.C_Diagram ad.C_InvalidText)) :
    FnOk P w K mg base CX0 8 f fd ["text"] spTold7 := by
  refine F.ok sc_law_told (fun vs H Q E h => ?_) (fun cdv A outer s H vs Q E hr h => ?_)
  · obtain ⟨z, rfl, _⟩ := h
    rfl
  · obtain ⟨z, rfl, hz, k⟩ := h
    refine ⟨_, (pss_cons (ps_asg (pe_tup (pa_cons pe_non (pa_cons pe_non pa_nil))) (pg_tup (by rfl) (pgs_cons (pg_name (i := 1) sc_law_told.nd rfl (Or.inl rfl)) (pgs_cons (pg_name (i := 2) sc_law_told.nd rfl (Or.inl rfl)) pgs_nil))))
    (pss_cons (ps_try_keep (i := 3) (tb := fun W => tAsg (tCMethS ad.C_Diagram (spDParse K ad.C_Diagram ad.C_InvalidText) (WE W) (tC (.ref ad.C_Diagram)) (tCons (tVar 0) tNil)) (gName 2)) (ts := fun a cls d => tAsg (tVar 3) (gName 1)) (Wout := fun _ _ _ _ => False) rfl rfl sc_law_told.nd rfl rfl ⟨rfl, by decide, Or.inl T.g_BlockError⟩ takes0
      (fun W pn xe tk _ => pss_one (ps_set (i := 2) sc_law_told.nd rfl (Or.inl rfl) (by exact (pe_cmethS (pe_glob (v := .ref ad.C_Diagram) rfl T.g_Diagram rfl) T.cr_Diagram T.cm_Diagram_parse G_Diagram_parse (hr.mono (by decide)) (fun σ => passAt tk σ) (by exact (pa_cons (pv 0) pa_nil))))))
      (fun a cls d pn => pss_one (ps_set (i := 1) sc_law_told.nd rfl (Or.inl rfl) (pv 3))))
    (pss_cons (ps_if (pt_cmpR op_isN (pv 1) pe_non (nomark _)) (pss_one (ps_ret (pe_ifExp (pt_val (pe_callB (call_isiK K) (by rfl) T.n_isinstance (by decide +kernel) (pa_cons (pv 2) (pa_cons (pe_glob (v := .ref ad.C_Diagram) rfl T.g_Diagram rfl) pa_nil)))) pe_non pe_str))) pss_nil)
    (pss_cons (ps_if (PW.pt (pw_or (pt_not (pt_val (pe_callB (call_isX K) (by rfl) T.n_isinstance (by decide +kernel) (pa_cons (pv 1) (pa_cons (pe_glob (v := .ref ad.C_InvalidText) rfl T.g_InvalidText rfl) pa_nil))))) (pw_or1 (pt_not (pt_val (pe_callB (call_isX K) (by rfl) T.n_isinstance (by decide +kernel) (pa_cons (pv 1) (pa_cons (pe_bltn (v := .ty "ValueError") rfl T.n_ValueError (by decide +kernel) rfl) pa_nil)))))))) (pss_one (ps_ret pe_str)) pss_nil)
    (pss_one (ps_ret (pe_xt T.xf_InvalidText T.no_InvalidText_row (pv 1)))))))), ?_⟩
    refine ⟨szl (show 2 ≤ 100000 by decide), fun t0 ht0 => ⟨t0, _, rfl, SqT.of upd_same, rfl, _, _, rfl, _, _, rfl, rfl, ?_⟩⟩
    have s0 := same_new (o := .tup [V.non, .non]) ht0
    refine ⟨rfl, _, rfl, z, rfl, hz, fun r hp y H' ws n hn s1 hyn hord hD => ?_, fun j hp d H' s1 hd => ?_⟩
    · obtain ⟨dy, di, do_, dp, dw, hobj, _⟩ := hD
      have kk := k _ (s0.trans s1)
      rw [hp] at kk
      refine ⟨_, rfl, rfl, _, rfl, iteT ?_⟩
      exact ⟨_, rfl, V.ref y, V.ref ad.C_Diagram, .ref ad.C_Diagram, .ref ad.C_Diagram, true, rfl, .own _, T.ty_Diagram _ _ _ _ hobj, T.ki_Diagram_Diagram, _, rfl, iteT kk⟩
    · refine ⟨true, T.em_InvalidText, fun _ a ha => ?_, fun q => Bool.noConfusion q⟩
      have nda : d ≠ a := ne_of_none hd ha
      have e1 : upd H' a (ExT (.ref ad.C_InvalidText) (some d) a) d = some (.xd [("row", .int (j : Nat))]) := by rw [upd_ne nda]; exact hd
      have s2 := (s0.trans s1).trans (same_new (o := ExT (.ref ad.C_InvalidText) (some d) a) ha)
      refine ⟨_, rfl, ?_⟩
      refine ⟨_, rfl, rfl, _, rfl, iteF ?_⟩
      refine ⟨_, rfl, a, _, d, _, _, .ref ad.C_InvalidText, true, rfl, upd_same, e1, T.ek_InvalidText, .own _, kit_self, _, rfl, iteF ?_⟩
      refine ⟨_, rfl, a, _, d, _, _, .type "ValueError", true, rfl, upd_same, e1, T.ek_InvalidText, .ty _, T.kv_InvalidText, _, rfl, iteF ?_⟩
      refine ⟨_, rfl, a, d, _, .int (j : Nat), rfl, upd_same, e1, rfl, ?_⟩
      have kk := k _ s2
      rw [hp] at kk
      exact kk
theorem sc_law_signs : FnScope ["feed", "text", "at", "sign", "left", "right", "some"] ["feed", "text"] (defScope s_law_signs) := ⟨rfl, rfl, rfl, by decide +kernel, rfl, by decide +kernel, by decide +kernel⟩
def spChg7 : Sp := fun vs H Q _ => ∃ (p : Addr) (z : Str) (a b : Int), vs = [.ref p, .str z] ∧ FeedAt H p a b ∧ OkT 49800 z ∧
  ∀ z' H' a' b', SameX p H H' → FeedAt H' p a' b' → Chg z z' → Q (.str z') H'
theorem ok_signs7 {f : Addr} {fd fdt fdp : FuncData} (F : Fun K "_law_signs" "_law_signs" s_law_signs f fd) (T : Txt K w mg ad) (G_law_take : FnOk P w K mg base CX0 1 ad.f_law_take fdt ["feed", "many"] spTake) (b_law_take : Binds K fdt ["feed", "many"] [])
    (G_law_pick : FnOk P w K mg base CX0 2 ad.f_law_pick fdp ["feed", "some"] (spPick2 K)) (b_law_pick : Binds K fdp ["feed", "some"] []) :
    FnOk P w K mg base CX0 3 f fd ["feed", "text"] spChg7 := by
  refine F.ok sc_law_signs (fun vs H Q E h => ?_) (fun cdv A outer s H vs Q E hr h => ?_)
  · obtain ⟨p, z, a, b, rfl, _⟩ := h
    rfl
  · obtain ⟨p, z, a, b, rfl, hf, hO, k⟩ := h
    refine ⟨_, (pss_cons (ps_set (i := 2) sc_law_signs.nd rfl (Or.inl rfl) (pe_call G_law_take (hr.mono (by decide)) rfl T.g__law_take T.k__law_take b_law_take .nil pass0 (pa_cons (pv 0) (pa_cons (pe_op op_add (pe_callB call_len_str (by rfl) T.n_len (by decide +kernel) (pa_cons (pv 1) pa_nil)) pe_int) pa_nil))))
    (pss_cons (ps_set (i := 3) sc_law_signs.nd rfl (Or.inl rfl) (pe_call G_law_pick (hr.mono (by decide)) rfl T.g__law_pick T.k__law_pick b_law_pick .nil pass0 (pa_cons (pv 0) (pa_cons pe_str pa_nil))))
    (pss_cons (ps_par (i := 4) (j := 5) (by rfl) sc_law_signs.nd rfl rfl (by decide) rfl rfl (pa_cons (pe_slice sl_str (pv 1) po_none (po_some (pv 2))) (pa_cons (pe_slice sl_str (pv 1) (po_some (pe_op op_add (pv 2) pe_int)) po_none) pa_nil)) (by rfl))
    (pss_cons (ps_set (i := 6) sc_law_signs.nd rfl (Or.inl rfl) (pe_lst (pa_cons (pe_op op_add_str (pe_op op_add_str (pv 4) (pv 3)) (pe_slice sl_str (pv 1) (po_some (pv 2)) po_none)) (pa_cons (pe_op op_add_str (pv 4) (pv 5)) pa_nil))))
    (pss_one (ps_ret (pe_call G_law_pick (hr.mono (by decide)) rfl T.g__law_pick T.k__law_pick b_law_pick .nil pass0 (pa_cons (pv 0) (pa_cons (pe_op op_cat (pv 6) (pe_lst (pa_cons (pe_op op_add_str (pe_op op_add_str (pv 4) (pv 3)) (pv 5)) pa_nil))) pa_nil))))))))), ?_⟩
    have hzl := hO.ln
    refine ⟨_, rfl, _, rfl, z, rfl, szl (by omega), _, _, rfl, rfl, p, _, a, b, rfl, hf, by omega, by omega, fun d1 a1 b1 h10 h11 hf1 => ?_⟩
    have s1 : SameX p H (upd H p (.lst [.int a1, .int b1])) := sx_put (sx_of (Same.refl H))
    revert hf1 s1
    generalize upd H p (.lst [.int a1, .int b1]) = H1
    intro hf1 s1
    dsimp only [gName]
    refine ⟨_, rfl, .inr ⟨p, _, a1, b1, rfl, hf1, ⟨by decide +kernel, by decide +kernel⟩, by decide +kernel, fun s a2 b2 hs hf2 => ?_⟩⟩
    have s2 : SameX p H1 (upd H1 p (.lst [.int a2, .int b2])) := sx_put (sx_of (Same.refl H1))
    revert hf2 s2
    generalize upd H1 p (.lst [.int a2, .int b2]) = H2
    intro hf2 s2
    dsimp only [gName]
    have hsl := hs.ln
    have c1 := cutS_length z none (some d1)
    have c2 := cutS_length z (some (d1 + 1)) none
    have c3 := cutS_length z (some d1) none
    refine ⟨_, rfl, _, rfl, _, rfl, z, rfl, szl (by omega), _, rfl, _, rfl, _, _, rfl, rfl, _, rfl, z, rfl, szl (by omega), _, _, rfl, ?_⟩
    dsimp only
    have o1 := okT_cut (lo := none) (hi := some d1) hO
    have o2 := okT_cut (lo := some (d1 + 1)) (hi := none) hO
    have o3 := okT_cut (lo := some d1) (hi := none) hO
    have m1 : ∀ f : Nat → Nat, mu f (cutS z none (some d1)) ≤ mu f z := fun f => mu_cut
    have m2 : ∀ f : Nat → Nat, mu f (cutS z (some (d1 + 1)) none) ≤ mu f z := fun f => mu_cut
    have m3 : ∀ f : Nat → Nat, mu f (cutS z (some d1) none) ≤ mu f z := fun f => mu_cut
    have la : ∀ x y : Str, (x ++ y : Str).length = x.length + y.length := fun x y => PySem.Str.length_append x y
    refine ⟨_, rfl, _, rfl, _, _, rfl, rfl, szl (by omega), _, rfl, _, rfl, _, rfl, z, rfl, szl (by omega), _, _, rfl, rfl, szl (by rw [la]; omega), _, rfl, _, rfl, _, _, rfl, rfl, szl (by omega), szl (show 2 ≤ 100000 by decide), fun sl' hsl' => ?_⟩
    revert m1 m2 m3 o1 o2 o3 c1 c2 c3
    generalize cutS z none (some d1) = x1
    generalize cutS z (some (d1 + 1)) none = x2
    generalize cutS z (some d1) none = x3
    intro c1 c2 c3 o1 o2 o3 m1 m2 m3
    have nsp : sl' ≠ p := (ne_of_none hf2.1 hsl').symm
    dsimp only [gName]
    have hs3 : upd H2 sl' (.lst [.str (x1 ++ s ++ x3), .str (x1 ++ x2)]) sl' = some (.lst [.str (x1 ++ s ++ x3), .str (x1 ++ x2)]) := upd_same
    have s3 : SameX p H2 (upd H2 sl' (.lst [.str (x1 ++ s ++ x3), .str (x1 ++ x2)])) := sx_of (same_new hsl')
    have hf3 := feed_new (o := .lst [.str (x1 ++ s ++ x3), .str (x1 ++ x2)]) hf2 hsl'
    revert hs3 s3 hf3
    generalize upd H2 sl' (.lst [.str (x1 ++ s ++ x3), .str (x1 ++ x2)]) = H3
    intro hs3 s3 hf3
    refine ⟨_, rfl, _, rfl, _, rfl, _, rfl, _, _, rfl, rfl, szl (by omega), _, rfl, _, _, rfl, rfl, szl (by rw [la]; omega), szl (show 1 ≤ 100000 by decide), fun l hl => ⟨sl', l, [.str (x1 ++ s ++ x3), .str (x1 ++ x2)], [.str (x1 ++ s ++ x2)], rfl, rfl, (by rw [upd_ne (ne_of_none hs3 hl)]; exact hs3), upd_same, szl (show 3 ≤ 100000 by decide), fun m hm => ?_⟩⟩
    have hf4 := feed_new (o := .lst [.str (x1 ++ s ++ x2)]) hf3 hl
    have hf5 := feed_new (o := .lst ([.str (x1 ++ s ++ x3), .str (x1 ++ x2)] ++ [.str (x1 ++ s ++ x2)])) hf4 hm
    have nmp : m ≠ p := (ne_of_none hf4.1 hm).symm
    have s5 : SameX p H3 (upd (upd H3 l (.lst [.str (x1 ++ s ++ x2)])) m (.lst ([.str (x1 ++ s ++ x3), .str (x1 ++ x2)] ++ [.str (x1 ++ s ++ x2)]))) := sx_of ((same_new hl).trans (same_new hm))
    refine .inl ⟨p, m, _, a2, b2, rfl, hf5, SqL.of upd_same, nmp, by show 0 < 3; decide, by show 3 ≤ 1000; decide, fun v a6 b6 hv hf6 => ?_⟩
    have fin : ∀ z', v = .str z' → Chg z z' → Q v (upd (upd (upd H3 l (.lst [.str (x1 ++ s ++ x2)])) m (.lst ([.str (x1 ++ s ++ x3), .str (x1 ++ x2)] ++ [.str (x1 ++ s ++ x2)]))) p (.lst [.int a6, .int b6])) := fun z' e c => by
      rw [e]
      exact k z' _ a6 b6 ((((s1.trans s2).trans s3).trans s5).trans (sx_put (sx_of (Same.refl _)))) hf6 c
    simp only [List.cons_append, List.nil_append, List.mem_cons, List.not_mem_nil, or_false] at hv
    rcases hv with rfl | rfl | rfl
    · exact fin _ rfl (chg_three hO hs o1 o3 m1 m3)
    · exact fin _ rfl (chg_two hO o1 o2 m1 m2)
    · exact fin _ rfl (chg_three hO hs o1 o2 m1 m2)
theorem erase_map {α β : Type} (f : α → β) : ∀ (l : List α) (i : Nat), (l.map f).eraseIdx i = (l.eraseIdx i).map f
  | [], _ => rfl
  | _ :: _, 0 => rfl
  | a :: l, i + 1 => by
    show f a :: (l.map f).eraseIdx i = _
    rw [erase_map f l i]
    rfl
theorem sc_law_pieces : FnScope ["feed", "text", "sep", "some", "at", "other", "way", "odd"] ["feed", "text", "sep"] (defScope s_law_pieces) := ⟨rfl, rfl, rfl, by decide +kernel, rfl, by decide +kernel, by decide +kernel⟩
def spPieces7 : Sp := fun vs H Q _ => ∃ (p : Addr) (z y : Str) (a b : Int), vs = [.ref p, .str z, .str y] ∧ FeedAt H p a b ∧ OkT 49800 z ∧ (y = "\n" ∨ y = " ") ∧
  ∀ z' H' a' b', SameX p H H' → FeedAt H' p a' b' → Chg z z' → Q (.str z') H'
theorem ok_pieces7 {f : Addr} {fd fdt fdp : FuncData} (F : Fun K "_law_pieces" "_law_pieces" s_law_pieces f fd) (T : Txt K w mg ad) (G_law_take : FnOk P w K mg base CX0 1 ad.f_law_take fdt ["feed", "many"] spTake) (b_law_take : Binds K fdt ["feed", "many"] [])
    (G_law_pick : FnOk P w K mg base CX0 2 ad.f_law_pick fdp ["feed", "some"] (spPick2 K)) (b_law_pick : Binds K fdp ["feed", "some"] []) :
    FnOk P w K mg base CX0 3 f fd ["feed", "text", "sep"] spPieces7 := by
  refine F.ok sc_law_pieces (fun vs H Q E h => ?_) (fun cdv A outer s H vs Q E hr h => ?_)
  · obtain ⟨p, z, y, a, b, rfl, _⟩ := h
    rfl
  · obtain ⟨p, z, y, a, b, rfl, hf, hO, hy, k⟩ := h
    refine ⟨_, (pss_cons (ps_set (i := 3) sc_law_pieces.nd rfl (Or.inl rfl) (pe_split (pv 1) (pv 2)))
    (pss_cons (ps_par (i := 4) (j := 5) (by rfl) sc_law_pieces.nd rfl rfl (by decide) rfl rfl (pa_cons (pe_call G_law_take (hr.mono (by decide)) rfl T.g__law_take T.k__law_take b_law_take .nil pass0 (pa_cons (pv 0) (pa_cons (pe_callB (call_lenK K) (by rfl) T.n_len (by decide +kernel) (pa_cons (pv 3) pa_nil)) pa_nil))) (pa_cons (pe_call G_law_take (hr.mono (by decide)) rfl T.g__law_take T.k__law_take b_law_take .nil pass0 (pa_cons (pv 0) (pa_cons (pe_callB (call_lenK K) (by rfl) T.n_len (by decide +kernel) (pa_cons (pv 3) pa_nil)) pa_nil))) pa_nil)) (by rfl))
    (pss_cons (ps_set (i := 6) sc_law_pieces.nd rfl (Or.inl rfl) (pe_call G_law_take (hr.mono (by decide)) rfl T.g__law_take T.k__law_take b_law_take .nil pass0 (pa_cons (pv 0) (pa_cons pe_int pa_nil))))
    (pss_cons (ps_set (i := 7) sc_law_pieces.nd rfl (Or.inl rfl) (pe_lst (pa_cons pe_str (pa_cons pe_str (pa_cons pe_str (pa_cons pe_str (pa_cons pe_str (pa_cons pe_str (pa_cons pe_str (pa_cons pe_str pa_nil))))))))))
    (pss_cons (ps_set (i := 7) sc_law_pieces.nd rfl (Or.inl rfl) (pe_op op_cat (pv 7) (pe_lst (pa_cons pe_str (pa_cons pe_str (pa_cons pe_str (pa_cons pe_str (pa_cons pe_str (pa_cons pe_str (pa_cons pe_str (pa_cons pe_str (pa_cons pe_str (pa_cons pe_str (pa_cons pe_str pa_nil))))))))))))))
    (pss_cons (ps_if (pt_cmpR op_eq (pv 6) pe_int (nomark _)) (pss_one (ps_expr (pe_bm PySem.F.plainAttrs_list PySem.F.slot_list_pop PySem.F.type_list_pop mt_popAt (pv 3) (pa_cons (pv 4) pa_nil)))) (pss_one (ps_if (pt_cmpR op_eq (pv 6) pe_int (nomark _)) (pss_one (ps_expr (pe_bm PySem.F.plainAttrs_list PySem.F.slot_list_insert PySem.F.type_list_insert mt_insert (pv 3) (pa_cons (pv 5) (pa_cons (pe_ix (ix_listK K) (pv 3) (pv 4) (fun _ _ => rfl)) pa_nil))))) (pss_one (ps_if (pt_cmpR op_eq (pv 6) pe_int (nomark _)) (pss_one (ps_asg (pe_tup (pa_cons (pe_ix (ix_listK K) (pv 3) (pv 5) (fun _ _ => rfl)) (pa_cons (pe_ix (ix_listK K) (pv 3) (pv 4) (fun _ _ => rfl)) pa_nil))) (pg_tup (by rfl) (pgs_cons (pg_sub (pv 3) (pv 4) set_list) (pgs_cons (pg_sub (pv 3) (pv 5) set_list) pgs_nil))))) (pss_one (ps_if (pt_cmpR op_eq (pv 6) pe_int (nomark _)) (pss_one (ps_asg (pe_call G_law_pick (hr.mono (by decide)) rfl T.g__law_pick T.k__law_pick b_law_pick .nil pass0 (pa_cons (pv 0) (pa_cons (pv 7) pa_nil))) (pg_sub (pv 3) (pv 4) set_list))) (pss_one (ps_if (pt_cmpR op_eq (pv 6) pe_int (nomark _)) (pss_one (ps_expr (pe_bm PySem.F.plainAttrs_list PySem.F.slot_list_insert PySem.F.type_list_insert mt_insert (pv 3) (pa_cons (pv 4) (pa_cons (pe_call G_law_pick (hr.mono (by decide)) rfl T.g__law_pick T.k__law_pick b_law_pick .nil pass0 (pa_cons (pv 0) (pa_cons (pv 7) pa_nil))) pa_nil))))) (pss_one (ps_set (i := 3) sc_law_pieces.nd rfl (Or.inl rfl) (pe_slice (sl_listK K) (pv 3) po_none (po_some (pe_op op_add (pv 4) pe_int))))))))))))))
    (pss_one (ps_ret (pe_join (pv 2) (pv 3)))))))))), ?_⟩
    have hzl := hO.ln
    have hsz := sizeLine_eq
    have hyk : TL.tl y ≠ [] ∧ y.cps.all (· < 256) = true ∧ (y.length == 0) = false ∧ OkT 1 y ∧ y.length = 1 := by
      rcases hy with rfl | rfl
      · exact ⟨by decide +kernel, by decide +kernel, by decide +kernel, ⟨by decide +kernel, by decide +kernel⟩, by decide +kernel⟩
      · exact ⟨by decide +kernel, by decide +kernel, by decide +kernel, ⟨by decide +kernel, by decide +kernel⟩, by decide +kernel⟩
    have hne := split_ne (x := z) hyk.1 hyk.2.1
    have hok := okT_splitG hyk.1 hyk.2.1 hO
    refine ⟨_, rfl, ⟨_, rfl⟩, _, rfl, z, y, rfl, rfl, hyk.2.2.1, szn (by omega), fun sl' hsl' => ?_⟩
    have hcj := fun l h1 h2 h3 => chg_join (l := l) hO hyk.2.2.2.1 hyk.2.2.2.2 h1 h2 h3
    have hmz : ∀ f : Nat → Nat, mus f (Txt.split z y) ≤ mu f z := fun f => mus_le_split
    have hwl : (Txt.split z y).length ≤ 49801 := by
      have a := mu_split fLen z y
      rw [mu_len, mu_len, hyk.2.2.2.2, Nat.mul_one] at a
      omega
    generalize Txt.split z y = ws at hne hok hcj hmz hwl
    have hw1 : upd H sl' (.lst (ws.map V.str)) sl' = some (.lst (ws.map V.str)) := upd_same
    have sx1 : SameX p H (upd H sl' (.lst (ws.map V.str))) := sx_of (same_new hsl')
    have hf1 := feed_new (o := .lst (ws.map V.str)) hf hsl'
    have nsp : sl' ≠ p := (ne_of_none hf.1 hsl').symm
    revert hw1 sx1 hf1
    generalize upd H sl' (.lst (ws.map V.str)) = H1
    intro hw1 sx1 hf1
    dsimp only [gName]
    have hpos : 0 < ws.length := List.length_pos_iff.mpr hne
    have hml : (ws.map V.str).length = ws.length := List.length_map ..
    refine ⟨_, rfl, _, rfl, sl', _, rfl, .inl (SqL.of hw1), p, _, a, b, rfl, hf1, by omega, by omega, fun d1 a2 b2 h10 h11 hf2 => ?_⟩
    have sx2 : SameX p H1 (upd H1 p (.lst [.int a2, .int b2])) := sx_put (sx_of (Same.refl H1))
    revert hf2 sx2
    generalize upd H1 p (.lst [.int a2, .int b2]) = H2
    intro hf2 sx2
    have hw2 := sx2 _ _ nsp hw1
    refine ⟨_, rfl, _, rfl, sl', _, rfl, .inl (SqL.of hw2), p, _, a2, b2, rfl, hf2, by omega, by omega, fun d2 a3 b3 h20 h21 hf3 => ?_⟩
    have sx3 : SameX p H2 (upd H2 p (.lst [.int a3, .int b3])) := sx_put (sx_of (Same.refl H2))
    revert hf3 sx3
    generalize upd H2 p (.lst [.int a3, .int b3]) = H3
    intro hf3 sx3
    have hw3 := sx3 _ _ nsp hw2
    refine ⟨_, _, rfl, ?_⟩
    dsimp only
    obtain ⟨d1, rfl⟩ := Int.eq_ofNat_of_zero_le h10
    obtain ⟨d2, rfl⟩ := Int.eq_ofNat_of_zero_le h20
    rw [hml] at h11 h21
    refine ⟨_, rfl, p, 6, a3, b3, rfl, hf3, by decide, by decide, fun d3 a4 b4 h30 h31 hf4 => ?_⟩
    have sx4 : SameX p H3 (upd H3 p (.lst [.int a4, .int b4])) := sx_put (sx_of (Same.refl H3))
    revert hf4 sx4
    generalize upd H3 p (.lst [.int a4, .int b4]) = H4
    intro hf4 sx4
    have hw4 := sx4 _ _ nsp hw3
    dsimp only [gName]
    refine ⟨szl (show 8 ≤ 100000 by decide), fun o1 ho1 => ?_⟩
    have hv1 : upd H4 o1 (.lst [.str "end", .str "  part p = add", .str "  part part = add", .str "  p.a <- p.b", .str "", .str " ", .str "block b(;)", .str "  x <- y"]) o1 = some (.lst (odd1.map V.str)) := upd_same
    have s5 : Same H4 (upd H4 o1 (.lst [.str "end", .str "  part p = add", .str "  part part = add", .str "  p.a <- p.b", .str "", .str " ", .str "block b(;)", .str "  x <- y"])) := same_new ho1
    have hf5 := feed_same s5 hf4
    revert hv1 s5 hf5
    generalize upd H4 o1 _ = H5
    intro hv1 s5 hf5
    dsimp only [gName]
    refine ⟨_, rfl, szl (show 11 ≤ 100000 by decide), fun o2 ho2 => ⟨o1, o2, odd1.map V.str, odd2.map V.str, rfl, rfl, (by rw [upd_ne (ne_of_none hv1 ho2)]; exact hv1), upd_same, szl (show 19 ≤ 100000 by decide), fun ol hol => ?_⟩⟩
    have s6 : Same H5 (upd (upd H5 o2 (.lst [.str "<-", .str "=", .str "a", .str "add", .str "const 5", .str "delay", .str "p.a", .str "self", .str "  part x = delay 00", .str "4294967296", .str "in.in"])) ol (.lst (odd1.map V.str ++ odd2.map V.str))) := (same_new ho2).trans (same_new hol)
    have hod : upd (upd H5 o2 (.lst [.str "<-", .str "=", .str "a", .str "add", .str "const 5", .str "delay", .str "p.a", .str "self", .str "  part x = delay 00", .str "4294967296", .str "in.in"])) ol (.lst (odd1.map V.str ++ odd2.map V.str)) ol = some (.lst ((odd1 ++ odd2).map V.str)) := by rw [upd_same, List.map_append]
    have hf6 := feed_same s6 hf5
    have hw5 := s5 _ _ hw4
    have now : sl' ≠ ol := ne_of_none (H := upd H5 o2 (.lst [.str "<-", .str "=", .str "a", .str "add", .str "const 5", .str "delay", .str "p.a", .str "self", .str "  part x = delay 00", .str "4294967296", .str "in.in"])) (by rw [upd_ne (ne_of_none hw5 ho2)]; exact hw5) hol
    revert s6 hod hf6
    generalize upd (upd H5 o2 _) ol (.lst (odd1.map V.str ++ odd2.map V.str)) = H6
    intro s6 hod hf6
    dsimp only [gName]
    have hw6 := s6 _ _ (s5 _ _ hw4)
    have sx6 : SameX p H H6 := (((sx1.trans sx2).trans sx3).trans sx4).trans (sx_of (s5.trans s6))
    have nop : ol ≠ p := fun e => by
      have := hf6.1
      rw [← e, hod] at this
      have := congrArg List.length (HO.lst.inj (Option.some.inj this))
      simp [odd1, odd2] at this
    have e1 : ws[d1]? = some ws[d1] := List.getElem?_eq_getElem (by omega)
    have e2 : ws[d2]? = some ws[d2] := List.getElem?_eq_getElem (by omega)
    have k1 := hok ws[d1] (List.getElem_mem _)
    have k2 := hok ws[d2] (List.getElem_mem _)
    have m1 : ∀ f, mu f ws[d1] ≤ mu f z := fun f => Nat.le_trans (mus_mem (List.getElem_mem _)) (hmz f)
    have sq : seqIndex? (d1 : Int) (ws.map V.str).length = some d1 := by
      rw [hml]
      unfold seqIndex?
      simp
      omega
    have at1 : atI (ws.map V.str) (d1 : Int) = some (.str ws[d1]) := atI_nat (by rw [List.getElem?_map, e1]; rfl)
    have at2 : atI (ws.map V.str) (d2 : Int) = some (.str ws[d2]) := atI_nat (by rw [List.getElem?_map, e2]; rfl)
    have hd3 : d3 = 0 ∨ d3 = 1 ∨ d3 = 2 ∨ d3 = 3 ∨ d3 = 4 ∨ d3 = 5 := by omega
    rcases hd3 with rfl | rfl | rfl | rfl | rfl | rfl
    · refine ⟨_, rfl, rfl, _, rfl, iteT ⟨_, rfl, .inl ⟨rfl, _, SqL.of hw6⟩, _, rfl, sl', _, _, d1, _, rfl, rfl, hw6, by omega, by omega, sq, (by rw [List.getElem?_map, e1]; rfl), ?_⟩⟩
      walk_at "nx"
      obtain ⟨hc, hs⟩ := hcj (ws.eraseIdx d1) (fun f hf => by have := mus_sub (f := f) (List.eraseIdx_sublist ws d1); omega) (by have := (List.eraseIdx_sublist ws d1).length_le; omega) (fun w hw => hok w ((List.eraseIdx_sublist ws d1).subset hw))
      have hf7 : FeedAt (upd H6 sl' (.lst ((ws.map V.str).eraseIdx d1))) p a4 b4 := ⟨by rw [upd_ne nsp.symm]; exact hf6.1, hf6.2⟩
      refine ⟨_, rfl, ⟨_, rfl⟩, _, rfl, y, sl', ws.eraseIdx d1, rfl, rfl, .inl (SqL.of (by rw [upd_same, erase_map])), hs, k _ _ a4 b4 (fun c u nc e => ?_) hf7 hc⟩
      have h6 := sx6 c u nc e
      by_cases ec : c = sl'
      · rw [ec, hsl'] at e; cases e
      · rw [upd_ne ec]; exact h6
    · refine ⟨_, rfl, rfl, _, rfl, iteF ⟨_, rfl, rfl, _, rfl, iteT ⟨_, rfl, .inl ⟨rfl, _, SqL.of hw6⟩, _, rfl, _, rfl, _, rfl, sl', _, _, _, rfl, rfl, SqL.of hw6, at1, sl', _, _, _, rfl, rfl, hw6, szl (by omega), by omega, by omega, ?_⟩⟩⟩
      walk_at "nx"
      rw [Int.toNat_natCast]
      obtain ⟨hc, hs⟩ := hcj (ws.take d2 ++ [ws[d1]] ++ ws.drop d2) (fun f hf => by have := mus_insert (f := f) (l := ws) (i := d2) (x := ws[d1]); have := m1 f; omega) (by simp only [List.length_append, List.length_take, List.length_drop, List.length_singleton]; omega) (fun w hw => by
        simp only [List.mem_append, List.mem_singleton] at hw
        rcases hw with (hw | rfl) | hw
        · exact hok w (List.mem_of_mem_take hw)
        · exact k1
        · exact hok w (List.mem_of_mem_drop hw))
      have hf7 : FeedAt (upd H6 sl' (.lst ((ws.map V.str).take d2 ++ [.str ws[d1]] ++ (ws.map V.str).drop d2))) p a4 b4 := ⟨by rw [upd_ne nsp.symm]; exact hf6.1, hf6.2⟩
      refine ⟨_, rfl, ⟨_, rfl⟩, _, rfl, y, sl', ws.take d2 ++ [ws[d1]] ++ ws.drop d2, rfl, rfl, .inl (SqL.of (by rw [upd_same, List.map_append, List.map_append, List.map_take, List.map_drop]; rfl)), hs, k _ _ a4 b4 (fun c u nc e => ?_) hf7 hc⟩
      have h6 := sx6 c u nc e
      by_cases ec : c = sl'
      · rw [ec, hsl'] at e; cases e
      · rw [upd_ne ec]; exact h6
    · refine ⟨_, rfl, rfl, _, rfl, iteF ⟨_, rfl, rfl, _, rfl, iteF ⟨_, rfl, rfl, _, rfl, iteT ⟨_, rfl, _, rfl, sl', _, _, _, rfl, rfl, SqL.of hw6, at2, _, rfl, _, rfl, sl', _, _, _, rfl, rfl, SqL.of hw6, at1, szl (show 2 ≤ 100000 by decide), fun t ht => ?_⟩⟩⟩⟩
      have hw7 : upd H6 t (.tup [.str ws[d2], .str ws[d1]]) sl' = some (.lst (ws.map V.str)) := by rw [upd_ne (ne_of_none hw6 ht)]; exact hw6
      have ix : ∀ n d : Nat, d < n → ixN n (d : Int) = some d := fun n d h => by
        unfold ixN
        simp
        omega
      refine ⟨t, _, rfl, SqT.of upd_same, rfl, _, _, rfl, _, rfl, _, rfl, sl', _, _, d1, rfl, rfl, hw7, ix _ _ (by omega), _, _, rfl, _, rfl, _, rfl, sl', _, _, d2, rfl, rfl, upd_same, ix _ _ (by rw [List.length_set]; omega), rfl, ?_⟩
      obtain ⟨hc, hs⟩ := hcj ((ws.set d1 ws[d2]).set d2 ws[d1]) (fun f hf => by rw [mus_swap e1 e2]; omega) (by rw [List.length_set, List.length_set]; omega) (fun w hw => by
        rcases List.mem_or_eq_of_mem_set hw with hw | rfl
        · rcases List.mem_or_eq_of_mem_set hw with hw | rfl
          · exact hok w hw
          · exact k2
        · exact k1)
      have emap : (((ws.map V.str).set d1 (.str ws[d2])).set d2 (.str ws[d1])) = ((ws.set d1 ws[d2]).set d2 ws[d1]).map V.str := by rw [set_mapS, set_mapS]
      rw [emap]
      have ntp : t ≠ p := fun e => by rw [e, hf6.1] at ht; cases ht
      have hft : FeedAt (upd H6 t (.tup [.str ws[d2], .str ws[d1]])) p a4 b4 := feed_new hf6 ht
      have hf7 : ∀ o1 o2, FeedAt (upd (upd (upd H6 t (.tup [.str ws[d2], .str ws[d1]])) sl' o1) sl' o2) p a4 b4 := fun o1 o2 => ⟨by rw [upd_ne nsp.symm, upd_ne nsp.symm]; exact hft.1, hft.2⟩
      refine ⟨_, rfl, ⟨_, rfl⟩, _, rfl, y, sl', (ws.set d1 ws[d2]).set d2 ws[d1], rfl, rfl, .inl (SqL.of upd_same), hs, k _ _ a4 b4 (fun c u nc e => ?_) (hf7 _ _) hc⟩
      have h6 := sx6 c u nc e
      by_cases ec : c = sl'
      · rw [ec, hsl'] at e; cases e
      · rw [upd_ne ec, upd_ne ec, upd_ne (ne_of_none h6 ht)]; exact h6
    · -- some[at] = odd
      refine ⟨_, rfl, rfl, _, rfl, iteF ⟨_, rfl, rfl, _, rfl, iteF ⟨_, rfl, rfl, _, rfl, iteF ⟨_, rfl, rfl, _, rfl, iteT ⟨_, rfl, _, rfl, .inl ⟨p, ol, _, a4, b4, rfl, hf6, SqL.of hod, nop, by decide, by decide, fun v a7 b7 hv hf7 => ?_⟩⟩⟩⟩⟩⟩
      obtain ⟨x, hx, rfl⟩ := List.mem_map.mp hv
      have hxo := odd_ok x hx
      have hxk : OkT 49800 x := ⟨by have := hxo.1; omega, hxo.2⟩
      have hw7 : upd H6 p (.lst [.int a7, .int b7]) sl' = some (.lst (ws.map V.str)) := by rw [upd_ne nsp]; exact hw6
      have ix : ∀ n d : Nat, d < n → ixN n (d : Int) = some d := fun n d h => by
        unfold ixN
        simp
        omega
      refine ⟨_, rfl, _, rfl, sl', _, _, d1, rfl, rfl, hw7, ix _ _ (by omega), ?_⟩
      obtain ⟨hc, hs⟩ := hcj (ws.set d1 x) (fun f hf => by have := mus_set (f := f) (l := ws) (i := d1) (a := x); have := mu_le_len hf x; have := hxo.1; omega) (by rw [List.length_set]; omega) (fun w hw => by
        rcases List.mem_or_eq_of_mem_set hw with hw | rfl
        · exact hok w hw
        · exact hxk)
      rw [set_mapS]
      have hf8 : FeedAt (upd (upd H6 p (.lst [.int a7, .int b7])) sl' (.lst ((ws.set d1 x).map V.str))) p a7 b7 := ⟨by rw [upd_ne nsp.symm]; exact hf7.1, hf7.2⟩
      refine ⟨_, rfl, ⟨_, rfl⟩, _, rfl, y, sl', ws.set d1 x, rfl, rfl, .inl (SqL.of upd_same), hs, k _ _ a7 b7 (fun c u nc e => ?_) hf8 hc⟩
      have h6 := sx6 c u nc e
      by_cases ec : c = sl'
      · rw [ec, hsl'] at e; cases e
      · rw [upd_ne ec, upd_ne nc]; exact h6
    · -- insert(at, odd)
      refine ⟨_, rfl, rfl, _, rfl, iteF ⟨_, rfl, rfl, _, rfl, iteF ⟨_, rfl, rfl, _, rfl, iteF ⟨_, rfl, rfl, _, rfl, iteF ⟨_, rfl, rfl, _, rfl, iteT ⟨_, rfl, .inl ⟨rfl, _, SqL.of hw6⟩, _, rfl, _, rfl, _, rfl, .inl ⟨p, ol, _, a4, b4, rfl, hf6, SqL.of hod, nop, by decide, by decide, fun v a7 b7 hv hf7 => ?_⟩⟩⟩⟩⟩⟩⟩
      obtain ⟨x, hx, rfl⟩ := List.mem_map.mp hv
      have hxo := odd_ok x hx
      have hxk : OkT 49800 x := ⟨by have := hxo.1; omega, hxo.2⟩
      have hw7 : upd H6 p (.lst [.int a7, .int b7]) sl' = some (.lst (ws.map V.str)) := by rw [upd_ne nsp]; exact hw6
      refine ⟨sl', _, _, _, rfl, rfl, hw7, szl (by omega), by omega, by omega, ?_⟩
      walk_at "nx"
      rw [Int.toNat_natCast]
      obtain ⟨hc, hs⟩ := hcj (ws.take d1 ++ [x] ++ ws.drop d1) (fun f hf => by have := mus_insert (f := f) (l := ws) (i := d1) (x := x); have := mu_le_len hf x; have := hxo.1; omega) (by simp only [List.length_append, List.length_take, List.length_drop, List.length_singleton]; omega) (fun w hw => by
        simp only [List.mem_append, List.mem_singleton] at hw
        rcases hw with (hw | rfl) | hw
        · exact hok w (List.mem_of_mem_take hw)
        · exact hxk
        · exact hok w (List.mem_of_mem_drop hw))
      have hf8 : ∀ o, FeedAt (upd (upd H6 p (.lst [.int a7, .int b7])) sl' o) p a7 b7 := fun o => ⟨by rw [upd_ne nsp.symm]; exact hf7.1, hf7.2⟩
      refine ⟨_, rfl, ⟨_, rfl⟩, _, rfl, y, sl', ws.take d1 ++ [x] ++ ws.drop d1, rfl, rfl, .inl (SqL.of (by rw [upd_same, List.map_append, List.map_append, List.map_take, List.map_drop]; rfl)), hs, k _ _ a7 b7 (fun c u nc e => ?_) (hf8 _) hc⟩
      have h6 := sx6 c u nc e
      by_cases ec : c = sl'
      · rw [ec, hsl'] at e; cases e
      · rw [upd_ne ec, upd_ne nc]; exact h6
    · -- some[:at + 1]
      refine ⟨_, rfl, rfl, _, rfl, iteF ⟨_, rfl, rfl, _, rfl, iteF ⟨_, rfl, rfl, _, rfl, iteF ⟨_, rfl, rfl, _, rfl, iteF ⟨_, rfl, rfl, _, rfl, iteF ⟨_, rfl, _, rfl, _, _, rfl, rfl, _, rfl, sl', _, rfl, SqL.of hw6, fun q hq => ?_⟩⟩⟩⟩⟩⟩
      have ec : ((d1 : Nat) : Int) + 1 = ((d1 + 1 : Nat) : Int) := by omega
      rw [ec, cut_any]
      walk_at "nx"
      obtain ⟨hc, hs⟩ := hcj (ws.take (d1 + 1)) (fun f hf => by have := mus_sub (f := f) (List.take_sublist (d1 + 1) ws); omega) (by rw [List.length_take]; omega) (fun w hw => hok w (List.mem_of_mem_take hw))
      refine ⟨_, rfl, ⟨_, rfl⟩, _, rfl, y, q, ws.take (d1 + 1), rfl, rfl, .inl (SqL.of upd_same), hs, k _ _ a4 b4 (sx6.trans (sx_of (same_new hq))) (feed_new hf6 hq) hc⟩

end
end K07

set_option maxRecDepth 100000
set_option maxHeartbeats 4000000

namespace K07
open PySem L2 Ly
local macro_rules | `(tactic| walk_at "nx") => `(tactic| dsimp only [tNext])
section
variable {P : Program} {w : World} {K : PySem.W.Frag} {mg : Str → Option Value} {base : Heap} {ad : Adr}
/-! ### law -/
theorem sc_law : FnScope ["script", "k", "feed", "text", "texts", "turn", "bent", "again", "way", "one"] ["script"] (defScope s_law) := ⟨rfl, rfl, rfl, by decide +kernel, rfl, by decide +kernel, by decide +kernel⟩
def spLaw (K : PySem.W.Frag) : Sp := fun vs H Q _ => ∃ (a : Addr) (ns : List Int), vs = [.ref a] ∧ SqL K H a (ns.map V.int) ∧ ns.length ≤ 63 ∧ ∀ H', Q (.bl true) H'
theorem ok_law {f : Addr} {fd fd1 fdw fdd fdr fdt fdp fds fdq fdo fdx : FuncData} (F : Fun K "law" "law" s_law f fd) (T : Txt K w mg ad)
    (G_law_feed : FnOk P w K mg base CX0 1 ad.f_law_feed fd1 ["script", "k"] (spFeed K)) (b_law_feed : Binds K fd1 ["script", "k"] [])
    (G_law_take : FnOk P w K mg base CX0 1 ad.f_law_take fdt ["feed", "many"] spTake) (b_law_take : Binds K fdt ["feed", "many"] []) (G_law_pick : FnOk P w K mg base CX0 2 ad.f_law_pick fdp ["feed", "some"] (spPick2 K)) (b_law_pick : Binds K fdp ["feed", "some"] [])
    (G_law_words : FnOk P w K mg base CX0 2 ad.f_law_words fdw ["feed", "size"] spWords) (b_law_words : Binds K fdw ["feed", "size"] [])
    (G_law_diagram : FnOk P w K mg base CX0 4 ad.f_law_diagram fdd ["feed", "words"] (spDraw K)) (b_law_diagram : Binds K fdd ["feed", "words"] [])
    (G_law_rows : FnOk P w K mg base CX0 2 ad.f_law_rows fdr ["diagram"] (spLRows K)) (b_law_rows : Binds K fdr ["diagram"] [])
    (G_law_signs : FnOk P w K mg base CX0 3 ad.f_law_signs fds ["feed", "text"] spChg7) (b_law_signs : Binds K fds ["feed", "text"] []) (G_law_pieces : FnOk P w K mg base CX0 3 ad.f_law_pieces fdq ["feed", "text", "sep"] spPieces7) (b_law_pieces : Binds K fdq ["feed", "text", "sep"] [])
    (G_law_told : FnOk P w K mg base CX0 8 ad.f_law_told fdo ["text"] spTold7) (b_law_told : Binds K fdo ["text"] []) (G_law_wrong : FnOk P w K mg base CX0 3 ad.f_law_wrong fdx ["text"] spWrong7) (b_law_wrong : Binds K fdx ["text"] []) :
    FnG P w K mg base CX0 9 f fd ["script"] (spLaw K) := by
  refine Ly.Fun.okG F sc_law (fun vs H Q E h => ?_) (fun cdv A outer s H vs Q E hg hr h => ?_)
  · obtain ⟨a, ns, rfl, _⟩ := h
    rfl
  · obtain ⟨sa, ns, rfl, hS, hl, k⟩ := h
    refine ⟨_, (pss_cons (ps_for PassesOwn.never rfl (pi_range1 (by rfl) T.n_range (pa_cons (pe_callB (call_max2 rfl) (by rfl) T.n_max (by decide +kernel) (pa_cons pe_int (pa_cons (pe_callB (call_min2 rfl) (by rfl) T.n_min (by decide +kernel) (pa_cons pe_int (pa_cons (pe_callB (call_lenK K) (by rfl) T.n_len (by decide +kernel) (pa_cons (pv 0) pa_nil)) pa_nil))) pa_nil))) pa_nil)) (pg_name (i := 1) sc_law.nd rfl (Or.inl rfl))
    (pss_cons (ps_set (i := 2) sc_law.nd rfl (Or.inl rfl) (pe_call G_law_feed (hr.mono (by decide)) rfl T.g__law_feed T.k__law_feed b_law_feed .nil pass0 (pa_cons (pv 0) (pa_cons (pv 1) pa_nil))))
    (pss_cons (ps_set (i := 3) sc_law.nd rfl (Or.inl rfl) (pe_join pe_str (pe_ix (ix_tupK K) (pe_call G_law_rows (hr.mono (by decide)) rfl T.g__law_rows T.k__law_rows b_law_rows .nil pass0 (pa_cons (pe_call G_law_diagram (hr.mono (by decide)) rfl T.g__law_diagram T.k__law_diagram b_law_diagram .nil pass0 (pa_cons (pv 2) (pa_cons (pe_call G_law_words (hr.mono (by decide)) rfl T.g__law_words T.k__law_words b_law_words .nil pass0 (pa_cons (pv 2) (pa_cons pe_int pa_nil))) pa_nil))) pa_nil)) pe_int (fun _ _ => rfl))))
    (pss_cons (ps_set (i := 4) sc_law.nd rfl (Or.inl rfl) (pe_lst (pa_cons (pv 3) (pa_cons pe_str (pa_cons pe_str (pa_cons (pe_op op_add_str (pv 3) pe_str) (pa_cons (pe_op op_add_str pe_str (pv 3)) (pa_cons (pe_op op_add_str (pv 3) pe_str) (pa_cons pe_str (pa_cons (pe_slice sl_str (pv 3) po_none (po_some (pe_un un_neg pe_int))) pa_nil))))))))))
    (pss_cons (ps_for PassesOwn.never rfl (pi_range1 (by rfl) T.n_range (pa_cons pe_int pa_nil)) (pg_name (i := 5) sc_law.nd rfl (Or.inl rfl))
    (pss_cons (ps_set (i := 6) sc_law.nd rfl (Or.inl rfl) (pv 3))
    (pss_cons (ps_for PassesOwn.never rfl (pi_range1 (by rfl) T.n_range (pa_cons (pe_call G_law_pick (hr.mono (by decide)) rfl T.g__law_pick T.k__law_pick b_law_pick .nil pass0 (pa_cons (pv 2) (pa_cons (pe_lst (pa_cons pe_int (pa_cons pe_int (pa_cons pe_int (pa_cons pe_int pa_nil))))) pa_nil))) pa_nil)) (pg_name (i := 7) sc_law.nd rfl (Or.inl rfl))
    (pss_cons (ps_set (i := 8) sc_law.nd rfl (Or.inl rfl) (pe_call G_law_take (hr.mono (by decide)) rfl T.g__law_take T.k__law_take b_law_take .nil pass0 (pa_cons (pv 2) (pa_cons pe_int pa_nil))))
    (pss_one (ps_if (pt_cmpR op_eq (pv 8) pe_int (nomark _)) (pss_one (ps_set (i := 6) sc_law.nd rfl (Or.inl rfl) (pe_call G_law_signs (hr.mono (by decide)) rfl T.g__law_signs T.k__law_signs b_law_signs .nil pass0 (pa_cons (pv 2) (pa_cons (pv 6) pa_nil))))) (pss_one (ps_set (i := 6) sc_law.nd rfl (Or.inl rfl) (pe_call G_law_pieces (hr.mono (by decide)) rfl T.g__law_pieces T.k__law_pieces b_law_pieces .nil pass0 (pa_cons (pv 2) (pa_cons (pv 6) (pa_cons (pe_ix (ix_listK K) (pe_lst (pa_cons pe_str (pa_cons pe_str (pa_cons pe_str pa_nil)))) (pe_op op_sub (pv 8) pe_int) (fun _ _ => rfl)) pa_nil))))))))))
    (pss_one (ps_expr (pe_bm PySem.F.plainAttrs_list PySem.F.slot_list_append PySem.F.type_list_append mt_append (pv 4) (pa_cons (pv 6) pa_nil)))))))
    (pss_one (ps_for PassesOwn.never rfl (pi_listK K (pv 4)) (pg_name (i := 9) sc_law.nd rfl (Or.inl rfl))
    (pss_one (ps_if (pt_cmpR op_ne (pe_callB (call_reprV K hg hr.units) (by rfl) T.n_repr (by decide +kernel) (pa_cons (pe_call G_law_told (hr.mono (by decide)) rfl T.g__law_told T.k__law_told b_law_told .nil pass0 (pa_cons (pv 9) pa_nil)) pa_nil)) (pe_callB (call_reprV K hg hr.units) (by rfl) T.n_repr (by decide +kernel) (pa_cons (pe_call G_law_wrong (hr.mono (by decide)) rfl T.g__law_wrong T.k__law_wrong b_law_wrong .nil pass0 (pa_cons (pv 9) pa_nil)) pa_nil)) (nomark _)) (pss_one (ps_ret pe_bl)) pss_nil)))))))))
    (pss_one (ps_ret pe_bl))), ?_⟩
    refine ⟨_, rfl, sa, _, rfl, .inl hS, _, _, rfl, _, _, rfl, ?_⟩
    have hlen : (ns.map V.int).length ≤ 63 := by rw [List.length_map]; exact hl
    generalize hm : (if (if ((ns.map V.int).length : Int) < 3 then ((ns.map V.int).length : Int) else 3) > 2 then (if ((ns.map V.int).length : Int) < 3 then ((ns.map V.int).length : Int) else 3) else 2) = m
    have hm6 : 2 ≤ m ∧ m ≤ 3 := by
      rw [← hm]
      split <;> (try split) <;> omega
    refine ⟨m, rfl, by omega, by omega, for_range (lo := 0) (n := m.toNat) (fun i σ H' => Same H H' ∧ ∃ x1 x2 x3 x4 x5 x6 x7 x8 x9 : Option V, σ = [some (.ref sa), x1, x2, x3, x4, x5, x6, x7, x8, x9]) ⟨Same.refl _, none, none, none, none, none, none, none, none, none, rfl⟩ ?_ ?_⟩
    · rintro i σ H1 hi ⟨s1, x1, x2, x3, x4, x5, x6, x7, x8, x9, rfl⟩
      refine ⟨_, rfl, _, rfl, sa, ns, i, by simp, s1.seq hS, by omega, fun p a b hp hf => ?_⟩
      have hpH : H p = none := s1.free hp
      have s2 : Same H (upd H1 p (.lst [.int a, .int b])) := same_mut s1 hpH
      revert s2 hf
      generalize upd H1 p (.lst [.int a, .int b]) = H2
      intro hf s2
      -- text
      dsimp only [gName]
      refine asg (fun v H' => ∃ z, v = .str z ∧ TxtN 12400 41 190 z ∧ Same H H' ∧ ∃ a b, FeedAt H' p a b) (fun Q' q => ?_) ?_
      · refine ⟨⟨_, rfl⟩, _, rfl, _, rfl, p, 14, a, b, rfl, hf, by omega, fun wq wd H3 a1 b1 hqn s4 hf3 hq hwl hwo => ?_⟩
        have nqp : wq ≠ p := (ne_of_none hf.1 hqn).symm
        refine ⟨p, wq, wd, a1, b1, rfl, hf3, SqL.of hq, nqp, hwl, hwo, fun t md n ins outs ps ws H4 a2 b2 s5 hf4 htn hmn hTD hd hpl hwsl => ?_⟩
        refine ⟨t, md, n, ins, outs, ps, ws, rfl, hTD, hd, by omega, fun u l v zs H5 s6 hun hln hvn nlv hu hl hv hlo => ?_⟩
        have hf5 := feed_same s6 hf4
        have hzp := lord_perm hd hlo
        have hzl : zs.length ≤ 35 := by have := hzp.length_eq; omega
        have hdz := hd.perm hzp
        have s25 : Same H H5 := (same_sx s2 (fun b u n e => s6 _ _ (s5 _ _ n (s4 _ _ n e))) hpH)
        exact ⟨u, _, _, _, rfl, rfl, SqT.of hu, atI_nat (j := 0) rfl, "\n", l, _, rfl, rfl, .inl (SqL.of hl), rows_sum hdz (by omega), q _ _ ⟨_, rfl, text_N hdz hpl hzl, s25, _, _, hf5⟩⟩
      rintro _ H3 ⟨z, rfl, hN, s3, a3, b3, hf3⟩
      dsimp only [gName]
      have hzl := hN.ok.ln
      have lc : ("\n" : Str).length = 1 ∧ ("\nend" : Str).length = 4 := by decide +kernel
      refine asg (fun v H' => ∃ (tl : Addr) (ts : List Str), v = .ref tl ∧ Same H3 H' ∧ H3 tl = none ∧ H' tl = some (.lst (ts.map V.str)) ∧ ts.length ≤ 8 ∧ ∀ y ∈ ts, TxtN 100000 12000 1900 y) (fun Q' q => ?_) ?_
      · refine ⟨_, rfl, _, rfl, _, _, rfl, rfl, szl (by omega), _, rfl, _, _, rfl, rfl, szl (by omega), _, rfl, _, _, rfl, rfl, szl (by omega), _, rfl, _, rfl, _, rfl, z, rfl, szl (by omega), szl (show 8 ≤ 100000 by decide), fun tl htl => q _ _ ⟨tl, [z, "", "\n", z ++ "\n", "\n" ++ z, z ++ "\nend", "end", cutS z none (some (-4))], rfl, same_new htl, htl, upd_same, by simp, fun y hy => ?_⟩⟩
        simp only [List.mem_cons, List.not_mem_nil, or_false] at hy
        rcases hy with rfl | rfl | rfl | rfl | rfl | rfl | rfl | rfl
        · exact hN.mono (by decide) (by decide) (by decide)
        · exact txt_em.mono (by decide) (by decide) (by decide)
        · exact txt_nl.mono (by decide) (by decide) (by decide)
        · exact (txt_app hN txt_nl).mono (by decide) (by decide) (by decide)
        · exact (txt_app txt_nl hN).mono (by decide) (by decide) (by decide)
        · exact (txt_app hN txt_nend).mono (by decide) (by decide) (by decide)
        · exact txt_end.mono (by decide) (by decide) (by decide)
        · exact (txt_cut hN).mono (by decide) (by decide) (by decide)
      rintro _ H4 ⟨tl, ts, rfl, s4, htn, htl4, htsl, hts⟩
      dsimp only [gName]
      have htH : H tl = none := s3.free htn
      have ntp : tl ≠ p := (ne_of_none hf3.1 htn).symm
      have hf4 := feed_same s4 hf3
      have s04 := s3.trans s4
      refine ⟨16, rfl, by decide, by decide, for_range (lo := 0) (n := 16) (fun j σ H' => (∃ x5 x6 x7 x8 x9 : Option V, σ = [some (.ref sa), some (.int (0 + (i : Nat))), some (.ref p), some (.str z), some (.ref tl), x5, x6, x7, x8, x9]) ∧ Same H H' ∧ (∃ a b, FeedAt H' p a b) ∧ ∃ ts : List Str, H' tl = some (.lst (ts.map V.str)) ∧ ts.length ≤ 8 + j ∧ ∀ y ∈ ts, TxtN 100000 12000 1900 y) ⟨⟨_, _, _, _, _, rfl⟩, s04, ⟨_, _, hf4⟩, ts, htl4, htsl, hts⟩ ?_ ?_⟩
      · rintro j σ H5 hj ⟨⟨x5, x6, x7, x8, x9, rfl⟩, s5, ⟨a5, b5, hf5⟩, ts5, htl5, hl5, hts5⟩
        dsimp only [gName]
        refine ⟨_, rfl, ?_⟩
        dsimp only [gName]
        refine ⟨_, rfl, szl (show 4 ≤ 100000 by decide), fun l hl => .inl ⟨p, l, _, a5, b5, rfl, feed_new hf5 hl, SqL.of upd_same, (ne_of_none hf5.1 hl).symm, by show 0 < 4; decide, by show 4 ≤ 1000; decide, fun v a6 b6 hv hf6 => ?_⟩⟩
        have s6 : Same H (upd (upd H5 l (.lst [V.int 1, .int 1, .int 2, .int 3])) p (.lst [.int a6, .int b6])) := same_mut (s5.trans (same_new hl)) hpH
        have htl6 : upd (upd H5 l (.lst [V.int 1, .int 1, .int 2, .int 3])) p (.lst [.int a6, .int b6]) tl = some (.lst (ts5.map V.str)) := by rw [upd_ne ntp, upd_ne (ne_of_none htl5 hl)]; exact htl5
        revert s6 htl6 hf6
        generalize upd (upd H5 l (.lst [V.int 1, .int 1, .int 2, .int 3])) p (.lst [.int a6, .int b6]) = H6
        intro hf6 s6 htl6
        have hc : ∃ c : Nat, v = .int (c : Nat) ∧ c ≤ 3 := by
          simp only [List.mem_cons, List.not_mem_nil, or_false] at hv
          rcases hv with rfl | rfl | rfl | rfl
          · exact ⟨1, rfl, by decide⟩
          · exact ⟨1, rfl, by decide⟩
          · exact ⟨2, rfl, by decide⟩
          · exact ⟨3, rfl, by decide⟩
        obtain ⟨c, rfl, hc3⟩ := hc
        refine ⟨_, rfl, by omega, by omega, ?_⟩
        rw [Int.toNat_natCast]
        refine for_range (lo := 0) (n := c) (fun g σ H' => (∃ (y : Str) (x7 x8 x9 : Option V), σ = [some (.ref sa), some (.int (0 + (i : Nat))), some (.ref p), some (.str z), some (.ref tl), some (.int (0 + (j : Nat))), some (.str y), x7, x8, x9] ∧ TxtN (12440 * 2 ^ g - 40) (81 * 2 ^ g - 40) (230 * 2 ^ g - 40) y) ∧ SameX p H6 H' ∧ ∃ a b, FeedAt H' p a b) ⟨⟨z, _, _, _, rfl, hN⟩, sx_of (Same.refl _), _, _, hf6⟩ ?_ ?_
        · rintro g σ H7 hg3 ⟨⟨y, x7, x8, x9, rfl, hy⟩, sx7, a7, b7, hf7⟩
          dsimp only [gName]
          have hg2 : g ≤ 2 := by omega
          have hp2 : 2 ^ (g + 1) = 2 * 2 ^ g := by rw [Nat.pow_succ, Nat.mul_comm]
          have hp1 : 1 ≤ 2 ^ g := Nat.one_le_two_pow
          have hp4 : 2 ^ g ≤ 4 := by
            have := Nat.pow_le_pow_right (show 0 < 2 by decide) hg2
            omega
          have hyo : OkT 49800 y := hy.ok.mono (by omega)
          have nxt : ∀ y', Chg y y' → TxtN (12440 * 2 ^ (g + 1) - 40) (81 * 2 ^ (g + 1) - 40) (230 * 2 ^ (g + 1) - 40) y' := fun y' c => (chg_N hy c).mono (by omega) (by omega) (by omega)
          refine ⟨_, rfl, p, 4, a7, b7, rfl, hf7, by decide, by decide, fun d a8 b8 hd0 hd1 hf8 => ?_⟩
          have sx8 : SameX p H6 (upd H7 p (.lst [.int a8, .int b8])) := sx_put sx7
          revert sx8 hf8
          generalize upd H7 p (.lst [.int a8, .int b8]) = H8
          intro hf8 sx8
          dsimp only [gName]
          refine ⟨_, rfl, rfl, _, rfl, ?_⟩
          rw [dInt]
          by_cases d0 : d = 0
          · rw [decide_eq_true d0]
            exact iteT ⟨_, rfl, _, rfl, p, y, a8, b8, rfl, hf8, hyo, fun y' H9 a9 b9 sx9 hf9 cg => ⟨⟨y', _, _, _, rfl, nxt y' cg⟩, sx8.trans sx9, _, _, hf9⟩⟩
          · rw [decide_eq_false d0]
            refine iteF ⟨_, rfl, _, rfl, szl (show 3 ≤ 100000 by decide), fun l2 hl2 => ⟨_, rfl, _, _, rfl, rfl, ?_⟩⟩
            have hd : d = 1 ∨ d = 2 ∨ d = 3 := by omega
            have hfl := feed_new (o := .lst [V.str "\n", .str "\n", .str " "]) hf8 hl2
            have sxl : SameX p H6 (upd H8 l2 (.lst [V.str "\n", .str "\n", .str " "])) := sx_new sx8 hl2
            rcases hd with rfl | rfl | rfl
            · exact ⟨l2, _, _, _, rfl, rfl, SqL.of upd_same, rfl, p, y, "\n", a8, b8, rfl, hfl, hyo, .inl rfl, fun y' H9 a9 b9 sx9 hf9 cg => ⟨⟨y', _, _, _, rfl, nxt y' cg⟩, sxl.trans sx9, _, _, hf9⟩⟩
            · exact ⟨l2, _, _, _, rfl, rfl, SqL.of upd_same, rfl, p, y, "\n", a8, b8, rfl, hfl, hyo, .inl rfl, fun y' H9 a9 b9 sx9 hf9 cg => ⟨⟨y', _, _, _, rfl, nxt y' cg⟩, sxl.trans sx9, _, _, hf9⟩⟩
            · exact ⟨l2, _, _, _, rfl, rfl, SqL.of upd_same, rfl, p, y, " ", a8, b8, rfl, hfl, hyo, .inr rfl, fun y' H9 a9 b9 sx9 hf9 cg => ⟨⟨y', _, _, _, rfl, nxt y' cg⟩, sxl.trans sx9, _, _, hf9⟩⟩
        · rintro σ H7 ⟨⟨y, x7, x8, x9, rfl, hy⟩, sx7, a7, b7, hf7⟩
          dsimp only
          have htl7 := sx7 _ _ ntp htl6
          have hp8 : 2 ^ c ≤ 8 := Nat.pow_le_pow_right (show 0 < 2 by decide) hc3
          have hyG : TxtN 100000 12000 1900 y := hy.mono (by omega) (by omega) (by omega)
          refine ⟨_, rfl, .inl ⟨rfl, _, SqL.of htl7⟩, _, rfl, tl, _, _, rfl, rfl, htl7, szt (by rw [List.length_map]; omega), ⟨_, _, _, _, _, rfl⟩, same_mut (same_sx s6 sx7 hpH) htH, ⟨a7, b7, by rw [upd_ne ntp.symm]; exact hf7.1, hf7.2⟩, ts5 ++ [y], by rw [upd_same, List.map_append]; rfl, by rw [List.length_append, List.length_singleton]; omega, fun y' hy' => ?_⟩
          rcases List.mem_append.mp hy' with h | h
          · exact hts5 y' h
          · rw [List.mem_singleton.mp h]; exact hyG
      · rintro σ H5 ⟨⟨x5, x6, x7, x8, x9, rfl⟩, s5, ⟨a5, b5, hf5⟩, ts5, htl5, hl5, hts5⟩
        dsimp only
        refine ⟨_, rfl, tl, rfl, ⟨_, SqL.of htl5⟩, for_list (K := K) (a := tl) (xs := ts5.map V.str) (fun g σ H' => Same H5 H' ∧ ∃ x9 : Option V, σ = [some (.ref sa), some (.int (0 + (i : Nat))), some (.ref p), some (.str z), some (.ref tl), x5, x6, x7, x8, x9]) ⟨Same.refl _, _, rfl⟩ (fun g σ H' _ h => SqL.of (h.1 _ _ htl5)) ?_ ?_⟩
        · rintro g v σ H6 hv ⟨s6, x9', rfl⟩
          rw [List.getElem?_map] at hv
          cases ey : ts5[g]? with
          | none => rw [ey] at hv; cases hv
          | some y =>
          rw [ey] at hv
          cases hv
          have hy := hts5 y (List.mem_of_getElem? ey)
          have hrp := rep_due hy
          have hw := wrong_N hy
          dsimp only [gName]
          refine ⟨_, rfl, y, rfl, (fits_N hy).1, fun H7 s7 => ⟨_, _, rfl, dp_due _, hrp.sh, hrp.nd, Nat.le_trans hrp.dp (by decide), hrp.short (by decide), _, rfl, y, rfl, hy, fun H8 s8 => ?_⟩⟩
          rw [hw]
          refine ⟨_, _, rfl, dp_due _, hrp.sh, hrp.nd, Nat.le_trans hrp.dp (by decide), hrp.short (by decide), rfl, _, rfl, ?_⟩
          rw [decide_eq_true rfl]
          exact iteF ⟨(s6.trans s7).trans s8, _, rfl⟩
        · rintro σ H6 ⟨s6, x9', rfl⟩
          exact ⟨s5.trans s6, _, _, _, _, _, _, _, _, _, rfl⟩
    · rintro σ H1 ⟨s1, x1, x2, x3, x4, x5, x6, x7, x8, x9, rfl⟩
      exact k _

end
end K07

set_option maxRecDepth 100000
set_option maxHeartbeats 4000000

namespace K07
open PySem L2 Ly
local macro_rules | `(tactic| walk_at "nx") => `(tactic| dsimp only [tNext])
theorem all_mk {l : PySem.W.OpenLaw} {w : World} {K : PySem.W.Frag} {h : Heap} {mg : Str → Option Value} {fa : Addr} (X : K.In h) (G : h.Ns mainGlobals mg) (hfa : mg "law" = some (.ref fa))
    {t_MODULUS : Tok}
    {t_MAX_NAME : Tok}
    {t_DIGITS : Tok}
    {t_LETTERS : Tok}
    {f_law_feed : Addr}
    {od_law_feed an_law_feed : Option Addr} {sl_law_feed : Array (Option Value)} {oc_law_feed kV_law_feed dc_law_feed pm_law_feed cd_law_feed ct_law_feed : Value}
    {f_law_take : Addr}
    {od_law_take an_law_take : Option Addr} {sl_law_take : Array (Option Value)} {oc_law_take kV_law_take dc_law_take pm_law_take cd_law_take ct_law_take : Value}
    {f_law_pick : Addr}
    {od_law_pick an_law_pick : Option Addr} {sl_law_pick : Array (Option Value)} {oc_law_pick kV_law_pick dc_law_pick pm_law_pick cd_law_pick ct_law_pick : Value}
    {f_law_words : Addr}
    {od_law_words an_law_words : Option Addr} {sl_law_words : Array (Option Value)} {oc_law_words kV_law_words dc_law_words pm_law_words cd_law_words ct_law_words : Value}
    {f_law_block : Addr}
    {od_law_block an_law_block : Option Addr} {sl_law_block : Array (Option Value)} {oc_law_block kV_law_block dc_law_block pm_law_block cd_law_block ct_law_block : Value}
    {f_law_diagram : Addr}
    {od_law_diagram an_law_diagram : Option Addr} {sl_law_diagram : Array (Option Value)} {oc_law_diagram kV_law_diagram dc_law_diagram pm_law_diagram cd_law_diagram ct_law_diagram : Value}
    {f_law_port : Addr}
    {od_law_port an_law_port : Option Addr} {sl_law_port : Array (Option Value)} {oc_law_port kV_law_port dc_law_port pm_law_port cd_law_port ct_law_port : Value}
    {f_law_rows : Addr}
    {od_law_rows an_law_rows : Option Addr} {sl_law_rows : Array (Option Value)} {oc_law_rows kV_law_rows dc_law_rows pm_law_rows cd_law_rows ct_law_rows : Value}
    {f_law_is_name : Addr}
    {od_law_is_name an_law_is_name : Option Addr} {sl_law_is_name : Array (Option Value)} {oc_law_is_name kV_law_is_name dc_law_is_name pm_law_is_name cd_law_is_name ct_law_is_name : Value}
    {f_law_is_number : Addr}
    {od_law_is_number an_law_is_number : Option Addr} {sl_law_is_number : Array (Option Value)} {oc_law_is_number kV_law_is_number dc_law_is_number pm_law_is_number cd_law_is_number ct_law_is_number : Value}
    {f_law_is_block : Addr}
    {od_law_is_block an_law_is_block : Option Addr} {sl_law_is_block : Array (Option Value)} {oc_law_is_block kV_law_is_block dc_law_is_block pm_law_is_block cd_law_is_block ct_law_is_block : Value}
    {f_law_head : Addr}
    {od_law_head an_law_head : Option Addr} {sl_law_head : Array (Option Value)} {oc_law_head kV_law_head dc_law_head pm_law_head cd_law_head ct_law_head : Value}
    {f_law_is_port : Addr}
    {od_law_is_port an_law_is_port : Option Addr} {sl_law_is_port : Array (Option Value)} {oc_law_is_port kV_law_is_port dc_law_is_port pm_law_is_port cd_law_is_port ct_law_is_port : Value}
    {f_law_wrong : Addr}
    {od_law_wrong an_law_wrong : Option Addr} {sl_law_wrong : Array (Option Value)} {oc_law_wrong kV_law_wrong dc_law_wrong pm_law_wrong cd_law_wrong ct_law_wrong : Value}
    {f_law_told : Addr}
    {od_law_told an_law_told : Option Addr} {sl_law_told : Array (Option Value)} {oc_law_told kV_law_told dc_law_told pm_law_told cd_law_told ct_law_told : Value}
    {f_law_signs : Addr}
    {od_law_signs an_law_signs : Option Addr} {sl_law_signs : Array (Option Value)} {oc_law_signs kV_law_signs dc_law_signs pm_law_signs cd_law_signs ct_law_signs : Value}
    {f_law_pieces : Addr}
    {od_law_pieces an_law_pieces : Option Addr} {sl_law_pieces : Array (Option Value)} {oc_law_pieces kV_law_pieces dc_law_pieces pm_law_pieces cd_law_pieces ct_law_pieces : Value}
    {f_law : Addr}
    {od_law an_law : Option Addr} {sl_law : Array (Option Value)} {oc_law kV_law dc_law pm_law cd_law ct_law : Value}
    {f_is_primitive_text : Addr}
    {od_is_primitive_text an_is_primitive_text : Option Addr} {sl_is_primitive_text : Array (Option Value)} {oc_is_primitive_text kV_is_primitive_text dc_is_primitive_text pm_is_primitive_text cd_is_primitive_text ct_is_primitive_text : Value}
    {f_number_of : Addr}
    {od_number_of an_number_of : Option Addr} {sl_number_of : Array (Option Value)} {oc_number_of kV_number_of dc_number_of pm_number_of cd_number_of ct_number_of : Value}
    {f_is_name : Addr}
    {od_is_name an_is_name : Option Addr} {sl_is_name : Array (Option Value)} {oc_is_name kV_is_name dc_is_name pm_is_name cd_is_name ct_is_name : Value}
    {f_is_block_text : Addr}
    {od_is_block_text an_is_block_text : Option Addr} {sl_is_block_text : Array (Option Value)} {oc_is_block_text kV_is_block_text dc_is_block_text pm_is_block_text cd_is_block_text ct_is_block_text : Value}
    {f_port_text : Addr}
    {od_port_text an_port_text : Option Addr} {sl_port_text : Array (Option Value)} {oc_port_text kV_port_text dc_port_text pm_port_text cd_port_text ct_port_text : Value}
    {f_text_of : Addr}
    {od_text_of an_text_of : Option Addr} {sl_text_of : Array (Option Value)} {oc_text_of kV_text_of dc_text_of pm_text_of cd_text_of ct_text_of : Value}
    {f_is_port_name : Addr}
    {od_is_port_name an_is_port_name : Option Addr} {sl_is_port_name : Array (Option Value)} {oc_is_port_name kV_is_port_name dc_is_port_name pm_is_port_name cd_is_port_name ct_is_port_name : Value}
    {d_PORTS : Addr} {es_PORTS : Array DictEntry} {en_PORTS : Nat}
    {pt0 pi0 po0 : Addr} {pc0 pd0 pe0 : Option Addr} {pn0 pm_0 pq0 : Nat} {psl0 psm0 psn0 : Array (Option Value)}  {to0_0 : Tok}
    {pt1 pi1 po1 : Addr} {pc1 pd1 pe1 : Option Addr} {pn1 pm_1 pq1 : Nat} {psl1 psm1 psn1 : Array (Option Value)} {ti1_0 : Tok} {ti1_1 : Tok} {to1_0 : Tok}
    {pt2 pi2 po2 : Addr} {pc2 pd2 pe2 : Option Addr} {pn2 pm_2 pq2 : Nat} {psl2 psm2 psn2 : Array (Option Value)} {ti2_0 : Tok} {ti2_1 : Tok} {to2_0 : Tok}
    {pt3 pi3 po3 : Addr} {pc3 pd3 pe3 : Option Addr} {pn3 pm_3 pq3 : Nat} {psl3 psm3 psn3 : Array (Option Value)} {ti3_0 : Tok} {ti3_1 : Tok} {to3_0 : Tok}
    {pt4 pi4 po4 : Addr} {pc4 pd4 pe4 : Option Addr} {pn4 pm_4 pq4 : Nat} {psl4 psm4 psn4 : Array (Option Value)} {ti4_0 : Tok} {ti4_1 : Tok} {to4_0 : Tok}
    {pt5 pi5 po5 : Addr} {pc5 pd5 pe5 : Option Addr} {pn5 pm_5 pq5 : Nat} {psl5 psm5 psn5 : Array (Option Value)} {ti5_0 : Tok} {ti5_1 : Tok} {to5_0 : Tok}
    {pt6 pi6 po6 : Addr} {pc6 pd6 pe6 : Option Addr} {pn6 pm_6 pq6 : Nat} {psl6 psm6 psn6 : Array (Option Value)} {ti6_0 : Tok} {ti6_1 : Tok} {ti6_2 : Tok} {to6_0 : Tok}
    {pt7 pi7 po7 : Addr} {pc7 pd7 pe7 : Option Addr} {pn7 pm_7 pq7 : Nat} {psl7 psm7 psn7 : Array (Option Value)} {ti7_0 : Tok} {ti7_1 : Tok} {to7_0 : Tok} {to7_1 : Tok}
    {pt8 pi8 po8 : Addr} {pc8 pd8 pe8 : Option Addr} {pn8 pm_8 pq8 : Nat} {psl8 psm8 psn8 : Array (Option Value)} {ti8_0 : Tok} {to8_0 : Tok}
    {kt0 kt1 kt2 kt3 kt4 kt5 kt6 kt7 kt8 : Tok}
    {u_RESERVED : Addr} {uc_RESERVED : Option Addr} {un_RESERVED : Nat} {us_RESERVED : Array (Option Value)} {ut_RESERVED_0 : Tok} {ut_RESERVED_1 : Tok} {ut_RESERVED_2 : Tok} {ut_RESERVED_3 : Tok}
    {C_Block : Addr}
    {C_Diagram : Addr}
    {tv_Diagram_MAX_PARTS : Tok}
    {tv_Diagram_MAX_PORTS : Tok}
    {cdk_Block : ClassData}
    {f_Block_init : Addr}
    {od_Block_init an_Block_init : Option Addr} {sl_Block_init : Array (Option Value)} {oc_Block_init kV_Block_init dc_Block_init pm_Block_init cd_Block_init ct_Block_init : Value}
    {f_Diagram_init cda_Diagram cc_Diagram : Addr} {od_Diagram_init an_Diagram_init : Option Addr} {sl_Diagram_init : Array (Option Value)} {oc_Diagram_init kV_Diagram_init dc_Diagram_init pm_Diagram_init ct_Diagram_init : Value} {cdC_Diagram : ClassData} {ccl_Diagram ccv_Diagram : Value} {cdd_Diagram cvd_Diagram : Option Addr} {cvs_Diagram : Array Value} {ccs_Diagram csl_Diagram : Array (Option Value)} {file_Diagram : Str} {tf_Diagram : Tok}
    {f_Diagram_str : Addr}
    {od_Diagram_str an_Diagram_str : Option Addr} {sl_Diagram_str : Array (Option Value)} {oc_Diagram_str kV_Diagram_str dc_Diagram_str pm_Diagram_str cd_Diagram_str ct_Diagram_str : Value}
    {p_Diagram_parse : Addr} {rest_Diagram_parse : List Value}
    {f_Diagram_parse : Addr}
    {od_Diagram_parse an_Diagram_parse : Option Addr} {sl_Diagram_parse : Array (Option Value)} {oc_Diagram_parse kV_Diagram_parse dc_Diagram_parse pm_Diagram_parse cd_Diagram_parse ct_Diagram_parse : Value}
    {C_Reader : Addr}
    {f_Reader_init : Addr}
    {od_Reader_init an_Reader_init : Option Addr} {sl_Reader_init : Array (Option Value)} {oc_Reader_init kV_Reader_init dc_Reader_init pm_Reader_init cd_Reader_init ct_Reader_init : Value}
    {f_Reader_take : Addr}
    {od_Reader_take an_Reader_take : Option Addr} {sl_Reader_take : Array (Option Value)} {oc_Reader_take kV_Reader_take dc_Reader_take pm_Reader_take cd_Reader_take ct_Reader_take : Value}
    {f_Reader_take_head : Addr}
    {od_Reader_take_head an_Reader_take_head : Option Addr} {sl_Reader_take_head : Array (Option Value)} {oc_Reader_take_head kV_Reader_take_head dc_Reader_take_head pm_Reader_take_head cd_Reader_take_head ct_Reader_take_head : Value}
    {f_Reader_take_part : Addr}
    {od_Reader_take_part an_Reader_take_part : Option Addr} {sl_Reader_take_part : Array (Option Value)} {oc_Reader_take_part kV_Reader_take_part dc_Reader_take_part pm_Reader_take_part cd_Reader_take_part ct_Reader_take_part : Value}
    {f_Reader_take_wire : Addr}
    {od_Reader_take_wire an_Reader_take_wire : Option Addr} {sl_Reader_take_wire : Array (Option Value)} {oc_Reader_take_wire kV_Reader_take_wire dc_Reader_take_wire pm_Reader_take_wire cd_Reader_take_wire ct_Reader_take_wire : Value}
    {f_Reader_port_of : Addr}
    {od_Reader_port_of an_Reader_port_of : Option Addr} {sl_Reader_port_of : Array (Option Value)} {oc_Reader_port_of kV_Reader_port_of dc_Reader_port_of pm_Reader_port_of cd_Reader_port_of ct_Reader_port_of : Value}
    {f_Reader_result : Addr}
    {od_Reader_result an_Reader_result : Option Addr} {sl_Reader_result : Array (Option Value)} {oc_Reader_result kV_Reader_result dc_Reader_result pm_Reader_result cd_Reader_result ct_Reader_result : Value}
    {C_InvalidText : Addr}
    {C_BlockError : Addr}
    {nm_InvalidText q_InvalidText : Str} {N_InvalidText : Addr} {bs_InvalidText : List Value} {sn_InvalidText : List Str} {sub_InvalidText : List Value} {ab_InvalidText : Bool} {col_InvalidText : Option Bool} {dd_InvalidText : Option Addr} {m0_InvalidText m1_InvalidText m2_InvalidText m3_InvalidText m5_InvalidText : Option Value} {cd_InvalidText : ClassData}
    {f_InvalidText_init : Addr}
    {od_InvalidText_init an_InvalidText_init : Option Addr} {sl_InvalidText_init : Array (Option Value)} {oc_InvalidText_init kV_InvalidText_init dc_InvalidText_init pm_InvalidText_init cd_InvalidText_init ct_InvalidText_init : Value}
    {cdb_InvalidText : ClassData}
    (z_sorted : PySem.W.nsIn K mainGlobals "sorted" = some none)
    (z_enumerate : PySem.W.nsIn K mainGlobals "enumerate" = some none)
    (z_list : PySem.W.nsIn K mainGlobals "list" = some none)
    (z_len : PySem.W.nsIn K mainGlobals "len" = some none)
    (z_abs : PySem.W.nsIn K mainGlobals "abs" = some none)
    (z_max : PySem.W.nsIn K mainGlobals "max" = some none)
    (z_min : PySem.W.nsIn K mainGlobals "min" = some none)
    (z_range : PySem.W.nsIn K mainGlobals "range" = some none)
    (z_isinstance : PySem.W.nsIn K mainGlobals "isinstance" = some none)
    (z_int : PySem.W.nsIn K mainGlobals "int" = some none)
    (z_str : PySem.W.nsIn K mainGlobals "str" = some none)
    (z_tuple : PySem.W.nsIn K mainGlobals "tuple" = some none)
    (z_all : PySem.W.nsIn K mainGlobals "all" = some none)
    (z_set : PySem.W.nsIn K mainGlobals "set" = some none)
    (z_dict : PySem.W.nsIn K mainGlobals "dict" = some none)
    (z_repr : PySem.W.nsIn K mainGlobals "repr" = some none)
    (z_ValueError : PySem.W.nsIn K mainGlobals "ValueError" = some none)
    (a_MODULUS : PySem.W.nsIn K mainGlobals "MODULUS" = some (some (.int 4294967296 t_MODULUS)))
    (a_MAX_NAME : PySem.W.nsIn K mainGlobals "MAX_NAME" = some (some (.int 8 t_MAX_NAME)))
    (a_DIGITS : PySem.W.nsIn K mainGlobals "DIGITS" = some (some (.str "0123456789" t_DIGITS)))
    (a_LETTERS : PySem.W.nsIn K mainGlobals "LETTERS" = some (some (.str "abcdefghijklmnopqrstuvwxyz" t_LETTERS)))
    (a_law_feed : PySem.W.nsIn K mainGlobals "_law_feed" = some (some (.ref f_law_feed)))
    (l_law_feed : K.lookup f_law_feed = some ⟨oc_law_feed, od_law_feed, .func (PySem.W.fnOf "_law_feed" "_law_feed" (defArgs s_law_feed) (defBody s_law_feed) (defScope s_law_feed) .none kV_law_feed dc_law_feed pm_law_feed an_law_feed cd_law_feed ct_law_feed), sl_law_feed⟩)
    (c_law_feed : PySem.W.codeIn K cd_law_feed "_law_feed" = true)
    (k_law_feed : PySem.W.keepIn K (.ref f_law_feed) = true)
    (a_law_take : PySem.W.nsIn K mainGlobals "_law_take" = some (some (.ref f_law_take)))
    (l_law_take : K.lookup f_law_take = some ⟨oc_law_take, od_law_take, .func (PySem.W.fnOf "_law_take" "_law_take" (defArgs s_law_take) (defBody s_law_take) (defScope s_law_take) .none kV_law_take dc_law_take pm_law_take an_law_take cd_law_take ct_law_take), sl_law_take⟩)
    (c_law_take : PySem.W.codeIn K cd_law_take "_law_take" = true)
    (k_law_take : PySem.W.keepIn K (.ref f_law_take) = true)
    (a_law_pick : PySem.W.nsIn K mainGlobals "_law_pick" = some (some (.ref f_law_pick)))
    (l_law_pick : K.lookup f_law_pick = some ⟨oc_law_pick, od_law_pick, .func (PySem.W.fnOf "_law_pick" "_law_pick" (defArgs s_law_pick) (defBody s_law_pick) (defScope s_law_pick) .none kV_law_pick dc_law_pick pm_law_pick an_law_pick cd_law_pick ct_law_pick), sl_law_pick⟩)
    (c_law_pick : PySem.W.codeIn K cd_law_pick "_law_pick" = true)
    (k_law_pick : PySem.W.keepIn K (.ref f_law_pick) = true)
    (a_law_words : PySem.W.nsIn K mainGlobals "_law_words" = some (some (.ref f_law_words)))
    (l_law_words : K.lookup f_law_words = some ⟨oc_law_words, od_law_words, .func (PySem.W.fnOf "_law_words" "_law_words" (defArgs s_law_words) (defBody s_law_words) (defScope s_law_words) .none kV_law_words dc_law_words pm_law_words an_law_words cd_law_words ct_law_words), sl_law_words⟩)
    (c_law_words : PySem.W.codeIn K cd_law_words "_law_words" = true)
    (k_law_words : PySem.W.keepIn K (.ref f_law_words) = true)
    (a_law_block : PySem.W.nsIn K mainGlobals "_law_block" = some (some (.ref f_law_block)))
    (l_law_block : K.lookup f_law_block = some ⟨oc_law_block, od_law_block, .func (PySem.W.fnOf "_law_block" "_law_block" (defArgs s_law_block) (defBody s_law_block) (defScope s_law_block) .none kV_law_block dc_law_block pm_law_block an_law_block cd_law_block ct_law_block), sl_law_block⟩)
    (c_law_block : PySem.W.codeIn K cd_law_block "_law_block" = true)
    (k_law_block : PySem.W.keepIn K (.ref f_law_block) = true)
    (a_law_diagram : PySem.W.nsIn K mainGlobals "_law_diagram" = some (some (.ref f_law_diagram)))
    (l_law_diagram : K.lookup f_law_diagram = some ⟨oc_law_diagram, od_law_diagram, .func (PySem.W.fnOf "_law_diagram" "_law_diagram" (defArgs s_law_diagram) (defBody s_law_diagram) (defScope s_law_diagram) .none kV_law_diagram dc_law_diagram pm_law_diagram an_law_diagram cd_law_diagram ct_law_diagram), sl_law_diagram⟩)
    (c_law_diagram : PySem.W.codeIn K cd_law_diagram "_law_diagram" = true)
    (k_law_diagram : PySem.W.keepIn K (.ref f_law_diagram) = true)
    (a_law_port : PySem.W.nsIn K mainGlobals "_law_port" = some (some (.ref f_law_port)))
    (l_law_port : K.lookup f_law_port = some ⟨oc_law_port, od_law_port, .func (PySem.W.fnOf "_law_port" "_law_port" (defArgs s_law_port) (defBody s_law_port) (defScope s_law_port) .none kV_law_port dc_law_port pm_law_port an_law_port cd_law_port ct_law_port), sl_law_port⟩)
    (c_law_port : PySem.W.codeIn K cd_law_port "_law_port" = true)
    (k_law_port : PySem.W.keepIn K (.ref f_law_port) = true)
    (a_law_rows : PySem.W.nsIn K mainGlobals "_law_rows" = some (some (.ref f_law_rows)))
    (l_law_rows : K.lookup f_law_rows = some ⟨oc_law_rows, od_law_rows, .func (PySem.W.fnOf "_law_rows" "_law_rows" (defArgs s_law_rows) (defBody s_law_rows) (defScope s_law_rows) .none kV_law_rows dc_law_rows pm_law_rows an_law_rows cd_law_rows ct_law_rows), sl_law_rows⟩)
    (c_law_rows : PySem.W.codeIn K cd_law_rows "_law_rows" = true)
    (k_law_rows : PySem.W.keepIn K (.ref f_law_rows) = true)
    (a_law_is_name : PySem.W.nsIn K mainGlobals "_law_is_name" = some (some (.ref f_law_is_name)))
    (l_law_is_name : K.lookup f_law_is_name = some ⟨oc_law_is_name, od_law_is_name, .func (PySem.W.fnOf "_law_is_name" "_law_is_name" (defArgs s_law_is_name) (defBody s_law_is_name) (defScope s_law_is_name) .none kV_law_is_name dc_law_is_name pm_law_is_name an_law_is_name cd_law_is_name ct_law_is_name), sl_law_is_name⟩)
    (c_law_is_name : PySem.W.codeIn K cd_law_is_name "_law_is_name" = true)
    (k_law_is_name : PySem.W.keepIn K (.ref f_law_is_name) = true)
    (a_law_is_number : PySem.W.nsIn K mainGlobals "_law_is_number" = some (some (.ref f_law_is_number)))
    (l_law_is_number : K.lookup f_law_is_number = some ⟨oc_law_is_number, od_law_is_number, .func (PySem.W.fnOf "_law_is_number" "_law_is_number" (defArgs s_law_is_number) (defBody s_law_is_number) (defScope s_law_is_number) .none kV_law_is_number dc_law_is_number pm_law_is_number an_law_is_number cd_law_is_number ct_law_is_number), sl_law_is_number⟩)
    (c_law_is_number : PySem.W.codeIn K cd_law_is_number "_law_is_number" = true)
    (k_law_is_number : PySem.W.keepIn K (.ref f_law_is_number) = true)
    (a_law_is_block : PySem.W.nsIn K mainGlobals "_law_is_block" = some (some (.ref f_law_is_block)))
    (l_law_is_block : K.lookup f_law_is_block = some ⟨oc_law_is_block, od_law_is_block, .func (PySem.W.fnOf "_law_is_block" "_law_is_block" (defArgs s_law_is_block) (defBody s_law_is_block) (defScope s_law_is_block) .none kV_law_is_block dc_law_is_block pm_law_is_block an_law_is_block cd_law_is_block ct_law_is_block), sl_law_is_block⟩)
    (c_law_is_block : PySem.W.codeIn K cd_law_is_block "_law_is_block" = true)
    (k_law_is_block : PySem.W.keepIn K (.ref f_law_is_block) = true)
    (a_law_head : PySem.W.nsIn K mainGlobals "_law_head" = some (some (.ref f_law_head)))
    (l_law_head : K.lookup f_law_head = some ⟨oc_law_head, od_law_head, .func (PySem.W.fnOf "_law_head" "_law_head" (defArgs s_law_head) (defBody s_law_head) (defScope s_law_head) .none kV_law_head dc_law_head pm_law_head an_law_head cd_law_head ct_law_head), sl_law_head⟩)
    (c_law_head : PySem.W.codeIn K cd_law_head "_law_head" = true)
    (k_law_head : PySem.W.keepIn K (.ref f_law_head) = true)
    (a_law_is_port : PySem.W.nsIn K mainGlobals "_law_is_port" = some (some (.ref f_law_is_port)))
    (l_law_is_port : K.lookup f_law_is_port = some ⟨oc_law_is_port, od_law_is_port, .func (PySem.W.fnOf "_law_is_port" "_law_is_port" (defArgs s_law_is_port) (defBody s_law_is_port) (defScope s_law_is_port) .none kV_law_is_port dc_law_is_port pm_law_is_port an_law_is_port cd_law_is_port ct_law_is_port), sl_law_is_port⟩)
    (c_law_is_port : PySem.W.codeIn K cd_law_is_port "_law_is_port" = true)
    (k_law_is_port : PySem.W.keepIn K (.ref f_law_is_port) = true)
    (a_law_wrong : PySem.W.nsIn K mainGlobals "_law_wrong" = some (some (.ref f_law_wrong)))
    (l_law_wrong : K.lookup f_law_wrong = some ⟨oc_law_wrong, od_law_wrong, .func (PySem.W.fnOf "_law_wrong" "_law_wrong" (defArgs s_law_wrong) (defBody s_law_wrong) (defScope s_law_wrong) .none kV_law_wrong dc_law_wrong pm_law_wrong an_law_wrong cd_law_wrong ct_law_wrong), sl_law_wrong⟩)
    (c_law_wrong : PySem.W.codeIn K cd_law_wrong "_law_wrong" = true)
    (k_law_wrong : PySem.W.keepIn K (.ref f_law_wrong) = true)
    (a_law_told : PySem.W.nsIn K mainGlobals "_law_told" = some (some (.ref f_law_told)))
    (l_law_told : K.lookup f_law_told = some ⟨oc_law_told, od_law_told, .func (PySem.W.fnOf "_law_told" "_law_told" (defArgs s_law_told) (defBody s_law_told) (defScope s_law_told) .none kV_law_told dc_law_told pm_law_told an_law_told cd_law_told ct_law_told), sl_law_told⟩)
    (c_law_told : PySem.W.codeIn K cd_law_told "_law_told" = true)
    (k_law_told : PySem.W.keepIn K (.ref f_law_told) = true)
    (a_law_signs : PySem.W.nsIn K mainGlobals "_law_signs" = some (some (.ref f_law_signs)))
    (l_law_signs : K.lookup f_law_signs = some ⟨oc_law_signs, od_law_signs, .func (PySem.W.fnOf "_law_signs" "_law_signs" (defArgs s_law_signs) (defBody s_law_signs) (defScope s_law_signs) .none kV_law_signs dc_law_signs pm_law_signs an_law_signs cd_law_signs ct_law_signs), sl_law_signs⟩)
    (c_law_signs : PySem.W.codeIn K cd_law_signs "_law_signs" = true)
    (k_law_signs : PySem.W.keepIn K (.ref f_law_signs) = true)
    (a_law_pieces : PySem.W.nsIn K mainGlobals "_law_pieces" = some (some (.ref f_law_pieces)))
    (l_law_pieces : K.lookup f_law_pieces = some ⟨oc_law_pieces, od_law_pieces, .func (PySem.W.fnOf "_law_pieces" "_law_pieces" (defArgs s_law_pieces) (defBody s_law_pieces) (defScope s_law_pieces) .none kV_law_pieces dc_law_pieces pm_law_pieces an_law_pieces cd_law_pieces ct_law_pieces), sl_law_pieces⟩)
    (c_law_pieces : PySem.W.codeIn K cd_law_pieces "_law_pieces" = true)
    (k_law_pieces : PySem.W.keepIn K (.ref f_law_pieces) = true)
    (a_law : PySem.W.nsIn K mainGlobals "law" = some (some (.ref f_law)))
    (l_law : K.lookup f_law = some ⟨oc_law, od_law, .func (PySem.W.fnOf "law" "law" (defArgs s_law) (defBody s_law) (defScope s_law) .none kV_law dc_law pm_law an_law cd_law ct_law), sl_law⟩)
    (c_law : PySem.W.codeIn K cd_law "law" = true)
    (k_law : PySem.W.keepIn K (.ref f_law) = true)
    (a_is_primitive_text : PySem.W.nsIn K mainGlobals "is_primitive_text" = some (some (.ref f_is_primitive_text)))
    (l_is_primitive_text : K.lookup f_is_primitive_text = some ⟨oc_is_primitive_text, od_is_primitive_text, .func (PySem.W.fnOf "is_primitive_text" "is_primitive_text" (defArgs s_is_primitive_text) (defBody s_is_primitive_text) (defScope s_is_primitive_text) .none kV_is_primitive_text dc_is_primitive_text pm_is_primitive_text an_is_primitive_text cd_is_primitive_text ct_is_primitive_text), sl_is_primitive_text⟩)
    (c_is_primitive_text : PySem.W.codeIn K cd_is_primitive_text "is_primitive_text" = true)
    (k_is_primitive_text : PySem.W.keepIn K (.ref f_is_primitive_text) = true)
    (a_number_of : PySem.W.nsIn K mainGlobals "number_of" = some (some (.ref f_number_of)))
    (l_number_of : K.lookup f_number_of = some ⟨oc_number_of, od_number_of, .func (PySem.W.fnOf "number_of" "number_of" (defArgs s_number_of) (defBody s_number_of) (defScope s_number_of) .none kV_number_of dc_number_of pm_number_of an_number_of cd_number_of ct_number_of), sl_number_of⟩)
    (c_number_of : PySem.W.codeIn K cd_number_of "number_of" = true)
    (k_number_of : PySem.W.keepIn K (.ref f_number_of) = true)
    (a_is_name : PySem.W.nsIn K mainGlobals "is_name" = some (some (.ref f_is_name)))
    (l_is_name : K.lookup f_is_name = some ⟨oc_is_name, od_is_name, .func (PySem.W.fnOf "is_name" "is_name" (defArgs s_is_name) (defBody s_is_name) (defScope s_is_name) .none kV_is_name dc_is_name pm_is_name an_is_name cd_is_name ct_is_name), sl_is_name⟩)
    (c_is_name : PySem.W.codeIn K cd_is_name "is_name" = true)
    (k_is_name : PySem.W.keepIn K (.ref f_is_name) = true)
    (a_is_block_text : PySem.W.nsIn K mainGlobals "is_block_text" = some (some (.ref f_is_block_text)))
    (l_is_block_text : K.lookup f_is_block_text = some ⟨oc_is_block_text, od_is_block_text, .func (PySem.W.fnOf "is_block_text" "is_block_text" (defArgs s_is_block_text) (defBody s_is_block_text) (defScope s_is_block_text) .none kV_is_block_text dc_is_block_text pm_is_block_text an_is_block_text cd_is_block_text ct_is_block_text), sl_is_block_text⟩)
    (c_is_block_text : PySem.W.codeIn K cd_is_block_text "is_block_text" = true)
    (k_is_block_text : PySem.W.keepIn K (.ref f_is_block_text) = true)
    (a_port_text : PySem.W.nsIn K mainGlobals "port_text" = some (some (.ref f_port_text)))
    (l_port_text : K.lookup f_port_text = some ⟨oc_port_text, od_port_text, .func (PySem.W.fnOf "port_text" "port_text" (defArgs s_port_text) (defBody s_port_text) (defScope s_port_text) .none kV_port_text dc_port_text pm_port_text an_port_text cd_port_text ct_port_text), sl_port_text⟩)
    (c_port_text : PySem.W.codeIn K cd_port_text "port_text" = true)
    (k_port_text : PySem.W.keepIn K (.ref f_port_text) = true)
    (a_text_of : PySem.W.nsIn K mainGlobals "text_of" = some (some (.ref f_text_of)))
    (l_text_of : K.lookup f_text_of = some ⟨oc_text_of, od_text_of, .func (PySem.W.fnOf "text_of" "text_of" (defArgs s_text_of) (defBody s_text_of) (defScope s_text_of) .none kV_text_of dc_text_of pm_text_of an_text_of cd_text_of ct_text_of), sl_text_of⟩)
    (c_text_of : PySem.W.codeIn K cd_text_of "text_of" = true)
    (k_text_of : PySem.W.keepIn K (.ref f_text_of) = true)
    (a_is_port_name : PySem.W.nsIn K mainGlobals "is_port_name" = some (some (.ref f_is_port_name)))
    (l_is_port_name : K.lookup f_is_port_name = some ⟨oc_is_port_name, od_is_port_name, .func (PySem.W.fnOf "is_port_name" "is_port_name" (defArgs s_is_port_name) (defBody s_is_port_name) (defScope s_is_port_name) .none kV_is_port_name dc_is_port_name pm_is_port_name an_is_port_name cd_is_port_name ct_is_port_name), sl_is_port_name⟩)
    (c_is_port_name : PySem.W.codeIn K cd_is_port_name "is_port_name" = true)
    (k_is_port_name : PySem.W.keepIn K (.ref f_is_port_name) = true)
    (a_PORTS : PySem.W.nsIn K mainGlobals "PORTS" = some (some (.ref d_PORTS)))
    (l_PORTS : K.lookup d_PORTS = some ⟨.type "dict", none, .dict es_PORTS en_PORTS, #[]⟩)
    (h_PORTS : PySem.W.KeysLit w.params es_PORTS.toList)
    (w_PORTS : (d_PORTS == sysModules) = false)
    (ph0 : PySem.W.nsIn K d_PORTS "const" = some (some (.ref pt0)))
    (pl0 : K.lookup pt0 = some ⟨.type "tuple", pc0, .seq #[.ref pi0, .ref po0] pn0, psl0⟩)
    (pu0 : K.lookup pi0 = some ⟨.type "tuple", pd0, .seq #[] pm_0, psm0⟩)
    (pv0 : K.lookup po0 = some ⟨.type "tuple", pe0, .seq #[.str "out" to0_0] pq0, psn0⟩)
    (ph1 : PySem.W.nsIn K d_PORTS "add" = some (some (.ref pt1)))
    (pl1 : K.lookup pt1 = some ⟨.type "tuple", pc1, .seq #[.ref pi1, .ref po1] pn1, psl1⟩)
    (pu1 : K.lookup pi1 = some ⟨.type "tuple", pd1, .seq #[.str "a" ti1_0, .str "b" ti1_1] pm_1, psm1⟩)
    (pv1 : K.lookup po1 = some ⟨.type "tuple", pe1, .seq #[.str "out" to1_0] pq1, psn1⟩)
    (ph2 : PySem.W.nsIn K d_PORTS "sub" = some (some (.ref pt2)))
    (pl2 : K.lookup pt2 = some ⟨.type "tuple", pc2, .seq #[.ref pi2, .ref po2] pn2, psl2⟩)
    (pu2 : K.lookup pi2 = some ⟨.type "tuple", pd2, .seq #[.str "a" ti2_0, .str "b" ti2_1] pm_2, psm2⟩)
    (pv2 : K.lookup po2 = some ⟨.type "tuple", pe2, .seq #[.str "out" to2_0] pq2, psn2⟩)
    (ph3 : PySem.W.nsIn K d_PORTS "mul" = some (some (.ref pt3)))
    (pl3 : K.lookup pt3 = some ⟨.type "tuple", pc3, .seq #[.ref pi3, .ref po3] pn3, psl3⟩)
    (pu3 : K.lookup pi3 = some ⟨.type "tuple", pd3, .seq #[.str "a" ti3_0, .str "b" ti3_1] pm_3, psm3⟩)
    (pv3 : K.lookup po3 = some ⟨.type "tuple", pe3, .seq #[.str "out" to3_0] pq3, psn3⟩)
    (ph4 : PySem.W.nsIn K d_PORTS "less" = some (some (.ref pt4)))
    (pl4 : K.lookup pt4 = some ⟨.type "tuple", pc4, .seq #[.ref pi4, .ref po4] pn4, psl4⟩)
    (pu4 : K.lookup pi4 = some ⟨.type "tuple", pd4, .seq #[.str "a" ti4_0, .str "b" ti4_1] pm_4, psm4⟩)
    (pv4 : K.lookup po4 = some ⟨.type "tuple", pe4, .seq #[.str "out" to4_0] pq4, psn4⟩)
    (ph5 : PySem.W.nsIn K d_PORTS "equal" = some (some (.ref pt5)))
    (pl5 : K.lookup pt5 = some ⟨.type "tuple", pc5, .seq #[.ref pi5, .ref po5] pn5, psl5⟩)
    (pu5 : K.lookup pi5 = some ⟨.type "tuple", pd5, .seq #[.str "a" ti5_0, .str "b" ti5_1] pm_5, psm5⟩)
    (pv5 : K.lookup po5 = some ⟨.type "tuple", pe5, .seq #[.str "out" to5_0] pq5, psn5⟩)
    (ph6 : PySem.W.nsIn K d_PORTS "pick" = some (some (.ref pt6)))
    (pl6 : K.lookup pt6 = some ⟨.type "tuple", pc6, .seq #[.ref pi6, .ref po6] pn6, psl6⟩)
    (pu6 : K.lookup pi6 = some ⟨.type "tuple", pd6, .seq #[.str "c" ti6_0, .str "a" ti6_1, .str "b" ti6_2] pm_6, psm6⟩)
    (pv6 : K.lookup po6 = some ⟨.type "tuple", pe6, .seq #[.str "out" to6_0] pq6, psn6⟩)
    (ph7 : PySem.W.nsIn K d_PORTS "divide" = some (some (.ref pt7)))
    (pl7 : K.lookup pt7 = some ⟨.type "tuple", pc7, .seq #[.ref pi7, .ref po7] pn7, psl7⟩)
    (pu7 : K.lookup pi7 = some ⟨.type "tuple", pd7, .seq #[.str "a" ti7_0, .str "b" ti7_1] pm_7, psm7⟩)
    (pv7 : K.lookup po7 = some ⟨.type "tuple", pe7, .seq #[.str "quotient" to7_0, .str "rest" to7_1] pq7, psn7⟩)
    (ph8 : PySem.W.nsIn K d_PORTS "delay" = some (some (.ref pt8)))
    (pl8 : K.lookup pt8 = some ⟨.type "tuple", pc8, .seq #[.ref pi8, .ref po8] pn8, psl8⟩)
    (pu8 : K.lookup pi8 = some ⟨.type "tuple", pd8, .seq #[.str "in" ti8_0] pm_8, psm8⟩)
    (pv8 : K.lookup po8 = some ⟨.type "tuple", pe8, .seq #[.str "out" to8_0] pq8, psn8⟩)
    (ks_PORTS : es_PORTS.toList.map (·.key) = [.str "const" kt0, .str "add" kt1, .str "sub" kt2, .str "mul" kt3, .str "less" kt4, .str "equal" kt5, .str "pick" kt6, .str "divide" kt7, .str "delay" kt8])
    (a_RESERVED : PySem.W.nsIn K mainGlobals "RESERVED" = some (some (.ref u_RESERVED)))
    (l_RESERVED : K.lookup u_RESERVED = some ⟨.type "tuple", uc_RESERVED, .seq #[.str "block" ut_RESERVED_0, .str "part" ut_RESERVED_1, .str "end" ut_RESERVED_2, .str "self" ut_RESERVED_3] un_RESERVED, us_RESERVED⟩)
    (a_Block : PySem.W.nsIn K mainGlobals "Block" = some (some (.ref C_Block)))
    (a_Diagram : PySem.W.nsIn K mainGlobals "Diagram" = some (some (.ref C_Diagram)))
    (pg_Diagram : PySem.W.plainGet K C_Diagram Str.empty = true)
    (hd_Diagram : PySem.W.hasDictIn K C_Diagram = true)
    (po_Diagram : PySem.W.plainOver K C_Diagram = true)
    (sa_Diagram : PySem.W.findIn K (.ref C_Diagram) "__setattr__" = some (some (.builtin "object.__setattr__")))
    (mk_Diagram : PySem.W.makesIn K C_Diagram = true)
    (kc_Diagram : PySem.W.keepIn K (.ref C_Diagram) = true)
    (no_Diagram_name : PySem.W.findIn K (.ref C_Diagram) "name" = some none)
    (no_Diagram_inputs : PySem.W.findIn K (.ref C_Diagram) "inputs" = some none)
    (no_Diagram_outputs : PySem.W.findIn K (.ref C_Diagram) "outputs" = some none)
    (no_Diagram_parts : PySem.W.findIn K (.ref C_Diagram) "parts" = some none)
    (no_Diagram_wires : PySem.W.findIn K (.ref C_Diagram) "wires" = some none)
    (no_Diagram_text : PySem.W.findIn K (.ref C_Diagram) "text" = some none)
    (rd_Diagram : PySem.W.readsIn K C_Diagram (.type "type") = true)
    (rg_Diagram : PySem.W.specialIn K (.ref C_Diagram) "__getattribute__" = some (some (.builtin "type.__getattribute__")))
    (cv_Diagram_MAX_PARTS : PySem.W.findCls K (.ref C_Diagram) (.type "type") "MAX_PARTS" = some (.val (.int 16 tv_Diagram_MAX_PARTS)))
    (ci_Diagram_MAX_PARTS : PySem.W.findIn K (.ref C_Diagram) "MAX_PARTS" = some (some (.int 16 tv_Diagram_MAX_PARTS)))
    (cg_Diagram_MAX_PARTS : PySem.W.specialIn K (.int 16 tv_Diagram_MAX_PARTS) "__get__" = some none)
    (cv_Diagram_MAX_PORTS : PySem.W.findCls K (.ref C_Diagram) (.type "type") "MAX_PORTS" = some (.val (.int 8 tv_Diagram_MAX_PORTS)))
    (ci_Diagram_MAX_PORTS : PySem.W.findIn K (.ref C_Diagram) "MAX_PORTS" = some (some (.int 8 tv_Diagram_MAX_PORTS)))
    (cg_Diagram_MAX_PORTS : PySem.W.specialIn K (.int 8 tv_Diagram_MAX_PORTS) "__get__" = some none)
    (ic_Diagram : PySem.W.findIn K (.ref C_Diagram) "__class__" = some (some (.builtin "object.__class__")))
    (io_Diagram : PySem.W.mroIn K C_Diagram (.type "object") = some true)
    (ocg : PySem.W.specialIn K (.builtin "object.__class__") "__get__" = some (some (.builtin "getset_descriptor.__get__")))
    (oct : PySem.W.takesIn K (.builtin "object.__class__") = some true)
    (kc1_Diagram_Block : PySem.W.clsIn K C_Block = some cdk_Block)
    (kc2_Diagram_Block : PySem.W.typeIn K (.ref C_Block) = some (.type "type"))
    (kc3_Diagram_Block : PySem.W.subIn K (.ref C_Diagram) (.ref C_Block) = some true)
    (a_Block_init : PySem.W.ks_superIn K C_Diagram C_Diagram "__init__" = some (some (.ref f_Block_init)))
    (l_Block_init : K.lookup f_Block_init = some ⟨oc_Block_init, od_Block_init, .func (PySem.W.fnOf "__init__" "Block.__init__" (defArgs s_Block_init) (defBody s_Block_init) (defScope s_Block_init) .none kV_Block_init dc_Block_init pm_Block_init an_Block_init cd_Block_init ct_Block_init), sl_Block_init⟩)
    (c_Block_init : PySem.W.codeIn K cd_Block_init "Block.__init__" = true)
    (k_Block_init : PySem.W.keepIn K (.ref f_Block_init) = true)
    (t_Block_init : PySem.W.typeIn K (.ref f_Block_init) = some (.type "function"))
    (n_Block_init : PySem.W.fnIn K f_Block_init = true)
    (a_Diagram_init : PySem.W.findIn K (.ref C_Diagram) "__init__" = some (some (.ref f_Diagram_init)))
    (l_Diagram_init : K.lookup f_Diagram_init = some ⟨oc_Diagram_init, od_Diagram_init, .func (PySem.W.fnX "__init__" "Diagram.__init__" (defArgs s_Diagram_init) (defBody s_Diagram_init) (defScope s_Diagram_init) [("__class__", cc_Diagram)] .none kV_Diagram_init dc_Diagram_init pm_Diagram_init an_Diagram_init (.ref cda_Diagram) ct_Diagram_init), sl_Diagram_init⟩)
    (c_Diagram_init : PySem.W.codeIn K (.ref cda_Diagram) "Diagram.__init__" = true)
    (k_Diagram_init : PySem.W.keepIn K (.ref f_Diagram_init) = true)
    (i_Diagram_init : PySem.W.isFn K (.ref f_Diagram_init) = true)
    (cC_Diagram : PySem.W.clsIn K C_Diagram = some cdC_Diagram)
    (lc_Diagram : K.lookup cda_Diagram = some ⟨ccl_Diagram, cdd_Diagram, .fields cvs_Diagram, ccs_Diagram⟩)
    (hv_Diagram : cvs_Diagram[2]? = some (.str file_Diagram tf_Diagram))
    (hf_Diagram : ((l.prog.main.file : Str) == file_Diagram) = true)
    (lcc_Diagram : K.lookup cc_Diagram = some ⟨ccv_Diagram, cvd_Diagram, .cell (some (.ref C_Diagram)), csl_Diagram⟩)
    (sub_Diagram : PySem.W.mroIn K C_Diagram (.ref C_Diagram) = some true)
    (zS : PySem.W.nsIn K mainGlobals "super" = some none)
    (tp : PySem.W.nsIn K PySem.cStatics "thirdparty.any" = some none)
    (ht : (l.prog.main.scope.names.lookup ("super" : Str)).isSome = false)
    (a_Diagram_str : PySem.W.findIn K (.ref C_Diagram) "__str__" = some (some (.ref f_Diagram_str)))
    (l_Diagram_str : K.lookup f_Diagram_str = some ⟨oc_Diagram_str, od_Diagram_str, .func (PySem.W.fnOf "__str__" "Diagram.__str__" (defArgs s_Diagram_str) (defBody s_Diagram_str) (defScope s_Diagram_str) .none kV_Diagram_str dc_Diagram_str pm_Diagram_str an_Diagram_str cd_Diagram_str ct_Diagram_str), sl_Diagram_str⟩)
    (c_Diagram_str : PySem.W.codeIn K cd_Diagram_str "Diagram.__str__" = true)
    (k_Diagram_str : PySem.W.keepIn K (.ref f_Diagram_str) = true)
    (i_Diagram_str : PySem.W.isFn K (.ref f_Diagram_str) = true)
    (q_Diagram_parse : PySem.W.findCls K (.ref C_Diagram) (.type "type") "parse" = some (.get (.builtin "classmethod.__get__") (.ref p_Diagram_parse) .none (.ref C_Diagram)))
    (a_Diagram_parse : PySem.W.recIn K p_Diagram_parse "classmethod" = some (.ref f_Diagram_parse :: rest_Diagram_parse))
    (l_Diagram_parse : K.lookup f_Diagram_parse = some ⟨oc_Diagram_parse, od_Diagram_parse, .func (PySem.W.fnOf "parse" "Diagram.parse" (defArgs s_Diagram_parse) (defBody s_Diagram_parse) (defScope s_Diagram_parse) .none kV_Diagram_parse dc_Diagram_parse pm_Diagram_parse an_Diagram_parse cd_Diagram_parse ct_Diagram_parse), sl_Diagram_parse⟩)
    (c_Diagram_parse : PySem.W.codeIn K cd_Diagram_parse "Diagram.parse" = true)
    (k_Diagram_parse : PySem.W.keepIn K (.ref f_Diagram_parse) = true)
    (n_Diagram_parse : PySem.W.fnIn K f_Diagram_parse = true)
    (a_Reader : PySem.W.nsIn K mainGlobals "Reader" = some (some (.ref C_Reader)))
    (pg_Reader : PySem.W.plainGet K C_Reader Str.empty = true)
    (hd_Reader : PySem.W.hasDictIn K C_Reader = true)
    (po_Reader : PySem.W.plainOver K C_Reader = true)
    (sa_Reader : PySem.W.findIn K (.ref C_Reader) "__setattr__" = some (some (.builtin "object.__setattr__")))
    (mk_Reader : PySem.W.makesIn K C_Reader = true)
    (kc_Reader : PySem.W.keepIn K (.ref C_Reader) = true)
    (no_Reader_name : PySem.W.findIn K (.ref C_Reader) "name" = some none)
    (no_Reader_inputs : PySem.W.findIn K (.ref C_Reader) "inputs" = some none)
    (no_Reader_outputs : PySem.W.findIn K (.ref C_Reader) "outputs" = some none)
    (no_Reader_parts : PySem.W.findIn K (.ref C_Reader) "parts" = some none)
    (no_Reader_wires : PySem.W.findIn K (.ref C_Reader) "wires" = some none)
    (no_Reader_is_done : PySem.W.findIn K (.ref C_Reader) "is_done" = some none)
    (a_Reader_init : PySem.W.findIn K (.ref C_Reader) "__init__" = some (some (.ref f_Reader_init)))
    (l_Reader_init : K.lookup f_Reader_init = some ⟨oc_Reader_init, od_Reader_init, .func (PySem.W.fnOf "__init__" "Reader.__init__" (defArgs s_Reader_init) (defBody s_Reader_init) (defScope s_Reader_init) .none kV_Reader_init dc_Reader_init pm_Reader_init an_Reader_init cd_Reader_init ct_Reader_init), sl_Reader_init⟩)
    (c_Reader_init : PySem.W.codeIn K cd_Reader_init "Reader.__init__" = true)
    (k_Reader_init : PySem.W.keepIn K (.ref f_Reader_init) = true)
    (i_Reader_init : PySem.W.isFn K (.ref f_Reader_init) = true)
    (a_Reader_take : PySem.W.findIn K (.ref C_Reader) "take" = some (some (.ref f_Reader_take)))
    (l_Reader_take : K.lookup f_Reader_take = some ⟨oc_Reader_take, od_Reader_take, .func (PySem.W.fnOf "take" "Reader.take" (defArgs s_Reader_take) (defBody s_Reader_take) (defScope s_Reader_take) .none kV_Reader_take dc_Reader_take pm_Reader_take an_Reader_take cd_Reader_take ct_Reader_take), sl_Reader_take⟩)
    (c_Reader_take : PySem.W.codeIn K cd_Reader_take "Reader.take" = true)
    (k_Reader_take : PySem.W.keepIn K (.ref f_Reader_take) = true)
    (i_Reader_take : PySem.W.isFn K (.ref f_Reader_take) = true)
    (a_Reader_take_head : PySem.W.findIn K (.ref C_Reader) "take_head" = some (some (.ref f_Reader_take_head)))
    (l_Reader_take_head : K.lookup f_Reader_take_head = some ⟨oc_Reader_take_head, od_Reader_take_head, .func (PySem.W.fnOf "take_head" "Reader.take_head" (defArgs s_Reader_take_head) (defBody s_Reader_take_head) (defScope s_Reader_take_head) .none kV_Reader_take_head dc_Reader_take_head pm_Reader_take_head an_Reader_take_head cd_Reader_take_head ct_Reader_take_head), sl_Reader_take_head⟩)
    (c_Reader_take_head : PySem.W.codeIn K cd_Reader_take_head "Reader.take_head" = true)
    (k_Reader_take_head : PySem.W.keepIn K (.ref f_Reader_take_head) = true)
    (i_Reader_take_head : PySem.W.isFn K (.ref f_Reader_take_head) = true)
    (a_Reader_take_part : PySem.W.findIn K (.ref C_Reader) "take_part" = some (some (.ref f_Reader_take_part)))
    (l_Reader_take_part : K.lookup f_Reader_take_part = some ⟨oc_Reader_take_part, od_Reader_take_part, .func (PySem.W.fnOf "take_part" "Reader.take_part" (defArgs s_Reader_take_part) (defBody s_Reader_take_part) (defScope s_Reader_take_part) .none kV_Reader_take_part dc_Reader_take_part pm_Reader_take_part an_Reader_take_part cd_Reader_take_part ct_Reader_take_part), sl_Reader_take_part⟩)
    (c_Reader_take_part : PySem.W.codeIn K cd_Reader_take_part "Reader.take_part" = true)
    (k_Reader_take_part : PySem.W.keepIn K (.ref f_Reader_take_part) = true)
    (i_Reader_take_part : PySem.W.isFn K (.ref f_Reader_take_part) = true)
    (a_Reader_take_wire : PySem.W.findIn K (.ref C_Reader) "take_wire" = some (some (.ref f_Reader_take_wire)))
    (l_Reader_take_wire : K.lookup f_Reader_take_wire = some ⟨oc_Reader_take_wire, od_Reader_take_wire, .func (PySem.W.fnOf "take_wire" "Reader.take_wire" (defArgs s_Reader_take_wire) (defBody s_Reader_take_wire) (defScope s_Reader_take_wire) .none kV_Reader_take_wire dc_Reader_take_wire pm_Reader_take_wire an_Reader_take_wire cd_Reader_take_wire ct_Reader_take_wire), sl_Reader_take_wire⟩)
    (c_Reader_take_wire : PySem.W.codeIn K cd_Reader_take_wire "Reader.take_wire" = true)
    (k_Reader_take_wire : PySem.W.keepIn K (.ref f_Reader_take_wire) = true)
    (i_Reader_take_wire : PySem.W.isFn K (.ref f_Reader_take_wire) = true)
    (a_Reader_port_of : PySem.W.findIn K (.ref C_Reader) "port_of" = some (some (.ref f_Reader_port_of)))
    (l_Reader_port_of : K.lookup f_Reader_port_of = some ⟨oc_Reader_port_of, od_Reader_port_of, .func (PySem.W.fnOf "port_of" "Reader.port_of" (defArgs s_Reader_port_of) (defBody s_Reader_port_of) (defScope s_Reader_port_of) .none kV_Reader_port_of dc_Reader_port_of pm_Reader_port_of an_Reader_port_of cd_Reader_port_of ct_Reader_port_of), sl_Reader_port_of⟩)
    (c_Reader_port_of : PySem.W.codeIn K cd_Reader_port_of "Reader.port_of" = true)
    (k_Reader_port_of : PySem.W.keepIn K (.ref f_Reader_port_of) = true)
    (i_Reader_port_of : PySem.W.isFn K (.ref f_Reader_port_of) = true)
    (a_Reader_result : PySem.W.findIn K (.ref C_Reader) "result" = some (some (.ref f_Reader_result)))
    (l_Reader_result : K.lookup f_Reader_result = some ⟨oc_Reader_result, od_Reader_result, .func (PySem.W.fnOf "result" "Reader.result" (defArgs s_Reader_result) (defBody s_Reader_result) (defScope s_Reader_result) .none kV_Reader_result dc_Reader_result pm_Reader_result an_Reader_result cd_Reader_result ct_Reader_result), sl_Reader_result⟩)
    (c_Reader_result : PySem.W.codeIn K cd_Reader_result "Reader.result" = true)
    (k_Reader_result : PySem.W.keepIn K (.ref f_Reader_result) = true)
    (i_Reader_result : PySem.W.isFn K (.ref f_Reader_result) = true)
    (a_BlockError : PySem.W.nsIn K mainGlobals "BlockError" = some (some (.ref C_BlockError)))
    (eb_BlockError : PySem.W.subIn K (.ref C_BlockError) (.type "BaseException") = some true)
    (ed_BlockError : PySem.W.hasDictIn K C_BlockError = true)
    (et_BlockError : PySem.W.typeIn K (.ref C_BlockError) = some (.type "type"))
    (a_InvalidText : PySem.W.nsIn K mainGlobals "InvalidText" = some (some (.ref C_InvalidText)))
    (xL_InvalidText : K.lookup C_InvalidText = some (excClassObj nm_InvalidText q_InvalidText C_InvalidText N_InvalidText bs_InvalidText [.ref C_BlockError, .type "ValueError", .type "Exception", .type "BaseException", .type "object"] true sn_InvalidText sub_InvalidText ab_InvalidText col_InvalidText dd_InvalidText m0_InvalidText m1_InvalidText m2_InvalidText m3_InvalidText m5_InvalidText "ValueError.__new__"))
    (sa_InvalidText : PySem.W.findIn K (.ref C_InvalidText) "__setattr__" = some (some (.builtin "object.__setattr__")))
    (exC_InvalidText : PySem.W.subIn K (.ref C_InvalidText) (.type "BaseException") = some true)
    (tyC_InvalidText : PySem.W.typeIn K (.ref C_InvalidText) = some (.type "type"))
    (kC_InvalidText : PySem.W.keepIn K (.ref C_InvalidText) = true)
    (ga_InvalidText : PySem.W.findIn K (.ref C_InvalidText) "__getattribute__" = some (some (.builtin "BaseException.__getattribute__")))
    (gg_InvalidText : PySem.W.findIn K (.ref C_InvalidText) "__getattr__" = some none)
    (hd_InvalidText : PySem.W.hasDictIn K C_InvalidText = true)
    (ic_InvalidText : PySem.W.findIn K (.ref C_InvalidText) "__class__" = some (some (.builtin "object.__class__")))
    (io_InvalidText : PySem.W.mroIn K C_InvalidText (.type "object") = some true)
    (cd_InvalidText : PySem.W.clsIn K C_InvalidText = some cd_InvalidText)
    (sv_InvalidText : PySem.W.subIn K (.ref C_InvalidText) (.type "ValueError") = some true)
    (sb_InvalidText : PySem.W.subIn K (.ref C_InvalidText) (.ref C_BlockError) = some true)
    (a_InvalidText_init : PySem.W.findIn K (.ref C_InvalidText) "__init__" = some (some (.ref f_InvalidText_init)))
    (l_InvalidText_init : K.lookup f_InvalidText_init = some ⟨oc_InvalidText_init, od_InvalidText_init, .func (PySem.W.fnOf "__init__" "InvalidText.__init__" (defArgs s_InvalidText_init) (defBody s_InvalidText_init) (defScope s_InvalidText_init) .none kV_InvalidText_init dc_InvalidText_init pm_InvalidText_init an_InvalidText_init cd_InvalidText_init ct_InvalidText_init), sl_InvalidText_init⟩)
    (c_InvalidText_init : PySem.W.codeIn K cd_InvalidText_init "InvalidText.__init__" = true)
    (k_InvalidText_init : PySem.W.keepIn K (.ref f_InvalidText_init) = true)
    (t_InvalidText_init : PySem.W.typeIn K (.ref f_InvalidText_init) = some (.type "function"))
    (ss_InvalidText : PySem.W.subIn K (.ref C_InvalidText) (.ref C_InvalidText) = some true)
    (cb_InvalidText : PySem.W.clsIn K C_BlockError = some cdb_InvalidText)
    (no_InvalidText_row : PySem.W.findIn K (.ref C_InvalidText) "row" = some none) :
    ∃ fd : FuncData, (∀ (s : Shared) (v : Value), BindsTo s fd ⟨[v], []⟩ [("script", v)]) ∧ ∀ base : Heap, K.In base → base.Ns mainGlobals mg → FnG l.prog w K mg base CX0 9 fa fd ["script"] (spLaw K) := by
  have e := hfa.symm.trans (PySem.W.mg_of X G a_law)
  cases e
  let ad : Adr := { t_MODULUS := t_MODULUS, t_MAX_NAME := t_MAX_NAME, t_DIGITS := t_DIGITS, t_LETTERS := t_LETTERS, f_law_feed := f_law_feed, f_law_take := f_law_take, f_law_pick := f_law_pick, f_law_words := f_law_words, f_law_block := f_law_block, f_law_diagram := f_law_diagram, f_law_port := f_law_port, f_law_rows := f_law_rows, f_law_is_name := f_law_is_name, f_law_is_number := f_law_is_number, f_law_is_block := f_law_is_block, f_law_head := f_law_head, f_law_is_port := f_law_is_port, f_law_wrong := f_law_wrong, f_law_told := f_law_told, f_law_signs := f_law_signs, f_law_pieces := f_law_pieces, f_law := fa, f_is_primitive_text := f_is_primitive_text, f_number_of := f_number_of, f_is_name := f_is_name, f_is_block_text := f_is_block_text, f_port_text := f_port_text, f_text_of := f_text_of, f_is_port_name := f_is_port_name, d_PORTS := d_PORTS, es_PORTS := es_PORTS, en_PORTS := en_PORTS, u_RESERVED := u_RESERVED, C_Block := C_Block, C_Diagram := C_Diagram, tv_Diagram_MAX_PARTS := tv_Diagram_MAX_PARTS, tv_Diagram_MAX_PORTS := tv_Diagram_MAX_PORTS, f_Block_init := f_Block_init, f_Diagram_init := f_Diagram_init, f_Diagram_str := f_Diagram_str, p_Diagram_parse := p_Diagram_parse, f_Diagram_parse := f_Diagram_parse, C_Reader := C_Reader, f_Reader_init := f_Reader_init, f_Reader_take := f_Reader_take, f_Reader_take_head := f_Reader_take_head, f_Reader_take_part := f_Reader_take_part, f_Reader_take_wire := f_Reader_take_wire, f_Reader_port_of := f_Reader_port_of, f_Reader_result := f_Reader_result, C_InvalidText := C_InvalidText, C_BlockError := C_BlockError, f_InvalidText_init := f_InvalidText_init }
  have hports : ∀ n ins outs, (n, ins, outs) ∈ portsTab → PortsOf K w d_PORTS n ins outs := by
    intro n ins outs hp
    simp only [portsTab, List.mem_cons, List.not_mem_nil, or_false, Prod.mk.injEq] at hp
    rcases hp with ⟨rfl, rfl, rfl⟩ | ⟨rfl, rfl, rfl⟩ | ⟨rfl, rfl, rfl⟩ | ⟨rfl, rfl, rfl⟩ | ⟨rfl, rfl, rfl⟩ | ⟨rfl, rfl, rfl⟩ | ⟨rfl, rfl, rfl⟩ | ⟨rfl, rfl, rfl⟩ | ⟨rfl, rfl, rfl⟩
    · exact ⟨pt0, pi0, po0, ⟨es_PORTS, en_PORTS, _, l_PORTS, h_PORTS, ph0, rfl⟩, sqt_K pl0 (szl (show 2 ≤ 100000 by decide)) (.cons rfl (.cons rfl .nil)), sqt_K pu0 (szl (show 0 ≤ 100000 by decide)) .nil, sqt_K pv0 (szl (show 1 ≤ 100000 by decide)) (.cons ⟨_, rfl⟩ .nil)⟩
    · exact ⟨pt1, pi1, po1, ⟨es_PORTS, en_PORTS, _, l_PORTS, h_PORTS, ph1, rfl⟩, sqt_K pl1 (szl (show 2 ≤ 100000 by decide)) (.cons rfl (.cons rfl .nil)), sqt_K pu1 (szl (show 2 ≤ 100000 by decide)) (.cons ⟨_, rfl⟩ (.cons ⟨_, rfl⟩ .nil)), sqt_K pv1 (szl (show 1 ≤ 100000 by decide)) (.cons ⟨_, rfl⟩ .nil)⟩
    · exact ⟨pt2, pi2, po2, ⟨es_PORTS, en_PORTS, _, l_PORTS, h_PORTS, ph2, rfl⟩, sqt_K pl2 (szl (show 2 ≤ 100000 by decide)) (.cons rfl (.cons rfl .nil)), sqt_K pu2 (szl (show 2 ≤ 100000 by decide)) (.cons ⟨_, rfl⟩ (.cons ⟨_, rfl⟩ .nil)), sqt_K pv2 (szl (show 1 ≤ 100000 by decide)) (.cons ⟨_, rfl⟩ .nil)⟩
    · exact ⟨pt3, pi3, po3, ⟨es_PORTS, en_PORTS, _, l_PORTS, h_PORTS, ph3, rfl⟩, sqt_K pl3 (szl (show 2 ≤ 100000 by decide)) (.cons rfl (.cons rfl .nil)), sqt_K pu3 (szl (show 2 ≤ 100000 by decide)) (.cons ⟨_, rfl⟩ (.cons ⟨_, rfl⟩ .nil)), sqt_K pv3 (szl (show 1 ≤ 100000 by decide)) (.cons ⟨_, rfl⟩ .nil)⟩
    · exact ⟨pt4, pi4, po4, ⟨es_PORTS, en_PORTS, _, l_PORTS, h_PORTS, ph4, rfl⟩, sqt_K pl4 (szl (show 2 ≤ 100000 by decide)) (.cons rfl (.cons rfl .nil)), sqt_K pu4 (szl (show 2 ≤ 100000 by decide)) (.cons ⟨_, rfl⟩ (.cons ⟨_, rfl⟩ .nil)), sqt_K pv4 (szl (show 1 ≤ 100000 by decide)) (.cons ⟨_, rfl⟩ .nil)⟩
    · exact ⟨pt5, pi5, po5, ⟨es_PORTS, en_PORTS, _, l_PORTS, h_PORTS, ph5, rfl⟩, sqt_K pl5 (szl (show 2 ≤ 100000 by decide)) (.cons rfl (.cons rfl .nil)), sqt_K pu5 (szl (show 2 ≤ 100000 by decide)) (.cons ⟨_, rfl⟩ (.cons ⟨_, rfl⟩ .nil)), sqt_K pv5 (szl (show 1 ≤ 100000 by decide)) (.cons ⟨_, rfl⟩ .nil)⟩
    · exact ⟨pt6, pi6, po6, ⟨es_PORTS, en_PORTS, _, l_PORTS, h_PORTS, ph6, rfl⟩, sqt_K pl6 (szl (show 2 ≤ 100000 by decide)) (.cons rfl (.cons rfl .nil)), sqt_K pu6 (szl (show 3 ≤ 100000 by decide)) (.cons ⟨_, rfl⟩ (.cons ⟨_, rfl⟩ (.cons ⟨_, rfl⟩ .nil))), sqt_K pv6 (szl (show 1 ≤ 100000 by decide)) (.cons ⟨_, rfl⟩ .nil)⟩
    · exact ⟨pt7, pi7, po7, ⟨es_PORTS, en_PORTS, _, l_PORTS, h_PORTS, ph7, rfl⟩, sqt_K pl7 (szl (show 2 ≤ 100000 by decide)) (.cons rfl (.cons rfl .nil)), sqt_K pu7 (szl (show 2 ≤ 100000 by decide)) (.cons ⟨_, rfl⟩ (.cons ⟨_, rfl⟩ .nil)), sqt_K pv7 (szl (show 2 ≤ 100000 by decide)) (.cons ⟨_, rfl⟩ (.cons ⟨_, rfl⟩ .nil))⟩
    · exact ⟨pt8, pi8, po8, ⟨es_PORTS, en_PORTS, _, l_PORTS, h_PORTS, ph8, rfl⟩, sqt_K pl8 (szl (show 2 ≤ 100000 by decide)) (.cons rfl (.cons rfl .nil)), sqt_K pu8 (szl (show 1 ≤ 100000 by decide)) (.cons ⟨_, rfl⟩ .nil), sqt_K pv8 (szl (show 1 ≤ 100000 by decide)) (.cons ⟨_, rfl⟩ .nil)⟩
  have F_law_feed := fun_mk (st := s_law_feed) l_law_feed c_law_feed k_law_feed
  have b_law_feed := F_law_feed.binds (ps := ["script", "k"]) fun _ _ _ _ _ _ us hl => match us, hl with | [_, _], _ => rfl
  have F_law_take := fun_mk (st := s_law_take) l_law_take c_law_take k_law_take
  have b_law_take := F_law_take.binds (ps := ["feed", "many"]) fun _ _ _ _ _ _ us hl => match us, hl with | [_, _], _ => rfl
  have F_law_pick := fun_mk (st := s_law_pick) l_law_pick c_law_pick k_law_pick
  have b_law_pick := F_law_pick.binds (ps := ["feed", "some"]) fun _ _ _ _ _ _ us hl => match us, hl with | [_, _], _ => rfl
  have F_law_words := fun_mk (st := s_law_words) l_law_words c_law_words k_law_words
  have b_law_words := F_law_words.binds (ps := ["feed", "size"]) fun _ _ _ _ _ _ us hl => match us, hl with | [_, _], _ => rfl
  have F_law_block := fun_mk (st := s_law_block) l_law_block c_law_block k_law_block
  have b_law_block := F_law_block.binds (ps := ["feed", "words"]) fun _ _ _ _ _ _ us hl => match us, hl with | [_, _], _ => rfl
  have F_law_diagram := fun_mk (st := s_law_diagram) l_law_diagram c_law_diagram k_law_diagram
  have b_law_diagram := F_law_diagram.binds (ps := ["feed", "words"]) fun _ _ _ _ _ _ us hl => match us, hl with | [_, _], _ => rfl
  have F_law_port := fun_mk (st := s_law_port) l_law_port c_law_port k_law_port
  have b_law_port := F_law_port.binds (ps := ["port"]) fun _ _ _ _ _ _ us hl => match us, hl with | [_], _ => rfl
  have F_law_rows := fun_mk (st := s_law_rows) l_law_rows c_law_rows k_law_rows
  have b_law_rows := F_law_rows.binds (ps := ["diagram"]) fun _ _ _ _ _ _ us hl => match us, hl with | [_], _ => rfl
  have F_law_is_name := fun_mk (st := s_law_is_name) l_law_is_name c_law_is_name k_law_is_name
  have b_law_is_name := F_law_is_name.binds (ps := ["word"]) fun _ _ _ _ _ _ us hl => match us, hl with | [_], _ => rfl
  have F_law_is_number := fun_mk (st := s_law_is_number) l_law_is_number c_law_is_number k_law_is_number
  have b_law_is_number := F_law_is_number.binds (ps := ["word"]) fun _ _ _ _ _ _ us hl => match us, hl with | [_], _ => rfl
  have F_law_is_block := fun_mk (st := s_law_is_block) l_law_is_block c_law_is_block k_law_is_block
  have b_law_is_block := F_law_is_block.binds (ps := ["text"]) fun _ _ _ _ _ _ us hl => match us, hl with | [_], _ => rfl
  have F_law_head := fun_mk (st := s_law_head) l_law_head c_law_head k_law_head
  have b_law_head := F_law_head.binds (ps := ["row"]) fun _ _ _ _ _ _ us hl => match us, hl with | [_], _ => rfl
  have F_law_is_port := fun_mk (st := s_law_is_port) l_law_is_port c_law_is_port k_law_is_port
  have b_law_is_port := F_law_is_port.binds (ps := ["text", "own", "parts"]) fun _ _ _ _ _ _ us hl => match us, hl with | [_, _, _], _ => rfl
  have F_law_wrong := fun_mk (st := s_law_wrong) l_law_wrong c_law_wrong k_law_wrong
  have b_law_wrong := F_law_wrong.binds (ps := ["text"]) fun _ _ _ _ _ _ us hl => match us, hl with | [_], _ => rfl
  have F_law_told := fun_mk (st := s_law_told) l_law_told c_law_told k_law_told
  have b_law_told := F_law_told.binds (ps := ["text"]) fun _ _ _ _ _ _ us hl => match us, hl with | [_], _ => rfl
  have F_law_signs := fun_mk (st := s_law_signs) l_law_signs c_law_signs k_law_signs
  have b_law_signs := F_law_signs.binds (ps := ["feed", "text"]) fun _ _ _ _ _ _ us hl => match us, hl with | [_, _], _ => rfl
  have F_law_pieces := fun_mk (st := s_law_pieces) l_law_pieces c_law_pieces k_law_pieces
  have b_law_pieces := F_law_pieces.binds (ps := ["feed", "text", "sep"]) fun _ _ _ _ _ _ us hl => match us, hl with | [_, _, _], _ => rfl
  have F_law := fun_mk (st := s_law) l_law c_law k_law
  have b_law := F_law.binds (ps := ["script"]) fun _ _ _ _ _ _ us hl => match us, hl with | [_], _ => rfl
  have F_is_primitive_text := fun_mk (st := s_is_primitive_text) l_is_primitive_text c_is_primitive_text k_is_primitive_text
  have b_is_primitive_text := F_is_primitive_text.binds (ps := ["text"]) fun _ _ _ _ _ _ us hl => match us, hl with | [_], _ => rfl
  have F_number_of := fun_mk (st := s_number_of) l_number_of c_number_of k_number_of
  have b_number_of := F_number_of.binds (ps := ["word"]) fun _ _ _ _ _ _ us hl => match us, hl with | [_], _ => rfl
  have F_is_name := fun_mk (st := s_is_name) l_is_name c_is_name k_is_name
  have b_is_name := F_is_name.binds (ps := ["word"]) fun _ _ _ _ _ _ us hl => match us, hl with | [_], _ => rfl
  have F_is_block_text := fun_mk (st := s_is_block_text) l_is_block_text c_is_block_text k_is_block_text
  have b_is_block_text := F_is_block_text.binds (ps := ["text"]) fun _ _ _ _ _ _ us hl => match us, hl with | [_], _ => rfl
  have F_port_text := fun_mk (st := s_port_text) l_port_text c_port_text k_port_text
  have b_port_text := F_port_text.binds (ps := ["port"]) fun _ _ _ _ _ _ us hl => match us, hl with | [_], _ => rfl
  have F_text_of := fun_mk (st := s_text_of) l_text_of c_text_of k_text_of
  have b_text_of := F_text_of.binds (ps := ["name", "inputs", "outputs", "parts", "wires"]) fun _ _ _ _ _ _ us hl => match us, hl with | [_, _, _, _, _], _ => rfl
  have F_is_port_name := fun_mk (st := s_is_port_name) l_is_port_name c_is_port_name k_is_port_name
  have b_is_port_name := F_is_port_name.binds (ps := ["word"]) fun _ _ _ _ _ _ us hl => match us, hl with | [_], _ => rfl
  have cl_Diagram : Cls K C_Diagram := ⟨pg_Diagram, hd_Diagram, po_Diagram, sa_Diagram⟩
  have F_Block_init := fun_mk (st := s_Block_init) l_Block_init c_Block_init k_Block_init
  have b_Block_init := F_Block_init.binds (ps := ["self", "name", "inputs", "outputs"]) fun _ _ _ _ _ _ us hl => match us, hl with | [_, _, _, _], _ => rfl
  have F_Diagram_init : SupX.FunS l.prog K mg "__init__" "Diagram.__init__" s_Diagram_init C_Diagram f_Diagram_init cc_Diagram cda_Diagram f_Block_init "self" _ := ⟨⟨_, _, _, _, _, _, _, _, rfl, l_Diagram_init, c_Diagram_init⟩, k_Diagram_init, ⟨cl_Diagram, ⟨_, cC_Diagram⟩, ⟨_, _, _, _, _, l_Diagram_init, rfl, rfl⟩, ⟨_, _, _, _, _, _, lc_Diagram, hv_Diagram, hf_Diagram⟩, ⟨_, _, _, lcc_Diagram⟩, sub_Diagram, PySem.W.mg_none_of X G zS, tp, a_Block_init, t_Block_init, n_Block_init, ht⟩, rfl⟩
  have b_Diagram_init := F_Diagram_init.binds (ps := ["self", "name", "inputs", "outputs", "parts", "wires"]) fun _ _ _ _ _ us hl => match us, hl with | [_, _, _, _, _, _], _ => rfl
  have F_Diagram_str := fun_mk (st := s_Diagram_str) l_Diagram_str c_Diagram_str k_Diagram_str
  have b_Diagram_str := F_Diagram_str.binds (ps := ["self"]) fun _ _ _ _ _ _ us hl => match us, hl with | [_], _ => rfl
  have F_Diagram_parse := fun_mk (st := s_Diagram_parse) l_Diagram_parse c_Diagram_parse k_Diagram_parse
  have b_Diagram_parse := F_Diagram_parse.binds (ps := ["cls", "text"]) fun _ _ _ _ _ _ us hl => match us, hl with | [_, _], _ => rfl
  have cl_Reader : Cls K C_Reader := ⟨pg_Reader, hd_Reader, po_Reader, sa_Reader⟩
  have F_Reader_init := fun_mk (st := s_Reader_init) l_Reader_init c_Reader_init k_Reader_init
  have b_Reader_init := F_Reader_init.binds (ps := ["self"]) fun _ _ _ _ _ _ us hl => match us, hl with | [_], _ => rfl
  have F_Reader_take := fun_mk (st := s_Reader_take) l_Reader_take c_Reader_take k_Reader_take
  have b_Reader_take := F_Reader_take.binds (ps := ["self", "row"]) fun _ _ _ _ _ _ us hl => match us, hl with | [_, _], _ => rfl
  have F_Reader_take_head := fun_mk (st := s_Reader_take_head) l_Reader_take_head c_Reader_take_head k_Reader_take_head
  have b_Reader_take_head := F_Reader_take_head.binds (ps := ["self", "row"]) fun _ _ _ _ _ _ us hl => match us, hl with | [_, _], _ => rfl
  have F_Reader_take_part := fun_mk (st := s_Reader_take_part) l_Reader_take_part c_Reader_take_part k_Reader_take_part
  have b_Reader_take_part := F_Reader_take_part.binds (ps := ["self", "halves"]) fun _ _ _ _ _ _ us hl => match us, hl with | [_, _], _ => rfl
  have F_Reader_take_wire := fun_mk (st := s_Reader_take_wire) l_Reader_take_wire c_Reader_take_wire k_Reader_take_wire
  have b_Reader_take_wire := F_Reader_take_wire.binds (ps := ["self", "halves"]) fun _ _ _ _ _ _ us hl => match us, hl with | [_, _], _ => rfl
  have F_Reader_port_of := fun_mk (st := s_Reader_port_of) l_Reader_port_of c_Reader_port_of k_Reader_port_of
  have b_Reader_port_of := F_Reader_port_of.binds (ps := ["self", "text", "own"]) fun _ _ _ _ _ _ us hl => match us, hl with | [_, _, _], _ => rfl
  have F_Reader_result := fun_mk (st := s_Reader_result) l_Reader_result c_Reader_result k_Reader_result
  have b_Reader_result := F_Reader_result.binds (ps := ["self"]) fun _ _ _ _ _ _ us hl => match us, hl with | [_], _ => rfl
  have F_InvalidText_init := fun_mk (st := s_InvalidText_init) l_InvalidText_init c_InvalidText_init k_InvalidText_init
  have b_InvalidText_init := F_InvalidText_init.binds (ps := ["self", "row"]) fun _ _ _ _ _ _ us hl => match us, hl with | [_, _], _ => rfl
  have oex_InvalidText : OexC K C_InvalidText := ⟨⟨_, _, _, _, _, _, _, _, _, _, _, _, _, _, _, xL_InvalidText, (show PySem.HandSPX.refsVE PySem.HandSPX.veTail = true by decide +kernel)⟩, sa_InvalidText, exC_InvalidText, tyC_InvalidText, kC_InvalidText⟩
  have T : Txt K w mg ad := { n_sorted := PySem.W.mg_none_of X G z_sorted, n_enumerate := PySem.W.mg_none_of X G z_enumerate, n_list := PySem.W.mg_none_of X G z_list, n_len := PySem.W.mg_none_of X G z_len, n_abs := PySem.W.mg_none_of X G z_abs, n_max := PySem.W.mg_none_of X G z_max, n_min := PySem.W.mg_none_of X G z_min, n_range := PySem.W.mg_none_of X G z_range, n_isinstance := PySem.W.mg_none_of X G z_isinstance, n_int := PySem.W.mg_none_of X G z_int, n_str := PySem.W.mg_none_of X G z_str, n_tuple := PySem.W.mg_none_of X G z_tuple, n_all := PySem.W.mg_none_of X G z_all, n_set := PySem.W.mg_none_of X G z_set, n_dict := PySem.W.mg_none_of X G z_dict, n_repr := PySem.W.mg_none_of X G z_repr, n_ValueError := PySem.W.mg_none_of X G z_ValueError, g_MODULUS := PySem.W.mg_of X G a_MODULUS, g_MAX_NAME := PySem.W.mg_of X G a_MAX_NAME, g_DIGITS := PySem.W.mg_of X G a_DIGITS, g_LETTERS := PySem.W.mg_of X G a_LETTERS, g__law_feed := PySem.W.mg_of X G a_law_feed, k__law_feed := k_law_feed, g__law_take := PySem.W.mg_of X G a_law_take, k__law_take := k_law_take, g__law_pick := PySem.W.mg_of X G a_law_pick, k__law_pick := k_law_pick, g__law_words := PySem.W.mg_of X G a_law_words, k__law_words := k_law_words, g__law_block := PySem.W.mg_of X G a_law_block, k__law_block := k_law_block, g__law_diagram := PySem.W.mg_of X G a_law_diagram, k__law_diagram := k_law_diagram, g__law_port := PySem.W.mg_of X G a_law_port, k__law_port := k_law_port, g__law_rows := PySem.W.mg_of X G a_law_rows, k__law_rows := k_law_rows, g__law_is_name := PySem.W.mg_of X G a_law_is_name, k__law_is_name := k_law_is_name, g__law_is_number := PySem.W.mg_of X G a_law_is_number, k__law_is_number := k_law_is_number, g__law_is_block := PySem.W.mg_of X G a_law_is_block, k__law_is_block := k_law_is_block, g__law_head := PySem.W.mg_of X G a_law_head, k__law_head := k_law_head, g__law_is_port := PySem.W.mg_of X G a_law_is_port, k__law_is_port := k_law_is_port, g__law_wrong := PySem.W.mg_of X G a_law_wrong, k__law_wrong := k_law_wrong, g__law_told := PySem.W.mg_of X G a_law_told, k__law_told := k_law_told, g__law_signs := PySem.W.mg_of X G a_law_signs, k__law_signs := k_law_signs, g__law_pieces := PySem.W.mg_of X G a_law_pieces, k__law_pieces := k_law_pieces, g_law := PySem.W.mg_of X G a_law, k_law := k_law, g_is_primitive_text := PySem.W.mg_of X G a_is_primitive_text, k_is_primitive_text := k_is_primitive_text, g_number_of := PySem.W.mg_of X G a_number_of, k_number_of := k_number_of, g_is_name := PySem.W.mg_of X G a_is_name, k_is_name := k_is_name, g_is_block_text := PySem.W.mg_of X G a_is_block_text, k_is_block_text := k_is_block_text, g_port_text := PySem.W.mg_of X G a_port_text, k_port_text := k_port_text, g_text_of := PySem.W.mg_of X G a_text_of, k_text_of := k_text_of, g_is_port_name := PySem.W.mg_of X G a_is_port_name, k_is_port_name := k_is_port_name, g_PORTS := PySem.W.mg_of X G a_PORTS, d_PORTS := ⟨l_PORTS, h_PORTS, w_PORTS⟩, ports := hports, keys := ⟨[kt0, kt1, kt2, kt3, kt4, kt5, kt6, kt7, kt8], rfl, ks_PORTS⟩, g_RESERVED := PySem.W.mg_of X G a_RESERVED, u_RESERVED := sqt_K l_RESERVED (szl (show 4 ≤ 100000 by decide)) (.cons ⟨_, rfl⟩ (.cons ⟨_, rfl⟩ (.cons ⟨_, rfl⟩ (.cons ⟨_, rfl⟩ .nil)))), g_Block := PySem.W.mg_of X G a_Block, g_Diagram := PySem.W.mg_of X G a_Diagram, cl_Diagram := cl_Diagram, na_Diagram_name := no_Diagram_name, na_Diagram_inputs := no_Diagram_inputs, na_Diagram_outputs := no_Diagram_outputs, na_Diagram_parts := no_Diagram_parts, na_Diagram_wires := no_Diagram_wires, na_Diagram_text := no_Diagram_text, cr_Diagram := ⟨rd_Diagram, rg_Diagram⟩, cv_Diagram_MAX_PARTS := ⟨cv_Diagram_MAX_PARTS, ⟨_, rfl⟩⟩, co_Diagram_MAX_PARTS := ⟨ci_Diagram_MAX_PARTS, ⟨_, rfl⟩, cg_Diagram_MAX_PARTS, by decide +kernel⟩, cv_Diagram_MAX_PORTS := ⟨cv_Diagram_MAX_PORTS, ⟨_, rfl⟩⟩, co_Diagram_MAX_PORTS := ⟨ci_Diagram_MAX_PORTS, ⟨_, rfl⟩, cg_Diagram_MAX_PORTS, by decide +kernel⟩, ty_Diagram := fun H a dx fs e => .base (.ins e cl_Diagram ic_Diagram ocg oct io_Diagram), ki_Diagram_Block := kit_sub kc1_Diagram_Block kc2_Diagram_Block kc3_Diagram_Block, ki_Diagram_Diagram := kit_self, mk_Diagram := ⟨mk_Diagram, a_Diagram_init, i_Diagram_init, kc_Diagram⟩, m_Diagram_str := ⟨a_Diagram_str, i_Diagram_str, k_Diagram_str⟩, cm_Diagram_parse := ⟨q_Diagram_parse, ⟨_, a_Diagram_parse⟩, n_Diagram_parse⟩, g_Reader := PySem.W.mg_of X G a_Reader, cl_Reader := cl_Reader, na_Reader_name := no_Reader_name, na_Reader_inputs := no_Reader_inputs, na_Reader_outputs := no_Reader_outputs, na_Reader_parts := no_Reader_parts, na_Reader_wires := no_Reader_wires, na_Reader_is_done := no_Reader_is_done, mk_Reader := ⟨mk_Reader, a_Reader_init, i_Reader_init, kc_Reader⟩, m_Reader_take := ⟨a_Reader_take, i_Reader_take, k_Reader_take⟩, m_Reader_take_head := ⟨a_Reader_take_head, i_Reader_take_head, k_Reader_take_head⟩, m_Reader_take_part := ⟨a_Reader_take_part, i_Reader_take_part, k_Reader_take_part⟩, m_Reader_take_wire := ⟨a_Reader_take_wire, i_Reader_take_wire, k_Reader_take_wire⟩, m_Reader_port_of := ⟨a_Reader_port_of, i_Reader_port_of, k_Reader_port_of⟩, m_Reader_result := ⟨a_Reader_result, i_Reader_result, k_Reader_result⟩, g_BlockError := PySem.W.mg_of X G a_BlockError, g_InvalidText := PySem.W.mg_of X G a_InvalidText, es_InvalidText := PySem.W.exm_ref exC_InvalidText hd_InvalidText tyC_InvalidText ss_InvalidText, oex_InvalidText := oex_InvalidText, in_InvalidText := a_InvalidText_init, tf_InvalidText := t_InvalidText_init, xf_InvalidText := ⟨ga_InvalidText, gg_InvalidText, exC_InvalidText, hd_InvalidText⟩, ek_InvalidText := ⟨by rw [cd_InvalidText]; rfl, ga_InvalidText, gg_InvalidText, exC_InvalidText, ic_InvalidText, ocg, oct, io_InvalidText⟩, kv_InvalidText := kit_ve sv_InvalidText, kb_InvalidText := kit_sub cb_InvalidText et_BlockError sb_InvalidText, em_InvalidText := PySem.W.exm_ref eb_BlockError ed_BlockError et_BlockError sb_InvalidText, no_InvalidText_row := no_InvalidText_row }
  refine ⟨PySem.W.fnOf "law" "law" (defArgs s_law) (defBody s_law) (defScope s_law) .none kV_law dc_law pm_law an_law cd_law ct_law, fun s v => .of_eq rfl, fun base _ _ => ?_⟩
  have G_law_take : FnOk l.prog w K mg base CX0 1 f_law_take _ ["feed", "many"] spTake := ok_take F_law_take
  have G_law_feed : FnOk l.prog w K mg base CX0 1 f_law_feed _ ["script", "k"] (spFeed K) := ok_feed (ad := ad) F_law_feed T
  have G_law_pick : FnOk l.prog w K mg base CX0 2 f_law_pick _ ["feed", "some"] (spPick2 K) := ok_pick2 (ad := ad) F_law_pick T G_law_take b_law_take
  have G_number_of : FnOk l.prog w K mg base CX0 2 f_number_of _ ["word"] spNum := ok_num (ad := ad) F_number_of T
  have G_is_primitive_text : FnOk l.prog w K mg base CX0 3 f_is_primitive_text _ ["text"] spIpt := ok_ipt (ad := ad) F_is_primitive_text T G_number_of b_number_of
  have G_is_name : FnOk l.prog w K mg base CX0 1 f_is_name _ ["word"] spName := ok_name (ad := ad) F_is_name T
  have G_is_block_text : FnOk l.prog w K mg base CX0 4 f_is_block_text _ ["text"] spBlockText := ok_blockText (ad := ad) F_is_block_text T G_is_primitive_text b_is_primitive_text G_is_name b_is_name
  have G_port_text : FnOk l.prog w K mg base CX0 1 f_port_text _ ["port"] (spPortText K) := ok_portText (ad := ad) F_port_text T
  have G_text_of : FnOk l.prog w K mg base CX0 2 f_text_of _ ["name", "inputs", "outputs", "parts", "wires"] (spTextOf K) := ok_textOf (ad := ad) F_text_of T G_port_text b_port_text
  have G_is_port_name : FnOk l.prog w K mg base CX0 2 f_is_port_name _ ["word"] spName := ok_portName (ad := ad) F_is_port_name T G_is_name b_is_name
  have G_Reader_init : FnOk l.prog w K mg base CX0 1 f_Reader_init _ ["self"] (spRI K C_Reader) := ok_RI (ad := ad) F_Reader_init T
  have G_Reader_port_of : FnOk l.prog w K mg base CX0 3 f_Reader_port_of _ ["self", "text", "own"] (spPortOf K C_Reader) := ok_portOf (ad := ad) F_Reader_port_of T G_is_port_name b_is_port_name
  have G_Reader_take_part : FnOk l.prog w K mg base CX0 5 f_Reader_take_part _ ["self", "halves"] (spTakePart K C_Reader) := ok_takePart (ad := ad) F_Reader_take_part T G_is_name b_is_name G_is_block_text b_is_block_text
  have G_Reader_take_wire : FnOk l.prog w K mg base CX0 4 f_Reader_take_wire _ ["self", "halves"] (spTakeWire K C_Reader) := ok_takeWire (ad := ad) F_Reader_take_wire T G_Reader_port_of b_Reader_port_of
  have G_Reader_take_head : FnOk l.prog w K mg base CX0 2 f_Reader_take_head _ ["self", "row"] (spTakeHead K C_Reader) := ok_takeHead (ad := ad) F_Reader_take_head T G_is_name b_is_name
  have G_Reader_take : FnOk l.prog w K mg base CX0 6 f_Reader_take _ ["self", "row"] (spTakeRow K C_Reader) := ok_takeRow (ad := ad) F_Reader_take T G_Reader_take_head b_Reader_take_head G_Reader_take_part b_Reader_take_part G_Reader_take_wire b_Reader_take_wire
  have G_Block_init : FnOk l.prog w K mg base CX0 1 f_Block_init _ ["self", "name", "inputs", "outputs"] (spBI K C_Diagram) := ok_BID (ad := ad) F_Block_init T
  have G_Diagram_init : FnOk l.prog w K mg base CX0 3 f_Diagram_init _ ["self", "name", "inputs", "outputs", "parts", "wires"] (spDI K C_Diagram) := ok_DI (ad := ad) F_Diagram_init T G_Block_init b_Block_init G_text_of b_text_of
  have G_Reader_result : FnOk l.prog w K mg base CX0 5 f_Reader_result _ ["self"] (spResult K C_Reader C_Diagram) := ok_result (ad := ad) F_Reader_result T G_Diagram_init b_Diagram_init
  have G_Diagram_str : FnOk l.prog w K mg base CX0 1 f_Diagram_str _ ["self"] (spDStr C_Diagram) := ok_dstr (ad := ad) F_Diagram_str T

  have G_InvalidText_init : FnOk l.prog w K mg base CX0 1 f_InvalidText_init _ ["self", "row"] (spXI C_InvalidText "row") := ok_ITI (ad := ad) F_InvalidText_init T
  have G_Diagram_parse := ok_dparseX (ad := ad) F_Diagram_parse T G_Reader_init b_Reader_init G_Reader_take b_Reader_take G_Reader_result b_Reader_result G_InvalidText_init b_InvalidText_init
  have R_Diagram_parse : FnR l.prog w K mg base (L2.CX l.prog w) 7 f_Diagram_parse (spDParse K C_Diagram C_InvalidText) := (G_Diagram_parse.raw b_Diagram_parse .nil).imp fun vs H Q E hs => by rw [List.append_nil]; exact hs

  have G_law_words : FnOk l.prog w K mg base CX0 2 f_law_words _ ["feed", "size"] spWords := ok_words (ad := ad) F_law_words T G_law_take b_law_take
  have G_law_block : FnOk l.prog w K mg base CX0 3 f_law_block _ ["feed", "words"] (spBlock K) := ok_block (ad := ad) F_law_block T G_law_take b_law_take G_law_pick b_law_pick
  have G_law_diagram : FnOk l.prog w K mg base CX0 4 f_law_diagram _ ["feed", "words"] (spDraw K) := ok_draw (ad := ad) F_law_diagram T G_law_take b_law_take G_law_pick b_law_pick G_law_block b_law_block
  have G_law_port : FnOk l.prog w K mg base CX0 1 f_law_port _ ["port"] (spPortText K) := ok_lport (ad := ad) F_law_port T
  have G_law_rows : FnOk l.prog w K mg base CX0 2 f_law_rows _ ["diagram"] (spLRows K) := ok_lrows (ad := ad) F_law_rows T G_law_port b_law_port
  have G_law_is_name : FnOk l.prog w K mg base CX0 1 f_law_is_name _ ["word"] spName7 := ok_name7 (ad := ad) F_law_is_name T
  have G_law_is_number : FnOk l.prog w K mg base CX0 1 f_law_is_number _ ["word"] spIsNum := ok_isnum (ad := ad) F_law_is_number T
  have G_law_is_block : FnOk l.prog w K mg base CX0 2 f_law_is_block _ ["text"] spIsBlock := ok_isblock (ad := ad) F_law_is_block T G_law_is_number b_law_is_number G_law_is_name b_law_is_name
  have G_law_is_port : FnOk l.prog w K mg base CX0 2 f_law_is_port _ ["text", "own", "parts"] (spPort7 K) := ok_port7 (ad := ad) F_law_is_port T G_law_is_name b_law_is_name
  have G_law_head : FnOk l.prog w K mg base CX0 2 f_law_head _ ["row"] spHead7 := ok_head7 (ad := ad) F_law_head T G_law_is_name b_law_is_name
  have G_law_wrong : FnOk l.prog w K mg base CX0 3 f_law_wrong _ ["text"] spWrong7 := ok_wrong7 (ad := ad) F_law_wrong T G_law_is_name b_law_is_name G_law_is_block b_law_is_block G_law_is_port b_law_is_port G_law_head b_law_head
  have G_law_told : FnOk l.prog w K mg base CX0 8 f_law_told _ ["text"] spTold7 := ok_told7 (ad := ad) F_law_told T R_Diagram_parse
  have G_law_signs : FnOk l.prog w K mg base CX0 3 f_law_signs _ ["feed", "text"] spChg7 := ok_signs7 (ad := ad) F_law_signs T G_law_take b_law_take G_law_pick b_law_pick
  have G_law_pieces : FnOk l.prog w K mg base CX0 3 f_law_pieces _ ["feed", "text", "sep"] spPieces7 := ok_pieces7 (ad := ad) F_law_pieces T G_law_take b_law_take G_law_pick b_law_pick
  exact ok_law (ad := ad) F_law T G_law_feed b_law_feed G_law_take b_law_take G_law_pick b_law_pick G_law_words b_law_words G_law_diagram b_law_diagram G_law_rows b_law_rows G_law_signs b_law_signs G_law_pieces b_law_pieces G_law_told b_law_told G_law_wrong b_law_wrong
theorem walk {l : PySem.W.OpenLaw} {q : Program} {loose : List Str} {XP : (Str → Option Value) → Heap → Prop} {YP : World → Heap → Prop} {d : DefRec} {K : Params → PySem.W.Frag} (hn : l.most = some 63) (hdf : d.params.defaults = [])
    (hY : ∀ (w : World) (h : Heap), YP w h → (K w.params).In h)
    (F : ∀ (w : World) (mg : Str → Option Value) (fa : Addr) (h : Heap), (K w.params).In h → h.Ns mainGlobals mg → mg d.name = some (.ref fa) →
      ∃ fd : FuncData, (∀ (s : Shared) (u : Value), BindsTo s fd ⟨[u], []⟩ [("script", u)]) ∧ ∀ base : Heap, (K w.params).In base → base.Ns mainGlobals mg → FnG l.prog w (K w.params) mg base CX0 9 fa fd ["script"] (spLaw (K w.params))) :
    PySem.W.WalkO q loose XP YP l.row.toRowW d [] (fun f vs => PySem.call f vs) :=
  walk_ofG (n := 63) (k := 9) (x := "script") (sp := fun w => spLaw (K w.params)) hn (by decide) hdf ⟨rfl, by decide, by decide⟩ hY F fun _ _ a ns hl hS => ⟨a, ns, rfl, hS, hl, fun _ => rfl⟩
end K07

set_option maxRecDepth 100000
open PySem PySem.W PyProof.Rows

open PySem PySem.W PyProof.Rows in
set_option maxRecDepth 100000 in
set_option maxHeartbeats 0 in
theorem PySem.Challenge.cw_stepblocks_k07_wrong_rows_holds : PySem.Challenge.rw_stepblocks_k07_wrong_rows.Holds := by
  w_on; o_law; k_head; (case hw => w_witness2)
  k_fill
  refine K07.walk (l := PySem.Challenge.rw_stepblocks_k07_wrong_rows) rfl rfl (fun w h Y => PySem.W.kIn_of Y) ?F
  case F =>
    intro w mg fa h KX G hmg
    refine' K07.all_mk KX G hmg ?z_sorted ?z_enumerate ?z_list ?z_len ?z_abs ?z_max ?z_min ?z_range ?z_isinstance ?z_int ?z_str ?z_tuple ?z_all ?z_set ?z_dict ?z_repr ?z_ValueError ?a_MODULUS ?a_MAX_NAME ?a_DIGITS ?a_LETTERS ?a_law_feed ?l_law_feed ?c_law_feed ?k_law_feed ?a_law_take ?l_law_take ?c_law_take ?k_law_take ?a_law_pick ?l_law_pick ?c_law_pick ?k_law_pick ?a_law_words ?l_law_words ?c_law_words ?k_law_words ?a_law_block ?l_law_block ?c_law_block ?k_law_block ?a_law_diagram ?l_law_diagram ?c_law_diagram ?k_law_diagram ?a_law_port ?l_law_port ?c_law_port ?k_law_port ?a_law_rows ?l_law_rows ?c_law_rows ?k_law_rows ?a_law_is_name ?l_law_is_name ?c_law_is_name ?k_law_is_name ?a_law_is_number ?l_law_is_number ?c_law_is_number ?k_law_is_number ?a_law_is_block ?l_law_is_block ?c_law_is_block ?k_law_is_block ?a_law_head ?l_law_head ?c_law_head ?k_law_head ?a_law_is_port ?l_law_is_port ?c_law_is_port ?k_law_is_port ?a_law_wrong ?l_law_wrong ?c_law_wrong ?k_law_wrong ?a_law_told ?l_law_told ?c_law_told ?k_law_told ?a_law_signs ?l_law_signs ?c_law_signs ?k_law_signs ?a_law_pieces ?l_law_pieces ?c_law_pieces ?k_law_pieces ?a_law ?l_law ?c_law ?k_law ?a_is_primitive_text ?l_is_primitive_text ?c_is_primitive_text ?k_is_primitive_text ?a_number_of ?l_number_of ?c_number_of ?k_number_of ?a_is_name ?l_is_name ?c_is_name ?k_is_name ?a_is_block_text ?l_is_block_text ?c_is_block_text ?k_is_block_text ?a_port_text ?l_port_text ?c_port_text ?k_port_text ?a_text_of ?l_text_of ?c_text_of ?k_text_of ?a_is_port_name ?l_is_port_name ?c_is_port_name ?k_is_port_name ?a_PORTS ?l_PORTS ?h_PORTS ?w_PORTS ?ph0 ?pl0 ?pu0 ?pv0 ?ph1 ?pl1 ?pu1 ?pv1 ?ph2 ?pl2 ?pu2 ?pv2 ?ph3 ?pl3 ?pu3 ?pv3 ?ph4 ?pl4 ?pu4 ?pv4 ?ph5 ?pl5 ?pu5 ?pv5 ?ph6 ?pl6 ?pu6 ?pv6 ?ph7 ?pl7 ?pu7 ?pv7 ?ph8 ?pl8 ?pu8 ?pv8 ?ks_PORTS ?a_RESERVED ?l_RESERVED ?a_Block ?a_Diagram ?pg_Diagram ?hd_Diagram ?po_Diagram ?sa_Diagram ?mk_Diagram ?kc_Diagram ?no_Diagram_name ?no_Diagram_inputs ?no_Diagram_outputs ?no_Diagram_parts ?no_Diagram_wires ?no_Diagram_text ?rd_Diagram ?rg_Diagram ?cv_Diagram_MAX_PARTS ?ci_Diagram_MAX_PARTS ?cg_Diagram_MAX_PARTS ?cv_Diagram_MAX_PORTS ?ci_Diagram_MAX_PORTS ?cg_Diagram_MAX_PORTS ?ic_Diagram ?io_Diagram ?ocg ?oct ?kc1_Diagram_Block ?kc2_Diagram_Block ?kc3_Diagram_Block ?a_Block_init ?l_Block_init ?c_Block_init ?k_Block_init ?t_Block_init ?n_Block_init ?a_Diagram_init ?l_Diagram_init ?c_Diagram_init ?k_Diagram_init ?i_Diagram_init ?cC_Diagram ?lc_Diagram ?hv_Diagram ?hf_Diagram ?lcc_Diagram ?sub_Diagram ?zS ?tp ?ht ?a_Diagram_str ?l_Diagram_str ?c_Diagram_str ?k_Diagram_str ?i_Diagram_str ?q_Diagram_parse ?a_Diagram_parse ?l_Diagram_parse ?c_Diagram_parse ?k_Diagram_parse ?n_Diagram_parse ?a_Reader ?pg_Reader ?hd_Reader ?po_Reader ?sa_Reader ?mk_Reader ?kc_Reader ?no_Reader_name ?no_Reader_inputs ?no_Reader_outputs ?no_Reader_parts ?no_Reader_wires ?no_Reader_is_done ?a_Reader_init ?l_Reader_init ?c_Reader_init ?k_Reader_init ?i_Reader_init ?a_Reader_take ?l_Reader_take ?c_Reader_take ?k_Reader_take ?i_Reader_take ?a_Reader_take_head ?l_Reader_take_head ?c_Reader_take_head ?k_Reader_take_head ?i_Reader_take_head ?a_Reader_take_part ?l_Reader_take_part ?c_Reader_take_part ?k_Reader_take_part ?i_Reader_take_part ?a_Reader_take_wire ?l_Reader_take_wire ?c_Reader_take_wire ?k_Reader_take_wire ?i_Reader_take_wire ?a_Reader_port_of ?l_Reader_port_of ?c_Reader_port_of ?k_Reader_port_of ?i_Reader_port_of ?a_Reader_result ?l_Reader_result ?c_Reader_result ?k_Reader_result ?i_Reader_result ?a_BlockError ?eb_BlockError ?ed_BlockError ?et_BlockError ?a_InvalidText ?xL_InvalidText ?sa_InvalidText ?exC_InvalidText ?tyC_InvalidText ?kC_InvalidText ?ga_InvalidText ?gg_InvalidText ?hd_InvalidText ?ic_InvalidText ?io_InvalidText ?cd_InvalidText ?sv_InvalidText ?sb_InvalidText ?a_InvalidText_init ?l_InvalidText_init ?c_InvalidText_init ?k_InvalidText_init ?t_InvalidText_init ?ss_InvalidText ?cb_InvalidText ?no_InvalidText_row
    (case z_sorted => k_is)
    (case z_enumerate => k_is)
    (case z_list => k_is)
    (case z_len => k_is)
    (case z_abs => k_is)
    (case z_max => k_is)
    (case z_min => k_is)
    (case z_range => k_is)
    (case z_isinstance => k_is)
    (case z_int => k_is)
    (case z_str => k_is)
    (case z_tuple => k_is)
    (case z_all => k_is)
    (case z_set => k_is)
    (case z_dict => k_is)
    (case z_repr => k_is)
    (case z_ValueError => k_is)
    (case a_MODULUS => k_is)
    (case a_MAX_NAME => k_is)
    (case a_DIGITS => k_is)
    (case a_LETTERS => k_is)
    (case a_law_feed => k_is)
    (case l_law_feed => k_is)
    (case c_law_feed => k_is)
    (case k_law_feed => k_is)
    (case a_law_take => k_is)
    (case l_law_take => k_is)
    (case c_law_take => k_is)
    (case k_law_take => k_is)
    (case a_law_pick => k_is)
    (case l_law_pick => k_is)
    (case c_law_pick => k_is)
    (case k_law_pick => k_is)
    (case a_law_words => k_is)
    (case l_law_words => k_is)
    (case c_law_words => k_is)
    (case k_law_words => k_is)
    (case a_law_block => k_is)
    (case l_law_block => k_is)
    (case c_law_block => k_is)
    (case k_law_block => k_is)
    (case a_law_diagram => k_is)
    (case l_law_diagram => k_is)
    (case c_law_diagram => k_is)
    (case k_law_diagram => k_is)
    (case a_law_port => k_is)
    (case l_law_port => k_is)
    (case c_law_port => k_is)
    (case k_law_port => k_is)
    (case a_law_rows => k_is)
    (case l_law_rows => k_is)
    (case c_law_rows => k_is)
    (case k_law_rows => k_is)
    (case a_law_is_name => k_is)
    (case l_law_is_name => k_is)
    (case c_law_is_name => k_is)
    (case k_law_is_name => k_is)
    (case a_law_is_number => k_is)
    (case l_law_is_number => k_is)
    (case c_law_is_number => k_is)
    (case k_law_is_number => k_is)
    (case a_law_is_block => k_is)
    (case l_law_is_block => k_is)
    (case c_law_is_block => k_is)
    (case k_law_is_block => k_is)
    (case a_law_head => k_is)
    (case l_law_head => k_is)
    (case c_law_head => k_is)
    (case k_law_head => k_is)
    (case a_law_is_port => k_is)
    (case l_law_is_port => k_is)
    (case c_law_is_port => k_is)
    (case k_law_is_port => k_is)
    (case a_law_wrong => k_is)
    (case l_law_wrong => k_is)
    (case c_law_wrong => k_is)
    (case k_law_wrong => k_is)
    (case a_law_told => k_is)
    (case l_law_told => k_is)
    (case c_law_told => k_is)
    (case k_law_told => k_is)
    (case a_law_signs => k_is)
    (case l_law_signs => k_is)
    (case c_law_signs => k_is)
    (case k_law_signs => k_is)
    (case a_law_pieces => k_is)
    (case l_law_pieces => k_is)
    (case c_law_pieces => k_is)
    (case k_law_pieces => k_is)
    (case a_law => k_is)
    (case l_law => k_is)
    (case c_law => k_is)
    (case k_law => k_is)
    (case a_is_primitive_text => k_is)
    (case l_is_primitive_text => k_is)
    (case c_is_primitive_text => k_is)
    (case k_is_primitive_text => k_is)
    (case a_number_of => k_is)
    (case l_number_of => k_is)
    (case c_number_of => k_is)
    (case k_number_of => k_is)
    (case a_is_name => k_is)
    (case l_is_name => k_is)
    (case c_is_name => k_is)
    (case k_is_name => k_is)
    (case a_is_block_text => k_is)
    (case l_is_block_text => k_is)
    (case c_is_block_text => k_is)
    (case k_is_block_text => k_is)
    (case a_port_text => k_is)
    (case l_port_text => k_is)
    (case c_port_text => k_is)
    (case k_port_text => k_is)
    (case a_text_of => k_is)
    (case l_text_of => k_is)
    (case c_text_of => k_is)
    (case k_text_of => k_is)
    (case a_is_port_name => k_is)
    (case l_is_port_name => k_is)
    (case c_is_port_name => k_is)
    (case k_is_port_name => k_is)
    (case a_PORTS => k_is)
    (case l_PORTS => k_is)
    (case h_PORTS => (repeat (first | exact True.intro | refine ⟨⟨_, _, rfl, rfl⟩, ?_⟩)))
    (case w_PORTS => first | rfl | decide +kernel)
    (case ph0 => k_is)
    (case pl0 => k_is)
    (case pu0 => k_is)
    (case pv0 => k_is)
    (case ph1 => k_is)
    (case pl1 => k_is)
    (case pu1 => k_is)
    (case pv1 => k_is)
    (case ph2 => k_is)
    (case pl2 => k_is)
    (case pu2 => k_is)
    (case pv2 => k_is)
    (case ph3 => k_is)
    (case pl3 => k_is)
    (case pu3 => k_is)
    (case pv3 => k_is)
    (case ph4 => k_is)
    (case pl4 => k_is)
    (case pu4 => k_is)
    (case pv4 => k_is)
    (case ph5 => k_is)
    (case pl5 => k_is)
    (case pu5 => k_is)
    (case pv5 => k_is)
    (case ph6 => k_is)
    (case pl6 => k_is)
    (case pu6 => k_is)
    (case pv6 => k_is)
    (case ph7 => k_is)
    (case pl7 => k_is)
    (case pu7 => k_is)
    (case pv7 => k_is)
    (case ph8 => k_is)
    (case pl8 => k_is)
    (case pu8 => k_is)
    (case pv8 => k_is)
    (case ks_PORTS => rfl)
    (case a_RESERVED => k_is)
    (case l_RESERVED => k_is)
    (case a_Block => k_is)
    (case a_Diagram => k_is)
    (case pg_Diagram => k_is)
    (case hd_Diagram => k_is)
    (case po_Diagram => k_is)
    (case sa_Diagram => k_is)
    (case mk_Diagram => k_is)
    (case kc_Diagram => k_is)
    (case no_Diagram_name => k_is)
    (case no_Diagram_inputs => k_is)
    (case no_Diagram_outputs => k_is)
    (case no_Diagram_parts => k_is)
    (case no_Diagram_wires => k_is)
    (case no_Diagram_text => k_is)
    (case rd_Diagram => k_is)
    (case rg_Diagram => k_is)
    (case cv_Diagram_MAX_PARTS => k_is)
    (case ci_Diagram_MAX_PARTS => k_is)
    (case cg_Diagram_MAX_PARTS => k_is)
    (case cv_Diagram_MAX_PORTS => k_is)
    (case ci_Diagram_MAX_PORTS => k_is)
    (case cg_Diagram_MAX_PORTS => k_is)
    (case ic_Diagram => k_is)
    (case io_Diagram => k_is)
    (case ocg => k_is)
    (case oct => k_is)
    (case kc1_Diagram_Block => k_is)
    (case kc2_Diagram_Block => k_is)
    (case kc3_Diagram_Block => k_is)
    (case a_Block_init => ks_is)
    (case l_Block_init => k_is)
    (case c_Block_init => k_is)
    (case k_Block_init => k_is)
    (case t_Block_init => k_is)
    (case n_Block_init => k_is)
    (case a_Diagram_init => k_is)
    (case l_Diagram_init => k_is)
    (case c_Diagram_init => k_is)
    (case k_Diagram_init => k_is)
    (case i_Diagram_init => k_is)
    (case cC_Diagram => k_is)
    (case lc_Diagram => k_is)
    (case hv_Diagram => rfl)
    (case hf_Diagram => rfl)
    (case lcc_Diagram => k_is)
    (case sub_Diagram => k_is)
    (case zS => k_is)
    (case tp => k_is)
    (case ht => rfl)
    (case a_Diagram_str => k_is)
    (case l_Diagram_str => k_is)
    (case c_Diagram_str => k_is)
    (case k_Diagram_str => k_is)
    (case i_Diagram_str => k_is)
    (case q_Diagram_parse => k_is)
    (case a_Diagram_parse => k_is)
    (case l_Diagram_parse => k_is)
    (case c_Diagram_parse => k_is)
    (case k_Diagram_parse => k_is)
    (case n_Diagram_parse => k_is)
    (case a_Reader => k_is)
    (case pg_Reader => k_is)
    (case hd_Reader => k_is)
    (case po_Reader => k_is)
    (case sa_Reader => k_is)
    (case mk_Reader => k_is)
    (case kc_Reader => k_is)
    (case no_Reader_name => k_is)
    (case no_Reader_inputs => k_is)
    (case no_Reader_outputs => k_is)
    (case no_Reader_parts => k_is)
    (case no_Reader_wires => k_is)
    (case no_Reader_is_done => k_is)
    (case a_Reader_init => k_is)
    (case l_Reader_init => k_is)
    (case c_Reader_init => k_is)
    (case k_Reader_init => k_is)
    (case i_Reader_init => k_is)
    (case a_Reader_take => k_is)
    (case l_Reader_take => k_is)
    (case c_Reader_take => k_is)
    (case k_Reader_take => k_is)
    (case i_Reader_take => k_is)
    (case a_Reader_take_head => k_is)
    (case l_Reader_take_head => k_is)
    (case c_Reader_take_head => k_is)
    (case k_Reader_take_head => k_is)
    (case i_Reader_take_head => k_is)
    (case a_Reader_take_part => k_is)
    (case l_Reader_take_part => k_is)
    (case c_Reader_take_part => k_is)
    (case k_Reader_take_part => k_is)
    (case i_Reader_take_part => k_is)
    (case a_Reader_take_wire => k_is)
    (case l_Reader_take_wire => k_is)
    (case c_Reader_take_wire => k_is)
    (case k_Reader_take_wire => k_is)
    (case i_Reader_take_wire => k_is)
    (case a_Reader_port_of => k_is)
    (case l_Reader_port_of => k_is)
    (case c_Reader_port_of => k_is)
    (case k_Reader_port_of => k_is)
    (case i_Reader_port_of => k_is)
    (case a_Reader_result => k_is)
    (case l_Reader_result => k_is)
    (case c_Reader_result => k_is)
    (case k_Reader_result => k_is)
    (case i_Reader_result => k_is)
    (case a_BlockError => k_is)
    (case eb_BlockError => k_is)
    (case ed_BlockError => k_is)
    (case et_BlockError => k_is)
    (case a_InvalidText => k_is)
    (case xL_InvalidText => k_is)
    (case sa_InvalidText => k_is)
    (case exC_InvalidText => k_is)
    (case tyC_InvalidText => k_is)
    (case kC_InvalidText => k_is)
    (case ga_InvalidText => k_is)
    (case gg_InvalidText => k_is)
    (case hd_InvalidText => k_is)
    (case ic_InvalidText => k_is)
    (case io_InvalidText => k_is)
    (case cd_InvalidText => k_is)
    (case sv_InvalidText => k_is)
    (case sb_InvalidText => k_is)
    (case a_InvalidText_init => k_is)
    (case l_InvalidText_init => k_is)
    (case c_InvalidText_init => k_is)
    (case k_InvalidText_init => k_is)
    (case t_InvalidText_init => k_is)
    (case ss_InvalidText => k_is)
    (case cb_InvalidText => k_is)
    (case no_InvalidText_row => k_is)
#print axioms PySem.Challenge.cw_stepblocks_k07_wrong_rows_holds
