import PyProof.Rows.All
import Wide.All
import OpenK.AllK
import Wide.FinOn
import HandS.ForMost
import KE.KSuper
import HandS.Wide
import HandS.IsInst
import HandS.ClsMeth
import HandS.FStr
import HandS.RaiseMore
import PySem.Challenge.RW_stepblocks_k04_whole_arithmetic
set_option Elab.async false
set_option linter.all false
set_option maxRecDepth 100000
set_option maxHeartbeats 2000000
/-! a def of a class whose first statement is super().__init__(..): its promise by the rest of its body -/
namespace SupX
open PySem PySem.W PyProof.Rows L2

theorem cellsFrom_app : ∀ (names : List (Str × NameKind)) (n : Nat) (a b : List (Str × Addr)), cellsFrom n names (a ++ b) = cellsFrom n names a ++ b
  | [], _, _, _ => rfl
  | (name, kind) :: r, n, a, b => by
    unfold cellsFrom
    split
    · exact cellsFrom_app r (n + 1) ((name, n) :: a) b
    · exact cellsFrom_app r n a b
theorem look_app {l r : List (Str × Addr)} {x : Str} {c : Addr} (h : l.lookup x = some c) : (l ++ r).lookup x = some c := by
  rw [List.lookup_append, h] <;> rfl

section
variable {M : Model} {A : Around} {E : Value → Shared → Prop} {s₀ s : Shared} {m cm : Str → Option Value} {env : Env} {cs : List (Str × Addr)}
theorem stLX {n : Str} {v : Value} {Q : Unit → Shared → Prop} (x : InCallC s₀ env.locals m cs cm s) (hk : env.scope.kind = .function) (hl : env.kindOf n = some .local)
    (h : ∀ s', InCallC s₀ env.locals (fun y => if y = n then some v else m y) cs cm s' → Q () s') : wpAny M A (storeName env n v) Q E s := by
  refine wpAny_storeName_local hl x.toInCall.ns (fun h' hn' hs' => h _ ⟨⟨?_, hn', fun b o e => ?_, x.toInCall.fresh⟩, fun k c hc => ?_, x.apart, x.above⟩) (by rw [hk]; rfl)
  · obtain ⟨h₁, tk, rfl⟩ := x.toInCall.same
    exact ⟨h', _, rfl⟩
  · exact hs'.extBut b o (Nat.ne_of_lt (Nat.lt_of_lt_of_le (Heap.lt_size e) x.toInCall.fresh)) (x.toInCall.keep b o e)
  · exact (x.cell k c hc).sameBut hs' (Nat.ne_of_gt (x.above k c (PySem.mem_of_lookup hc)))
theorem stCX {n : Str} {c : Addr} {v : Value} {Q : Unit → Shared → Prop} (x : InCallC s₀ env.locals m cs cm s) (hk : env.scope.kind = .function) (hl : env.kindOf n = some .cell)
    (hc0 : cs.lookup n = some c) (hc : env.cells.lookup n = some c)
    (h : ∀ s', InCallC s₀ env.locals m cs (fun y => if y = n then some v else cm y) s' → Q () s') : wpAny M A (storeName env n v) Q E s := by
  have hLc := x.above n c (PySem.mem_of_lookup hc0)
  refine wpAny_storeName_cell hk hl hc (x.cell n c hc0) fun h' hc' hs' => h _ ⟨⟨?_, x.toInCall.ns.sameBut hs' (Nat.ne_of_lt hLc), fun b o e => ?_, x.toInCall.fresh⟩, fun k c' hk' => ?_, x.apart, x.above⟩
  · obtain ⟨h₁, tk, rfl⟩ := x.toInCall.same
    exact ⟨h', _, rfl⟩
  · exact hs'.extBut b o (Nat.ne_of_lt (Nat.lt_trans (Nat.lt_of_lt_of_le (Heap.lt_size e) x.toInCall.fresh) hLc)) (x.toInCall.keep b o e)
  · by_cases hkn : k = n
    · subst hkn
      rw [hc0] at hk'; cases hk'
      simpa using hc'
    · rw [if_neg hkn]
      exact (x.cell k c' hk').sameBut hs' fun e => hkn (name_of_addr x.apart (PySem.mem_of_lookup hk') (e ▸ PySem.mem_of_lookup hc0))
theorem bindX (f : Str × Value → PUnit → Sem (ForInStep PUnit)) (hf : ∀ n v u, f (n, v) u = (do storeName env n v; pure (.yield ⟨⟩))) (hk : env.scope.kind = .function) (hcs : ∀ n c, cs.lookup n = some c → env.cells.lookup n = some c) :
    ∀ (binds : List (Str × Value)) (m cm : Str → Option Value) (s : Shared) (Q : PUnit → Shared → Prop), InCallC s₀ env.locals m cs cm s →
      (∀ x ∈ binds, env.kindOf x.1 = some .local ∨ (env.kindOf x.1 = some .cell ∧ (cs.lookup x.1).isSome = true)) →
      (∀ s', InCallC s₀ env.locals (bindL env.kindOf binds m) cs (bindC env.kindOf binds cm) s' → Q ⟨⟩ s') → wpAny M A (forIn binds ⟨⟩ f) Q E s
  | [], m, cm, s, Q, x, _, h => by rw [List.forIn_nil]; exact wpAny_pure (h s x)
  | (n, v) :: r, m, cm, s, Q, x, hkind, h => by
    rw [List.forIn_cons, hf]
    have hr : ∀ y ∈ r, env.kindOf y.1 = some .local ∨ (env.kindOf y.1 = some .cell ∧ (cs.lookup y.1).isSome = true) := fun y hy => hkind y (List.mem_cons_of_mem _ hy)
    rcases hkind (n, v) List.mem_cons_self with hl | ⟨hl, hc⟩
    · refine wpAny_bind (wpAny_bind (stLX x hk hl fun s' x' => wpAny_pure (bindX f hf hk hcs r _ _ s' Q x' hr fun s'' x'' => h s'' ?_)))
      unfold bindL bindC; rw [if_pos hl, if_pos hl]; exact x''
    · obtain ⟨c, hc⟩ := Option.isSome_iff_exists.mp hc
      have hnl : ¬ env.kindOf n = some .local := by rw [hl]; decide
      refine wpAny_bind (wpAny_bind (stCX x hk hl hc (hcs _ _ hc) fun s' x' => wpAny_pure (bindX f hf hk hcs r _ _ s' Q x' hr fun s'' x'' => h s'' ?_)))
      unfold bindL bindC; rw [if_neg hnl, if_neg hnl]; exact x''
theorem newEnvX {scope : Scope} {globals : Addr} {clo : List (Str × Addr)} {binds : List (Str × Value)} {qual : Str} {func : Option Addr} {code : Value} {builtins : Addr} {Q : Env → Shared → Prop}
    (hk : scope.kind = .function)
    (hkind : ∀ x ∈ binds, scope.names.lookup x.1 = some .local ∨ (scope.names.lookup x.1 = some .cell ∧ ((cellsFrom (s.heap.objs.size + 1) scope.names []).lookup x.1).isSome = true))
    (hQ : ∀ env, env = newEnv scope s.heap.objs.size globals (cellsFrom (s.heap.objs.size + 1) scope.names clo) qual func code none builtins →
      ∀ s', InCallC s env.locals (bindL env.kindOf binds fun _ => none) (cellsFrom (s.heap.objs.size + 1) scope.names []) (bindC env.kindOf binds fun _ => none) s' → Q env s') :
    wpAny M A (newFunctionEnv scope globals clo binds qual func code none builtins) Q E s := by
  simp only [newFunctionEnv, Option.isSome_none, Bool.false_eq_true, if_false]
  refine wpAny_bind (wpAny_alloc ?_)
  refine wpAny_bind (wpAny_layCells _ (fun name kind cells => by cases hkc : kind == NameKind.cell <;> simp [hkc]) _ _ _ _ ?_)
  have ok := cellsFrom_ok scope.names (s.heap.push { cls := .type "frame", data := .dict #[] }) (s.heap.objs.size + 1) [] ⟨fun _ _ hm => (nomatch hm), List.Pairwise.nil⟩ (by rw [Heap.size_push]; exact Nat.le_refl _)
  rw [Heap.size_push] at ok
  rw [show ({ s with heap := s.heap.push { cls := .type "frame", data := .dict #[] } } : Shared).heap.objs.size = s.heap.objs.size + 1 from Heap.size_push ..]
  refine wpAny_bind (bindX (s₀ := s) (cs := cellsFrom (s.heap.objs.size + 1) scope.names []) (env := newEnv scope s.heap.objs.size globals (cellsFrom (s.heap.objs.size + 1) scope.names clo) qual func code none builtins)
    _ (fun _ _ _ => rfl) hk (fun n c h => ?_) binds (fun _ => none) (fun _ => none) _ _
    ⟨⟨⟨_, _, rfl⟩, (Heap.Ns.new s.heap (.type "frame")).keeps (pushCells_keeps _ _), fun b o e => pushCells_keeps _ _ b o (Heap.get?_push_of_some _ e), Nat.le_refl _⟩,
      fun n c hc => (ok.empty n c (PySem.mem_of_lookup hc)).1, ok.apart, fun n c hm => (ok.empty n c hm).2⟩
    hkind fun s' x => wpAny_pure (hQ _ rfl s' x))
  show (cellsFrom (s.heap.objs.size + 1) scope.names clo).lookup n = some c
  rw [show clo = [] ++ clo from rfl, cellsFrom_app]
  exact look_app h
end

/-! ### the frame of such a def -/
abbrev envS (qual : Str) (scope : Scope) (L a : Addr) (cd : Value) (cc : Addr) : Env :=
  { scope := scope, locals := L, globals := mainGlobals, cells := cellsFrom (L + 1) scope.names [("__class__", cc)], qual := qual ++ ".<locals>.", func := some a, code := cd, frame := some L, builtins := builtinsNs }
structure SScope (N ps : List Str) (sc : Scope) : Prop where
  kind : sc.kind = .function
  co : sc.isCoroutine = false
  gen : sc.isGenerator = false
  nd : N.Nodup
  pre : N.take ps.length = ps
  par : ∀ x ∈ ps, sc.names.lookup x = some .local ∨ sc.names.lookup x = some .cell
  free : ∀ y ∈ sc.names, y.2 = NameKind.free → y.1 = ("__class__" : Str)
  cls : sc.names.lookup ("__class__" : Str) = some NameKind.free
  nocls : (("__class__" : Str), NameKind.cell) ∉ sc.names
  sup : sc.names.lookup ("super" : Str) = some NameKind.globalImplicit
def cxS (CX : CXT) (P : Program) (w : World) (K : PySem.W.Frag) (mg : Str → Option Value) (base : Heap) (N : List Str) (qual : Str) (scope : Scope) (f : Addr) (cd : Value) (cc : Addr) (A : Around) (outer : List Env) (s : Shared) (H : Hp) (E : XK) : Cx where
  prog := P
  w := w
  K := K
  mg := mg
  base := base
  A := A.deeper (envS qual scope s.heap.objs.size f cd cc)
  N := N
  s_0 := s
  H_0 := H
  env := envS qual scope s.heap.objs.size f cd cc
  outer := outer
  stack := envS qual scope s.heap.objs.size f cd cc :: outer
  ex := []
  calm := true
  fn := fun y => !(y == "__class__")
  pn := []
  xe := fun e s' => wpAny (model P w) (A.deeper (envS qual scope s.heap.objs.size f cd cc)) (leaving (envS qual scope s.heap.objs.size f cd cc) e) (fun _ s'' => CX outer H s E e s'') (fun e' s'' => CX outer H s E e' s'') s'

theorem cells_eq (n : Nat) (names : List (Str × NameKind)) (cc : Addr) : cellsFrom n names [(("__class__" : Str), cc)] = cellsFrom n names [] ++ [(("__class__" : Str), cc)] := cellsFrom_app names n [] _
theorem names_of_cells : ∀ {names : List (Str × NameKind)} {n : Nat} {acc : List (Str × Addr)} {x : Str} {c : Addr}, (x, c) ∈ cellsFrom n names acc → (x, c) ∈ acc ∨ (x, NameKind.cell) ∈ names
  | [], _, _, _, _, h => .inl h
  | (name, kind) :: r, n, acc, x, c, h => by
    unfold cellsFrom at h
    split at h
    · rename_i hk
      rcases names_of_cells h with q | q
      · rcases List.mem_cons.mp q with e | q
        · cases e
          exact .inr (by rw [beq_iff_eq.mp hk]; exact List.mem_cons_self)
        · exact .inl q
      · exact .inr (List.mem_cons_of_mem _ q)
    · rcases names_of_cells h with q | q
      · exact .inl q
      · exact .inr (List.mem_cons_of_mem _ q)
/-- a name's cell: one of the frame's own, or the class's -/
theorem cell_cases {n : Nat} {names : List (Str × NameKind)} {cc : Addr} {x : Str} {c : Addr} (h : (cellsFrom n names [(("__class__" : Str), cc)]).lookup x = some c) :
    (cellsFrom n names []).lookup x = some c ∨ ((cellsFrom n names []).lookup x = none ∧ x = "__class__" ∧ c = cc) := by
  rw [cells_eq, List.lookup_append] at h
  cases e : (cellsFrom n names []).lookup x with
  | some d => rw [e] at h; exact .inl h
  | none =>
    rw [e] at h
    have h2 : List.lookup x [(("__class__" : Str), cc)] = some c := h
    rw [List.lookup_cons] at h2
    split at h2
    · rename_i hx
      exact .inr ⟨rfl, beq_iff_eq.mp hx, (Option.some.inj h2).symm⟩
    · cases h2

theorem inv_startS {CX : CXT} {P : Program} {w : World} {K : PySem.W.Frag} {mg : Str → Option Value} {base : Heap} {N ps : List Str} {qual : Str} {scope : Scope} {f : Addr} {cd : Value} {cc : Addr} {A : Around} {outer : List Env} {s s1 : Shared} {H : Hp} {E : XK} {us : List Value} {vs : List V} {cv : Option Value}
    (S : SScope N ps scope) (hd : A.handled = none) (e0 : Env0 P w K mg base A outer s H) (hl : vs.length = ps.length) (r : Vals vs us) (hcc : base.IsCell cc cv)
    (x : InCallC s s.heap.objs.size (bindL (envS qual scope s.heap.objs.size f cd cc).kindOf (ps.zip us) fun _ => none) (cellsFrom (s.heap.objs.size + 1) scope.names []) (bindC (envS qual scope s.heap.objs.size f cd cc).kindOf (ps.zip us) fun _ => none) s1) :
    Inv (cxS CX P w K mg base N qual scope f cd cc A outer s H E) [] (L2.start N vs) H s1 := by
  have hpl : ps.length ≤ N.length := by have := congrArg List.length S.pre; rw [List.length_take] at this; omega
  obtain ⟨oc, hoc, hocd⟩ := hcc
  have hcs : s.heap.get? cc = some oc ∧ H cc = none := e0.bs cc oc hoc
  have hlt : cc < s.heap.objs.size := Heap.lt_size hcs.1
  obtain ⟨h1, tk, rfl, hk⟩ := x.done
  have noA : ∀ b : Addr, b ∉ (cxS CX P w K mg base N qual scope f cd cc A outer s H E).ex := fun b z => absurd (show b ∈ ([] : List Addr) from z) (by simp)
  have own : ∀ {y : Str} {c : Addr}, (cellsFrom (s.heap.objs.size + 1) scope.names []).lookup y = some c → s.heap.objs.size < c := fun h => x.above _ _ (PySem.mem_of_lookup h)
  refine ⟨⟨e0.mod, S.kind, rfl, rfl, Nat.le_refl _, fun y z c h1 h2 => ?_, fun y hy => ?_, fun y c hf h => ?_, fun _ => hd, Around.frames_deeper e0.frames, .inr ⟨rfl, rfl⟩, fun b z => absurd z (noA b), e0.bs, e0.bsz, fun b _ _ => noA b, fun b z => absurd z (noA b), e0.funs, e0.frf⟩,
    rfl, e0.bare, Un.kept hk, ⟨_, x.toInCall.ns, fun i y v h1 h2 h3 => ?_⟩, fun y c h => ?_, e0.hok.fresh (Nat.le_refl _), fun y c h => ?_, fun p hp => absurd (show p ∈ ([] : List (Addr × Obj)) from hp) (by simp), e0.hok.kept hk, ?_⟩
  · rcases cell_cases h1 with q1 | ⟨_, q1, e1⟩
    · rcases cell_cases h2 with q2 | ⟨_, q2, e2⟩
      · exact name_of_addr x.apart (PySem.mem_of_lookup q1) (PySem.mem_of_lookup q2)
      · have z := own q1
        rw [e2] at z
        exact absurd (Nat.lt_trans z hlt) (Nat.lt_irrefl _)
    · rcases cell_cases h2 with q2 | ⟨_, q2, e2⟩
      · have z := own q2
        rw [e1] at z
        exact absurd (Nat.lt_trans z hlt) (Nat.lt_irrefl _)
      · rw [q1, q2]
  · have hy : scope.names.lookup y = some .cell ∨ scope.names.lookup y = some .free := hy
    rcases hy with hy | hy
    · obtain ⟨c, e⟩ := cell_has (n := s.heap.objs.size + 1) hy
      refine ⟨c, ?_⟩
      show (cellsFrom (s.heap.objs.size + 1) scope.names [("__class__", cc)]).lookup y = some c
      rw [cells_eq]
      exact look_app e
    · have e := S.free _ (PySem.mem_of_lookup hy) rfl
      have e : y = "__class__" := e
      subst e
      cases q : (cellsFrom (s.heap.objs.size + 1) scope.names []).lookup ("__class__" : Str) with
      | some c =>
        refine ⟨c, ?_⟩
        show (cellsFrom (s.heap.objs.size + 1) scope.names [("__class__", cc)]).lookup ("__class__" : Str) = some c
        rw [cells_eq]
        exact look_app q
      | none =>
        refine ⟨cc, ?_⟩
        show (cellsFrom (s.heap.objs.size + 1) scope.names [("__class__", cc)]).lookup ("__class__" : Str) = some cc
        rw [cells_eq, List.lookup_append, q]
        simp [List.lookup]
  · rcases cell_cases h with q | ⟨_, q, _⟩
    · exact Nat.le_of_lt (own q)
    · have hf : (!(y == ("__class__" : Str))) = true := hf
      rw [q] at hf
      simp at hf
  · have hi : i < vs.length := by
      unfold L2.start at h2
      by_cases hi : i < vs.length
      · exact hi
      · rw [List.getElem?_append_right (by simpa using hi)] at h2
        rw [List.getElem?_replicate] at h2
        split at h2 <;> cases h2
    have ha : vs[i]? = some v := by
      unfold L2.start at h2
      rw [List.getElem?_append_left (by simpa using hi), List.getElem?_map] at h2
      cases e : vs[i]? with
      | none => rw [e] at h2; cases h2
      | some a => rw [e] at h2; cases h2; rfl
    obtain ⟨u, hu, rv⟩ := r.get ha
    have hp : ps[i]? = some y := by
      rw [← S.pre, List.getElem?_take_of_lt (by omega)]; exact h1
    have ndP : ps.Nodup := by rw [← S.pre]; exact S.nd.sublist (List.take_sublist _ _)
    refine ⟨u, rv, ?_⟩
    rcases S.par y (List.mem_of_getElem? hp) with k | k
    · exact .inl ⟨k, bindL_get ndP hp hu k⟩
    · obtain ⟨c, e⟩ := cell_has (n := s.heap.objs.size + 1) k
      refine .inr ⟨.inl k, c, ?_, ?_⟩
      · show (cellsFrom (s.heap.objs.size + 1) scope.names [("__class__", cc)]).lookup y = some c
        rw [cells_eq]
        exact look_app e
      · have q := x.cell y c e
        rw [bindC_get ndP hp hu (by show scope.names.lookup y ≠ _; rw [k]; decide)] at q
        exact q
  · rcases cell_cases h with q | ⟨_, _, q⟩
    · exact ⟨_, x.cell y c q⟩
    · rw [q]
      exact ⟨cv, oc, hk _ _ hcs.1, hocd⟩
  · rcases cell_cases h with q | ⟨_, _, q⟩
    · exact e0.hok.fresh (Nat.le_of_lt (own q))
    · rw [q]
      exact hcs.2
  · unfold L2.start
    show _ = N.length
    rw [List.length_append, List.length_map, List.length_replicate]
    omega
end SupX

set_option maxRecDepth 100000
set_option maxHeartbeats 2000000
namespace SupX
open PySem PySem.W PyProof.Rows L2

/-- what the written part tells of super() in a def of the class at C, the def at f with the code object at cda and the class's cell at cc; f2 is the base's __init__ -/
structure SupF (P : Program) (K : Frag) (mg : Str → Option Value) (C f cda cc f2 : Addr) (slf : Str) : Prop where
  cl : Cls K C
  cd : ∃ c, clsIn K C = some c
  fn : ∃ (oc : Value) (od : Option Addr) (fd : FuncData) (osl : Array (Option Value)) (ar : Arg), K.lookup f = some ⟨oc, od, .func fd, osl⟩ ∧ (fd.params.posonlyargs ++ fd.params.args).head? = some ar ∧ ar.arg = slf
  code : ∃ (ccl : Value) (cdd : Option Addr) (vs : Array Value) (ccs : Array (Option Value)) (file : Str) (tf : Tok), K.lookup cda = some ⟨ccl, cdd, .fields vs, ccs⟩ ∧ vs[2]? = some (.str file tf) ∧ ((P.main.file : Str) == file) = true
  cell : ∃ (cl : Value) (cld : Option Addr) (csl : Array (Option Value)), K.lookup cc = some ⟨cl, cld, .cell (some (.ref C)), csl⟩
  sub : mroIn K C (.ref C) = some true
  gsup : mg "super" = none
  tp : nsIn K cStatics "thirdparty.any" = some none
  sin : ks_superIn K C C "__init__" = some (some (.ref f2))
  tf2 : typeIn K (.ref f2) = some (.type "function")
  ff2 : fnIn K f2 = true
  htop : (P.main.scope.names.lookup ("super" : Str)).isSome = false

theorem boot_super : bootBuiltins "super" = some (.type "super") := by first | boot_by_name | rfl | kernel_rfl | decide +kernel

section
variable {X : Cx} {body : List Stmt} {pins : List (Addr × Obj)} {σ : L2.St} {H : Hp} {s : Shared} {C f cda cc f2 x dx : Addr} {slf : Str} {fs : List (Str × V)} {pos p0 p1 : Pos}
/-- super(), in a def of the class at C: the object stands behind, all else is kept -/
theorem sup_base {attr : Str} {whole : Sem Value} {Q : Value → Shared → Prop} {E : Value → Shared → Prop} (I : Inv X pins σ H s) (T : SupF X.prog X.K X.mg C f cda cc f2 slf)
    (hks : X.env.kindOf "super" = some .globalImplicit) (hkc : X.env.kindOf "__class__" = some .free) (hat : (attr == ("__class__" : Str)) = false) (hfu : X.env.func = some f) (hco : X.env.code = .ref cda)
    (hcl : X.env.cells.lookup ("__class__" : Str) = some cc) (hN : X.N[0]? = some slf) (hl : X.env.scope.names.lookup slf = some .local) (hσ : σ[0]? = some (some (.ref x))) (hx : H x = some (.ins C dx fs))
    (h : ∀ so h' , (∀ b o, s.heap.get? b = some o → h'.get? b = some o) → s.heap.objs.size ≤ so → h'.get? so = some (ks_superObj C x C) → Q (.ref so) { s with heap := h' }) :
    _root_.PySem.wpAt (model X.prog X.w) X.A (.func body X.env) (attributeBase (.Call (.Name "super" p0) [] [] p1) attr X.env whole) Q E s := by
  obtain ⟨oc, od, fd, osl, ar, hf, hp, har⟩ := T.fn
  obtain ⟨ccl, cdd, vs, ccs, file, tf, hcode, hvs, hfile⟩ := T.code
  obtain ⟨cl, cld, csl, hcell⟩ := T.cell
  obtain ⟨cdD, hD⟩ := T.cd
  have KI : X.K.In s.heap := I.kIn
  obtain ⟨m, hns, hlk⟩ := id I.loc
  obtain ⟨u, ru, lu⟩ := hlk 0 slf (.ref x) hN hσ (.inl hl)
  obtain rfl : u = Value.ref x := ru
  obtain ⟨mA, O, _⟩ := ins_get I.hok hx
  obtain ⟨odx, J, _⟩ := O.look
  obtain ⟨mb, hb1, hb2⟩ := I.mod.blt
  obtain ⟨hh, g, d, t, os⟩ := s
  obtain ⟨oD, hD1, hD2⟩ : ∃ oD, hh.get? C = some oD ∧ oD.data = .cls cdD := by
    unfold clsIn at hD
    split at hD
    · rename_i c d cd' sl ho
      cases hD
      exact ⟨_, KI _ _ ho, rfl⟩
    · cases hD
  have hself : m slf = some (.ref x) := by
    rcases lu with ⟨_, q⟩ | ⟨q, _⟩
    · exact q
    · have q' : X.env.scope.names.lookup slf = some .cell ∨ X.env.scope.names.lookup slf = some .free := q
      rw [hl] at q'
      rcases q' with q' | q' <;> cases q'
  refine ks_wpAt_super_base (env := X.env) hks hkc hat hfu (KI _ _ hf) rfl hp hco (KI _ _ hcode) rfl hvs hfile T.htop ?_
  refine ks_loadName_global I.ok.kind hks (Calls.loadGlobal_builtin (env := X.env) (by rw [I.ok.glob]; exact I.mod.glob.keeps I.bk) T.gsup (by rw [I.ok.blt]; exact hb1.keeps I.bk) ((hb2 _ (by decide +kernel)).trans boot_super) ⟨rfl, ?_⟩)
  refine wpAny_loadName_free I.ok.kind hkc hcl ⟨_, KI _ _ hcell, rfl⟩ ?_
  rw [har]
  refine wpAny_loadName_local I.ok.kind hl hns hself ?_
  refine ks_wpAny_isType_cls hD1 hD2 ⟨rfl, ?_⟩
  refine ks_wpAny_call_super hD1 hD2 J.at_ J.cls (fun c e => ?_) (looks_mroIn KI T.sub) (fun h' e k => ?_)
  · have q := J.no
    unfold notCls at q
    rw [e] at q
    exact Bool.noConfusion q
  · exact h _ _ k (Nat.le_refl _) e
/-- .. its method of this name: a bound method, the base's def and the instance -/
theorem sup_method {so : Addr} {pl : Sem Bool} {Q : Value × List Value → Shared → Prop} {A : Around} {E : Value → Shared → Prop} (I : Inv X pins σ H s) (T : SupF X.prog X.K X.mg C f cda cc f2 slf) (hx : H x = some (.ins C dx fs))
    (hso : s.heap.get? so = some (ks_superObj C x C))
    (h : ∀ q h', (∀ b o, s.heap.get? b = some o → h'.get? b = some o) → s.heap.objs.size ≤ q → h'.get? q = some (methodObj (.ref f2) (.ref x)) → Q (.ref q, []) { s with heap := h', toks := s.toks + 1 }) :
    wpAny (model X.prog X.w) A (getMethod (.ref so) "__init__" pl) Q E s := by
  have KI : X.K.In s.heap := I.kIn
  obtain ⟨mA, O, _⟩ := ins_get I.hok hx
  obtain ⟨odx, J, _⟩ := O.look
  obtain ⟨hh, g, d, t, os⟩ := s
  have hm := T.sin
  cases hc : clsIn X.K C with
  | none => unfold ks_superIn at hm; rw [hc] at hm; cases hm
  | some cd =>
    unfold ks_superIn at hm
    rw [hc] at hm
    obtain ⟨of, hof, hofc⟩ : ∃ of, hh.get? f2 = some of ∧ of.cls = .type "function" := by
      have ht' : (X.K.lookup f2).map (·.cls) = some (.type "function") := T.tf2
      cases z : X.K.lookup f2 with
      | none => rw [z] at ht'; cases ht'
      | some of => rw [z] at ht'; exact ⟨of, KI _ _ z, Option.some.inj ht'⟩
    refine ks_wpAny_getMethod_super hso (looks_opaque KI T.tp) (l₀ := cd.mro) ?_ rfl KI hm hof hofc (ks_ne KI J hc) (by decide) ?_
    · exact fun A Q E s k q => wpAny_bind ((looks_clsIn KI hc) A _ E s k (wpAny_pure q))
    · exact h _ _ (fun b o e => Heap.get?_push_of_some _ e) (Nat.le_refl _) (Heap.get?_push_at rfl rfl)
end

def tSup (sp : Sp) (E : XK) (t : TA) : L2.TS := fun D σ H => ∃ x, σ[0]? = some (some (.ref x)) ∧ t σ H fun vs H1 => sp (.ref x :: vs) H1 (fun v H2 => D.nx σ H2) E

section
variable {X : Cx} {body : List Stmt} {pins : List (Addr × Obj)} {σ : L2.St} {H : Hp} {s : Shared} {C f cda cc f2 x dx : Addr} {slf : Str} {fs : List (Str × V)} {p0 p1 p2 p3 p4 : Pos} {e : Expr} {es : List Expr} {t : TA}
  {CX : CXT} {k : Nat} {fd2 : FuncData} {ps : List Str} {sp : Sp} {E : XK}
/-- super().__init__(e, ..), the first statement -/
theorem sup_stmt (I : Inv X pins σ H s) (T : SupF X.prog X.K X.mg C f cda cc f2 slf) (F2 : FnOk X.prog X.w X.K X.mg X.base CX k f2 fd2 ps sp) (hr : Room k X.A) (hb : Binds X.K fd2 ps []) (hxs : Passes CX X E) (ha : PA X (e :: es) t) {D : Ends}
    (hks : X.env.kindOf "super" = some .globalImplicit) (hkc : X.env.kindOf "__class__" = some .free) (hfu : X.env.func = some f) (hco : X.env.code = .ref cda)
    (hcl : X.env.cells.lookup ("__class__" : Str) = some cc) (hN : X.N[0]? = some slf) (hl : X.env.scope.names.lookup slf = some .local) (hσ : σ[0]? = some (some (.ref x))) (hx : H x = some (.ins C dx fs))
    (h : t σ H fun vs H1 => sp (.ref x :: vs) H1 (fun v H2 => D.nx σ H2) E)
    (he : starEach (e :: es) X.env = (false, eval e X.env) :: starEach es X.env := by rfl) (hpl : (backTo p3 (starEach es X.env)).any (·.1) = false := by rfl)
    (hi : interactive X.env = false := by rfl) (hsw : swapsWith (.Call (.Attribute (.Call (.Name "super" p0) [] [] p1) "__init__" p2) (e :: es) [] p3) none p4.line X.env = pure false := by rfl) {pl : Sem Bool}
    (hcall : eval (.Call (.Attribute (.Call (.Name "super" p0) [] [] p1) "__init__" p2) (e :: es) [] p3) X.env = (do
      let ov ← attributeBase (.Call (.Name "super" p0) [] [] p1) "__init__" X.env (eval (.Call (.Name "super" p0) [] [] p1) X.env)
      standAt p2.atName
      let (f, first) ← holding [ov] (getMethod ov "__init__" pl)
      callWith p3 f first (backTo p3 (starEach (e :: es) X.env)) []) := by rfl) :
    _root_.PySem.wpAt (model X.prog X.w) X.A (.func body X.env) (exec (.Expr (.Call (.Attribute (.Call (.Name "super" p0) [] [] p1) "__init__" p2) (e :: es) [] p3) p4) X.env)
      (fun fl s' => fl = .next ∧ ∃ H', Inv X pins σ H' s' ∧ D.nx σ H') X.xe s := by
  refine ks_wpAt_Expr_any ?_ hi hsw
  refine ks_wpAt_MethodCall (pl := pl) ?_ hcall
  refine sup_base I T hks hkc (by decide) hfu hco hcl hN hl hσ hx fun so h1 k1 l1 e1 => ?_
  have I1 : Inv X pins σ H { s with heap := h1 } := I.kept (t' := s.toks) k1
  refine sup_method I1 T hx e1 fun q h2 k2 l2 e2 => ?_
  have I2 : Inv X pins σ H { s with heap := h2, toks := s.toks + 1 } := I1.kept (h' := h2) (t' := s.toks + 1) k2
  have hqf : H q = none := I1.hok.fresh l2
  have I3 : Inv X ((q, methodObj (.ref f2) (.ref x)) :: pins) σ H { s with heap := h2, toks := s.toks + 1 } := I2.pins_of fun p hp => by
    rcases List.mem_cons.mp hp with rfl | hp
    · refine ⟨e2, hqf, fun z => ?_, I1.nofs l2, fun v z => by cases z⟩
      have q1 := I1.lt
      rw [← z] at q1
      exact absurd (Nat.lt_of_lt_of_le q1 l2) (Nat.lt_irrefl _)
    · exact I2.pin p (List.mem_append_right _ hp)
  have hrun : wpAny (model X.prog X.w) X.A (spliced (backTo p3 (starEach (e :: es) X.env))) (fun us s1 => MethP X.K q f2 (.ref x) s1.heap ∧ wpAny (model X.prog X.w) X.A (call (.ref q) ([] ++ us)) (fun _ s' => (Flow.next = Flow.next) ∧ ∃ H', Inv X pins σ H' s' ∧ D.nx σ H') X.xe s1) X.xe { s with heap := h2, toks := s.toks + 1 } := by
    refine thn (ha.run p3 _ _ σ H _ I3 h) fun us s1 ⟨vs, H1, J1, r, hsp⟩ => ?_
    have hq1 : s1.heap.get? q = some (methodObj (.ref f2) (.ref x)) := (J1.pin (q, methodObj (.ref f2) (.ref x)) (List.mem_append_right _ List.mem_cons_self)).1
    have J2 : Inv X pins σ H1 s1 := J1.pins_of fun p hp => J1.pin p (List.mem_append_right _ (List.mem_cons_of_mem _ hp))
    refine ⟨⟨hq1, J1.kIn⟩, ?_⟩
    show wpAny _ _ (call (.ref q) us) _ _ s1
    refine wpAny_call (ks_codeAny_call_bound hq1 ?_)
    have r2 : Vals (V.ref x :: vs) (Value.ref x :: us) := .cons rfl r
    have hl2 : ((Value.ref x :: us) ++ []).length = ps.length := by rw [List.append_nil, ← r2.length]; exact F2.len _ _ _ _ hsp
    have hbt := hb s1 (Value.ref x :: us) J2.kIn hl2
    rw [List.append_nil] at hbt
    refine codeAny_mono (F2.run X.A X.stack s1 H1 ⟨Value.ref x :: us, []⟩ (Value.ref x :: us) (V.ref x :: vs) _ E hr J2.env0 hbt r2 hsp) fun rr s' hq' => ?_
    cases rr with
    | error e => exact hxs pins σ H1 s1 e s' J2 hq'
    | ok fl =>
      cases fl with
      | ret u =>
        obtain ⟨v, H', I4, rv, q4⟩ := J2.after hq'
        exact ⟨rfl, H', I4, q4⟩
      | next => exact False.elim hq'
      | brk => exact False.elim hq'
      | cont => exact False.elim hq'
  rw [he] at hrun ⊢
  exact callWith_of (P := MethP X.K q f2 (.ref x)) (by show ((false || (backTo p3 (starEach es X.env)).any (·.1)) || false) = false; rw [hpl]; rfl) (keeps_M T.ff2) (Calls.evalArgs_plain hrun)
theorem PAnox {X : Cx} {es : List Expr} {t : TA} (h : PA X.nox es t) : PA X es t := ⟨fun pos pins s σ H Q I hw =>
  wpAny_mono (h.run pos pins s σ H Q (I.wish _) hw) (fun _ _ ⟨v, H', I', r, q⟩ => ⟨v, H', I'.unwish, r, q⟩) fun _ _ z => False.elim z⟩
end
end SupX

set_option maxRecDepth 100000
set_option maxHeartbeats 2000000
namespace SupX
open PySem PySem.W PyProof.Rows L2

/-- a def (at f) of the class at C that says super(): its text st, its class's cell at cc -/
structure FunS (P : Program) (K : Frag) (mg : Str → Option Value) (nm qual : Str) (st : Stmt) (C f cc cda f2 : Addr) (slf : Str) (fd : FuncData) : Prop where
  ex : ∃ (oc : Value) (od : Option Addr) (kV doc pm : Value) (an : Option Addr) (ct : Value) (osl : Array (Option Value)),
    fd = fnX nm qual (defArgs st) (defBody st) (defScope st) [("__class__", cc)] .none kV doc pm an (.ref cda) ct ∧ K.lookup f = some ⟨oc, od, .func fd, osl⟩ ∧ codeIn K (.ref cda) qual = true
  kp : keepIn K (.ref f) = true
  sup : SupF P K mg C f cda cc f2 slf
  hl : (defScope st).names.lookup slf = some NameKind.local

section
variable {P : Program} {w : World} {K : Frag} {mg : Str → Option Value} {base : Heap}
theorem FunS.binds {nm qual : Str} {st : Stmt} {C f cc cda f2 : Addr} {slf : Str} {fd : FuncData} {ps : List Str} (F : FunS P K mg nm qual st C f cc cda f2 slf fd)
    (h : ∀ (kV doc pm : Value) (an : Option Addr) (ct : Value) (us : List Value), us.length = ps.length → bindArgs (fnX nm qual (defArgs st) (defBody st) (defScope st) [("__class__", cc)] .none kV doc pm an (.ref cda) ct) ⟨us, []⟩ = pure (ps.zip us)) : Binds K fd ps [] := by
  obtain ⟨oc, od, kV, doc, pm, an, ct, osl, rfl, lk, hcd⟩ := F.ex
  exact .all (h kV doc pm an ct)
/-- THE RULE -/
theorem FunS.ok {nm qual : Str} {st : Stmt} {C f cc cda f2 : Addr} {slf : Str} {fd fd2 : FuncData} {N ps ps2 : List Str} {k k2 : Nat} {sp sp2 : Sp} {e : Expr} {es : List Expr} {rest : List Stmt} {p0 p1 p2 p3 p4 : Pos}
    (F : FunS P K mg nm qual st C f cc cda f2 slf fd) (S : SScope N ps (defScope st)) (hN : N[0]? = some slf)
    (hst : defBody st = .Expr (.Call (.Attribute (.Call (.Name "super" p0) [] [] p1) "__init__" p2) (e :: es) [] p3) p4 :: rest)
    (F2 : FnOk P w K mg base CX0 k2 f2 fd2 ps2 sp2) (hk : k2 ≤ k) (hb2 : Binds K fd2 ps2 [])
    (len : ∀ vs H Q E, sp vs H Q E → vs.length = ps.length)
    (hbody : ∀ (A : Around) (outer : List Env) (s : Shared) (H : Hp) (vs : List V) (Q : VK) (E : XK), Room k (A.deeper (envS qual (defScope st) s.heap.objs.size f (.ref cda) cc)) → sp vs H Q E →
      ∃ x dx fs ta t, vs[0]? = some (.ref x) ∧ H x = some (.ins C dx fs) ∧ PA (cxS CX0 P w K mg base N qual (defScope st) f (.ref cda) cc A outer s H E).nox (e :: es) ta ∧
        PSs (cxS CX0 P w K mg base N qual (defScope st) f (.ref cda) cc A outer s H E).nox rest t ∧
        ta (L2.start N vs) H fun vs' H1 => sp2 (.ref x :: vs') H1 (fun v H2 => t { nx := fun _ H' => Q .non H', rt := Q } (L2.start N vs) H2) E0)
    {pl : Sem Bool} 
    (he : ∀ env : Env, env.scope = defScope st → starEach (e :: es) env = (false, eval e env) :: starEach es env) (hpl : ∀ env : Env, env.scope = defScope st → (backTo p3 (starEach es env)).any (·.1) = false)
    (hi : ∀ env : Env, env.scope = defScope st → interactive env = false) (hsw : ∀ env : Env, env.scope = defScope st → swapsWith (.Call (.Attribute (.Call (.Name "super" p0) [] [] p1) "__init__" p2) (e :: es) [] p3) none p4.line env = pure false)
    (hcall : ∀ env : Env, env.scope = defScope st → eval (.Call (.Attribute (.Call (.Name "super" p0) [] [] p1) "__init__" p2) (e :: es) [] p3) env = (do
      let ov ← attributeBase (.Call (.Name "super" p0) [] [] p1) "__init__" env (eval (.Call (.Name "super" p0) [] [] p1) env)
      standAt p2.atName
      let (f, first) ← holding [ov] (getMethod ov "__init__" pl)
      callWith p3 f first (backTo p3 (starEach (e :: es) env)) [])) : FnOk P w K mg base CX0 (k + 1) f fd ps sp := by
  obtain ⟨oc, od, kV, doc, pm, an, ct, osl, rfl, lk, hcd⟩ := F.ex
  obtain ⟨cl, cld, csl, hcell⟩ := F.sup.cell
  refine ⟨len, fun A outer s H args us vs Q E hr e0 hb r hsp => ?_⟩
  have hl := len _ _ _ _ hsp
  have KX : K.In s.heap := e0.mod.kin.keeps fun b o e => (e0.bs b o e).1
  have lim : s.heap.NoLimit := e0.mod.nolimit.keeps fun b o e => (e0.bs b o e).1
  have hkind : ∀ y ∈ ps.zip us, (defScope st).names.lookup y.1 = some .local ∨ ((defScope st).names.lookup y.1 = some .cell ∧ ((cellsFrom (s.heap.objs.size + 1) (defScope st).names []).lookup y.1).isSome = true) := fun ⟨n, v⟩ hy => by
    rcases S.par n (List.of_mem_zip hy).1 with q | q
    · exact .inl q
    · exact .inr ⟨q, PySem.W.cellsFrom_some _ _ _ (.inl q)⟩
  refine codeAny_call_function hr.depth (KX _ _ lk) rfl S.co S.gen rfl (PySem.W.codeRec_of KX hcd) (hb _ _ _ _ ?_)
  refine newEnvX S.kind hkind fun env he' s1 x => ?_
  subst he'
  refine ⟨lim.keeps x.toInCall.keep, ?_⟩
  show codeAny _ _ (.func (defBody st) (envS qual (defScope st) s.heap.objs.size f (.ref cda) cc)) _ _
  refine ks_codeAny_funcAt ?_
  obtain ⟨xa, dx, fs, ta, t, hx0, hx, hta, ht, hq⟩ := hbody A outer s H vs Q E (hr.deeper _) hsp
  have I : Inv (cxS CX0 P w K mg base N qual (defScope st) f (.ref cda) cc A outer s H E) [] (L2.start N vs) H s1 := inv_startS S hr.hd e0 hl r (cv := some (.ref C)) ⟨_, e0.mod.kin _ _ hcell, rfl⟩ x
  have hσ : (L2.start N vs)[0]? = some (some (.ref xa)) := by
    unfold L2.start
    have h0 : 0 < vs.length := (List.getElem?_eq_some_iff.mp hx0).1
    rw [List.getElem?_append_left (by simpa using h0), List.getElem?_map, hx0] <;> rfl
  have fin : ∀ {s' : Shared} {σ' : L2.St} {H' : Hp} {v : V} {u : Value}, Inv (cxS CX0 P w K mg base N qual (defScope st) f (.ref cda) cc A outer s H E) [] σ' H' s' → RelV v u → Q v H' → CE outer P w H s Q u s' :=
    fun {s' σ' H' v u} J rv q => ⟨v, H', J.os, J.bare, J.base, J.hok, rv, q⟩
  rw [hst]
  refine ks_wpAt_execs_cons ?_
  have first := sup_stmt (X := cxS CX0 P w K mg base N qual (defScope st) f (.ref cda) cc A outer s H E) (body := defBody st) (D := { nx := fun σ' H2 => σ' = L2.start N vs ∧ t { nx := fun _ H' => Q .non H', rt := Q } (L2.start N vs) H2, rt := Q }) I F.sup F2 (Room.mono (hr.deeper _) hk) hb2 (E := E0) pass0 (PAnox hta) (p0 := p0) (p1 := p1) (p2 := p2) (p3 := p3) (p4 := p4) (pl := pl)
    S.sup S.cls rfl rfl (by
      show (cellsFrom (s.heap.objs.size + 1) (defScope st).names [("__class__", cc)]).lookup ("__class__" : Str) = some cc
      rw [cells_eq, List.lookup_append]
      have hn : (cellsFrom (s.heap.objs.size + 1) (defScope st).names []).lookup ("__class__" : Str) = none := by
        cases q : (cellsFrom (s.heap.objs.size + 1) (defScope st).names []).lookup ("__class__" : Str) with
        | none => rfl
        | some c =>
          rcases names_of_cells (PySem.mem_of_lookup q) with z | z
          · cases z
          · exact absurd z (S.nocls)
      rw [hn]
      simp [List.lookup]) hN F.hl hσ hx (by
        refine (?_ : ta (L2.start N vs) H _)
        have e0 : (fun (vs' : List V) (H1 : Hp) => sp2 (.ref xa :: vs') H1 (fun v H2 => (L2.start N vs) = L2.start N vs ∧ t { nx := fun _ H' => Q .non H', rt := Q } (L2.start N vs) H2) E0) = (fun vs' H1 => sp2 (.ref xa :: vs') H1 (fun v H2 => t { nx := fun _ H' => Q .non H', rt := Q } (L2.start N vs) H2) E0) := by
          funext vs' H1
          congr 1
          funext v H2
          exact propext ⟨fun z => z.2, fun z => ⟨rfl, z⟩⟩
        rw [e0]
        exact hq) (he _ rfl) (hpl _ rfl) (hi _ rfl) (hsw _ rfl) (hcall _ rfl)
  rw [← hst]
  refine ks_wpAt_mono first (fun fl s' hfl => ?_) fun e s' hs => hs
  obtain ⟨rfl, H', J, _, hts⟩ := hfl
  refine wpAt_of_wpAny (wpAny_mono (ht.nox.run [] s' (L2.start N vs) H' _ J hts) (fun fl s'' hs => ?_) fun e s'' hs => hs)
  cases fl with
  | ret u =>
    obtain ⟨v, σ', H', J, rv, q⟩ := hs
    exact fin J rv q
  | next =>
    obtain ⟨σ', H', J, q⟩ := hs
    exact fin (v := V.non) (u := Value.none) J rfl q
  | brk =>
    obtain ⟨_, _, _, q⟩ := hs
    exact False.elim q
  | cont =>
    obtain ⟨_, _, _, q⟩ := hs
    exact False.elim q
end
end SupX

set_option maxRecDepth 100000
set_option maxHeartbeats 4000000
/-! my layer over the hand layer: the rules that speak of the written part, with the part K told (they go within a comprehension's block, too) -/
namespace Ly
open PySem PySem.Spec PyProof.Rows L2
section
variable {X : Cx}
theorem ix_listK (K : PySem.W.Frag) (hK : X.K = K := by rfl) : IxR X (rIxL K) := hK ▸ ix_list
theorem ix_tupK (K : PySem.W.Frag) (hK : X.K = K := by rfl) : IxR X (rIxT K) := hK ▸ ix_tup
theorem ix_kdictK (K : PySem.W.Frag) (w : World) (hK : X.K = K := by rfl) (hw : X.w = w := by rfl) : IxR X (rIxD K w) := hK ▸ hw ▸ ix_kdict
theorem op_in_seqK (K : PySem.W.Frag) (hK : X.K = K := by rfl) : OpR X (compareOp .In) (rIn K false) := hK ▸ op_in_seq
theorem op_notIn_seqK (K : PySem.W.Frag) (hK : X.K = K := by rfl) : OpR X (compareOp .NotIn) (rIn K true) := hK ▸ op_notIn_seq
theorem op_eqDK (K : PySem.W.Frag) (hu : X.A.units + 64 < cLine) (hK : X.K = K := by rfl) : OpR X (compareOp .Eq) (rEqD K) := hK ▸ op_eqD hu
theorem op_neDK (K : PySem.W.Frag) (hu : X.A.units + 64 < cLine) (hK : X.K = K := by rfl) : OpR X (compareOp .NotEq) (rNeD K) := hK ▸ op_neD hu
def rLenQ (K : PySem.W.Frag) : List V → Hp → VK → Prop := fun xs H Q => ∃ p ys, xs = [.ref p] ∧ (SqL K H p ys ∨ SqT K H p ys) ∧ Q (.int ys.length) H
theorem call_lenK (K : PySem.W.Frag) (hK : X.K = K := by rfl) : CallR X (.builtin "len") (rLenQ K) := hK ▸ call_len_seq
def rTupOf (K : PySem.W.Frag) : List V → Hp → VK → Prop := fun xs H Q => ∃ p ys, xs = [.ref p] ∧ ((SqL K H p ys ∧ ∀ l, H l = none → Q (.ref l) (upd H l (.tup ys))) ∨ (SqT K H p ys ∧ Q (.ref p) H))
theorem call_tupleK (K : PySem.W.Frag) (hK : X.K = K := by rfl) : CallR X (.type "tuple") (rTupOf K) := hK ▸ call_tuple_of
theorem call_isiK (K : PySem.W.Frag) (hK : X.K = K := by rfl) : CallR X (.builtin "isinstance") (rIsi K) := hK ▸ call_isi
theorem pe_fldK (K : PySem.W.Frag) {e : Expr} {f : Str} {pos : Pos} {ta : TE} (he : PE X e ta) (hb : attributeBase e f X.env (eval e X.env) = eval e X.env) (hK : X.K = K := by rfl) : PE X (.Attribute e f pos) (tFld K ta f) := hK ▸ pe_fld he hb
theorem sl_listK (K : PySem.W.Frag) (hK : X.K = K := by rfl) : SlR X (rSlL K) := hK ▸ sl_list
theorem pi_listK (K : PySem.W.Frag) {tg e : Expr} {te : TE} (he : PE X e te) (hK : X.K = K := by rfl) : PI X tg e (iList K te) := hK ▸ pi_list he
theorem pi_tupK (K : PySem.W.Frag) {tg e : Expr} {te : TE} (he : PE X e te) (hK : X.K = K := by rfl) : PI X tg e (iTup K te) := hK ▸ pi_tup he
theorem ps_fldK (K : PySem.W.Frag) {o value : Expr} {f : Str} {pos pos' : Pos} {ta tv : TE} (ha : PE X o ta) (hv : PE X value tv) (hs : swapsWith value (some (.Attribute o f pos')) pos.line X.env = pure false) (hK : X.K = K := by rfl) : PS X (.Assign [.Attribute o f pos'] value pos) (sFld K ta tv f) := hK ▸ ps_fld ha hv hs
end
/-- cls(e, ..), cls a name that holds the class -/
def tMakeV (C : Addr) (sp : Sp) (dvs : List V) (E : XK) (tf : TE) (t : TA) : TE := fun σ H Q => tf σ H fun v H1 => v = .ref C ∧ tMake C sp dvs E t σ H1 Q
theorem pe_makeV {X : Cx} {CX : CXT} {k : Nat} {f C : Addr} {fd : FuncData} {ps : List Str} {sp : Sp} {dvs : List V} {ds : List Value} {E : XK} {x : Str} {p pos : Pos} {e : Expr} {es : List Expr} {t : TA} {tf : TE} (M : Mk X.K C f) (F : FnOk X.prog X.w X.K X.mg X.base CX k f fd ps sp) (hr : Room (k + 1) X.A)
    (hv : PE X (.Name x p) tf) (hb : Binds X.K fd ps ds) (hd : Vals dvs ds) (hx : Passes CX X E)
    (ha : PA X (e :: es) t) (he : starEach (e :: es) X.env = (false, eval e X.env) :: starEach es X.env := by rfl) (hpl : (backTo pos (starEach es X.env)).any (·.1) = false := by rfl) :
    PE X (.Call (.Name x p) (e :: es) [] pos) (tMakeV C sp dvs E tf t) := by
  refine ⟨fun pins s σ H Q I h => ?_⟩
  refine wpAny_Call_Name_kw (thn (hv.run pins s σ H _ I h) fun u s0 ⟨v, H0, I0, rv, ev, h0⟩ => ?_)
  subst ev
  obtain rfl : u = Value.ref C := rv
  refine PySem.W.callWith_K (h₀ := X.base) I.ok.mod.kin M.kp (thn (ha.run pos pins s0 σ H0 _ I0 h0) fun us s1 ⟨vs, H1, I1, r, q⟩ => ⟨I1.kIn, ?_⟩) he hpl
  exact run_make M F hr hb hd hx I1 r q
/-! ### small lemmas -/
theorem szl {n : Nat} (h : n ≤ 100000) : n ≤ sizeLine := Nat.le_trans h (by decide)
theorem szt {n : Nat} (h : n < 100000) : n < sizeLine := Nat.lt_of_lt_of_le h (by decide)
theorem asg {te : TE} {g : TG} {D : Ends} {σ : L2.St} {H : Hp} (R : V → Hp → Prop) (hi : ∀ Q' : VK, (∀ v H1, R v H1 → Q' v H1) → te σ H Q') (h : ∀ v H1, R v H1 → g v σ H1 D.nx) : tAsg te g D σ H := hi _ h
theorem retC {te : TE} {D : Ends} {σ : L2.St} {H : Hp} (R : V → Hp → Prop) (hi : ∀ Q' : VK, (∀ v H1, R v H1 → Q' v H1) → te σ H Q') (h : ∀ v H1, R v H1 → D.rt v H1) : tRet te D σ H := hi _ h
/-- a guard whose test never holds -/
theorem guardF {c : TT} {t rest : TS} {D : Ends} {σ : L2.St} {H : Hp} (R : Hp → Prop) (hc : ∀ Q' : Bool → Hp → Prop, (∀ H', R H' → Q' false H') → c σ H Q') (h : ∀ H', R H' → rest D σ H') : tSeq (tIfS c t tNext) rest D σ H := hc _ fun H' r => iteF (h H' r)
theorem same_new {H : Hp} {p : Addr} {o : HO} (h : H p = none) : Same H (upd H p o) := fun b u e => by
  rw [upd_ne (ne_of_none e h)]
  exact e
theorem same_mut {H H' : Hp} {p : Addr} {o : HO} (s : Same H H') (h : H p = none) : Same H (upd H' p o) := fun b u e => by
  rw [upd_ne (ne_of_none e h)]
  exact s b u e
theorem same_sqt {K : PySem.W.Frag} {H H' : Hp} {q : Addr} {xs : List V} (s : Same H H') (h : SqT K H q xs) : SqT K H' q xs := by
  rcases h with (h | ⟨ob, h⟩) | h
  · exact .inl (.inl (s _ _ h))
  · exact .inl (.inr ⟨ob, s _ _ h⟩)
  · exact .inr h
theorem same_sql {K : PySem.W.Frag} {H H' : Hp} {q : Addr} {xs : List V} (s : Same H H') (h : SqL K H q xs) : SqL K H' q xs := s.seq h
theorem sql_upd {K : PySem.W.Frag} {H : Hp} {p q : Addr} {o : HO} {xs : List V} (h : SqL K H q xs) (ne : q ≠ p) : SqL K (upd H p o) q xs := by
  rcases h with (h | ⟨ob, h⟩) | h
  · exact .inl (.inl (by rw [upd_ne ne]; exact h))
  · exact .inl (.inr ⟨ob, by rw [upd_ne ne]; exact h⟩)
  · exact .inr h
theorem sqt_upd {K : PySem.W.Frag} {H : Hp} {p q : Addr} {o u : HO} {xs : List V} (h : SqT K H q xs) (hp : H p = some o) (ho : ∀ xs, o ≠ .tup xs) (hf : ∀ ob xs, o ≠ .frz ob xs) : SqT K (upd H p u) q xs := by
  rcases h with (h | ⟨ob, h⟩) | h
  · have ne : q ≠ p := ne_of h hp (Ne.symm (ho _))
    exact .inl (.inl (by rw [upd_ne ne]; exact h))
  · have ne : q ≠ p := ne_of h hp (Ne.symm (hf _ _))
    exact .inl (.inr ⟨ob, by rw [upd_ne ne]; exact h⟩)
  · exact .inr h
theorem dstr {a b : Str} : (decide (V.str a = V.str b) = true) = (a = b) := by simp
theorem dint {a b : Int} : (decide (V.int a = V.int b) = true) = (a = b) := by simp
theorem iteNF {a b : V} {A B : Prop} (h : a = b) (q : B) : if (!decide (a = b)) = true then A else B := by
  rw [decide_eq_true h]
  exact iteF q
theorem iteNT {a b : V} {A B : Prop} (h : ¬ a = b) (q : A) : if (!decide (a = b)) = true then A else B := by
  rw [decide_eq_false h]
  exact iteT q
theorem iteDT {a b : V} {A B : Prop} (h : a = b) (q : A) : if decide (a = b) = true then A else B := by
  rw [decide_eq_true h]
  exact iteT q
theorem iteDF {a b : V} {A B : Prop} (h : ¬ a = b) (q : B) : if decide (a = b) = true then A else B := by
  rw [decide_eq_false h]
  exact iteF q
/-- the items of a written tuple -/
theorem sqt_K {K : PySem.W.Frag} {a : Addr} {c : Option Addr} {its : Array Value} {n : Nat} {sl : Array (Option Value)} {xs : List V} (l : K.lookup a = some ⟨.type "tuple", c, .seq its n, sl⟩) (hz : its.size ≤ sizeLine) (r : Vals xs its.toList) : ∀ H, SqT K H a xs := fun _ =>
  .inr ⟨_, its, n, l, rfl, rfl, hz, r⟩
end Ly

set_option maxRecDepth 100000
set_option maxHeartbeats 4000000
namespace K04
open PySem L2 Ly
local macro_rules | `(tactic| walk_at "v") => `(tactic| refine ⟨_, rfl, ?_⟩)
local macro_rules | `(tactic| walk_at "ii") => `(tactic| refine ⟨_, _, rfl, rfl, ?_⟩)
local macro_rules | `(tactic| walk_at "nx") => `(tactic| dsimp only [tNext])
def top (i : Nat) : Stmt := PySem.Challenge.pw_stepblocks_k04_whole_arithmetic.main.body.getD i (.Pass ⟨0, 0, 0, 0⟩)
abbrev s_wall : Stmt := top 0
abbrev s_InvalidText_init : Stmt := inClass (top 3) 0
abbrev s_number_of : Stmt := top 8
abbrev s_is_primitive_text : Stmt := top 9
abbrev s_Block_init : Stmt := inClass (top 10) 0
abbrev s_Primitive_init : Stmt := inClass (top 11) 0
abbrev s_Primitive_parse : Stmt := inClass (top 11) 1
abbrev s_Primitive_str : Stmt := inClass (top 11) 2
abbrev s_Primitive_interface : Stmt := inClass (top 11) 3
abbrev s_Primitive_compute : Stmt := inClass (top 11) 4
abbrev s_law_feed : Stmt := top 13
abbrev s_law_take : Stmt := top 14
abbrev s_law_pick : Stmt := top 15
abbrev s_law_one : Stmt := top 16
abbrev s_law_right : Stmt := top 17
abbrev s_law : Stmt := top 18
/-! ### draws -/
theorem put01 (a b c : V) : ([a, b] : List V).set 0 c = [c, b] := rfl
def FeedAt (H : Hp) (p : Addr) (a b : Int) : Prop := H p = some (.lst [.int a, .int b]) ∧ 0 ≤ a ∧ 0 ≤ b ∧ b < 2305843009213693951
structure Adr where
  law_take : Addr
  law_feed : Addr
  law_pick : Addr
  law_one : Addr
  law_right : Addr
  number_of : Addr
  ipt : Addr
  C : Addr
  CB : Addr
  iB : Addr
  iP : Addr
  parse : Addr
  parseR : Addr
  compute : Addr
  dP : Addr
  es : Array DictEntry
  en : Nat
  mc : Value
/-- the table of the primitives' ports -/
def portsTab : List (Str × List Str × List Str) := [("const", [], ["out"]), ("add", ["a", "b"], ["out"]), ("sub", ["a", "b"], ["out"]), ("mul", ["a", "b"], ["out"]), ("less", ["a", "b"], ["out"]), ("equal", ["a", "b"], ["out"]),
  ("pick", ["c", "a", "b"], ["out"]), ("divide", ["a", "b"], ["quotient", "rest"]), ("delay", ["in"], ["out"])]
def PortsOf (K : PySem.W.Frag) (w : World) (dP : Addr) (n : Str) (ins outs : List Str) : Prop :=
  ∃ t ti tO, KDct K w dP n (.ref t) ∧ (∀ H, SqT K H t [.ref ti, .ref tO]) ∧ (∀ H, SqT K H ti (ins.map V.str)) ∧ (∀ H, SqT K H tO (outs.map V.str))
structure Txt (K : PySem.W.Frag) (w : World) (mg : Str → Option Value) (ad : Adr) : Prop where
  n_len : mg "len" = none
  n_abs : mg "abs" = none
  n_max : mg "max" = none
  n_min : mg "min" = none
  n_range : mg "range" = none
  n_sorted : mg "sorted" = none
  n_isinstance : mg "isinstance" = none
  n_int : mg "int" = none
  n_str : mg "str" = none
  n_tuple : mg "tuple" = none
  n_all : mg "all" = none
  g__law_feed : mg "_law_feed" = some (.ref ad.law_feed)
  k__law_feed : PySem.W.keepIn K (.ref ad.law_feed) = true
  g__law_take : mg "_law_take" = some (.ref ad.law_take)
  k__law_take : PySem.W.keepIn K (.ref ad.law_take) = true
  g__law_pick : mg "_law_pick" = some (.ref ad.law_pick)
  k__law_pick : PySem.W.keepIn K (.ref ad.law_pick) = true
  g__law_one : mg "_law_one" = some (.ref ad.law_one)
  k__law_one : PySem.W.keepIn K (.ref ad.law_one) = true
  g__law_right : mg "_law_right" = some (.ref ad.law_right)
  k__law_right : PySem.W.keepIn K (.ref ad.law_right) = true
  g_is_primitive_text : mg "is_primitive_text" = some (.ref ad.ipt)
  k_is_primitive_text : PySem.W.keepIn K (.ref ad.ipt) = true
  g_number_of : mg "number_of" = some (.ref ad.number_of)
  k_number_of : PySem.W.keepIn K (.ref ad.number_of) = true
  g_Primitive : mg "Primitive" = some (.ref ad.C)
  g_PORTS : mg "PORTS" = some (.ref ad.dP)
  g_MODULUS : ∃ t, mg "MODULUS" = some (.int 4294967296 t)
  cl : Cls K ad.C
  nN : NoAttr K ad.C "name"
  nI : NoAttr K ad.C "inputs"
  nO : NoAttr K ad.C "outputs"
  nC : NoAttr K ad.C "constant"
  nT : NoAttr K ad.C "text"
  mkP : Mk K ad.C ad.iP
  m_compute : Meth K ad.C "compute" ad.compute
  crP : ClX.CRead K ad.C ad.mc
  cm_parse : ClX.CMet K ad.C ad.mc "parse" ad.parseR ad.parse
  d_PORTS : KDict K w ad.dP ad.es ad.en
  ports : ∀ n ins outs, (n, ins, outs) ∈ portsTab → PortsOf K w ad.dP n ins outs
section
variable {P : Program} {w : World} {K : PySem.W.Frag} {mg : Str → Option Value} {base : Heap} {ad : Adr}
theorem sc_law_feed : FnScope ["script", "k", "cell", "digits", "state"] ["script", "k"] (defScope s_law_feed) := ⟨rfl, rfl, rfl, by decide +kernel, rfl, by decide +kernel, by decide +kernel⟩
def spFeed (K : PySem.W.Frag) : Sp := fun vs H Q _ => ∃ (s : Addr) (ns : List Int) (k : Nat), vs = [.ref s, .int k] ∧ SqL K H s (ns.map V.int) ∧ k ≤ 1000 ∧
  ∀ p a b, H p = none → FeedAt (upd H p (.lst [.int a, .int b])) p a b → Q (.ref p) (upd H p (.lst [.int a, .int b]))
theorem ok_feed {f : Addr} {fd : FuncData} (F : Fun K "_law_feed" "_law_feed" s_law_feed f fd) (T : Txt K w mg ad) : FnOk P w K mg base CX0 1 f fd ["script", "k"] (spFeed K) := by
  refine F.ok sc_law_feed (fun vs H Q E h => ?_) (fun cdv A outer s H vs Q E hr h => ?_)
  · obtain ⟨s, ns, k, rfl, _⟩ := h
    rfl
  · obtain ⟨sa, ns, k, rfl, hS, hk, q⟩ := h
    refine ⟨_, (pss_cons (ps_set (i := 2) sc_law_feed.nd rfl (Or.inl rfl) (pe_ifExp (pt_cmpR op_lt (pv 1) (pe_callB (call_lenK K) (by rfl) T.n_len (by decide +kernel) (pa_cons (pv 0) pa_nil)) (nomark _)) (pe_ix (ix_listK K) (pv 0) (pv 1) (fun _ _ => rfl)) (pe_op op_add (pe_op op_mul pe_int (pv 1)) pe_int)))
    (pss_cons (ps_set (i := 3) sc_law_feed.nd rfl (Or.inl rfl) (pe_callB (call_max2 rfl) (by rfl) T.n_max (by decide +kernel) (pa_cons pe_int (pa_cons (pe_op op_sub (pe_callB call_abs (by rfl) T.n_abs (by decide +kernel) (pa_cons (pv 2) pa_nil)) (pe_op op_pow pe_int pe_int)) pa_nil))))
    (pss_cons (ps_set (i := 4) sc_law_feed.nd rfl (Or.inl rfl) (pe_op op_mod (pe_op op_add (pe_op op_add (pe_op op_mul (pv 2) pe_int) (pe_op op_mul pe_int (pv 1))) pe_int) pe_int))
    (pss_one (ps_ret (pe_lst (pa_cons (pv 3) (pa_cons (pv 4) pa_nil)))))))), ?_⟩
    refine asg (fun v H1 => H1 = H ∧ ∃ c : Int, v = .int c) (fun Q' h' => ?_) ?_
    · refine ⟨_, rfl, _, rfl, sa, _, rfl, .inl hS, _, _, rfl, rfl, _, rfl, ite2 (fun hc => ?_) (fun hc => ?_)⟩
      · have hlt : k < ns.length := by simpa using hc
        exact ⟨_, rfl, _, rfl, sa, _, _, _, rfl, rfl, hS, atI_nat (by rw [List.getElem?_map, List.getElem?_eq_getElem hlt]; rfl), h' _ _ ⟨rfl, _, rfl⟩⟩
      · exact ⟨_, rfl, _, _, rfl, rfl, .inl (by omega), _, _, rfl, rfl, h' _ _ ⟨rfl, _, rfl⟩⟩
    rintro _ _ ⟨rfl, c, rfl⟩
    refine ⟨_, rfl, _, rfl, _, _, rfl, rfl, ⟨by omega, by omega, by decide⟩, _, _, rfl, rfl, _, _, rfl, ?_⟩
    refine ⟨_, rfl, _, _, rfl, rfl, .inr (by omega), _, rfl, _, _, rfl, rfl, .inl (by omega), _, _, rfl, rfl, _, _, rfl, rfl, _, _, rfl, rfl, (by decide : (0 : Int) < 2305843009213693951), ?_⟩
    refine ⟨_, rfl, _, rfl, szl (show 2 ≤ 100000 by decide), fun p hp => q p _ _ hp ⟨upd_same, ?_, ?_, ?_⟩⟩
    · split <;> omega
    · omega
    · omega
theorem sc_law_take : FnScope ["feed", "many", "digit"] ["feed", "many"] (defScope s_law_take) := ⟨rfl, rfl, rfl, by decide +kernel, rfl, by decide +kernel, by decide +kernel⟩
/-- a draw: any number below the bound; the feed is another one -/
def spTake : Sp := fun vs H Q _ => ∃ (p : Addr) (many a b : Int), vs = [.ref p, .int many] ∧ FeedAt H p a b ∧ 0 < many ∧ many ≤ 4294967296 ∧
  ∀ d a' b' : Int, 0 ≤ d → d < many → FeedAt (upd H p (.lst [.int a', .int b'])) p a' b' → Q (.int d) (upd H p (.lst [.int a', .int b']))
theorem ok_take {f : Addr} {fd : FuncData} (F : Fun K "_law_take" "_law_take" s_law_take f fd) : FnOk P w K mg base CX0 1 f fd ["feed", "many"] spTake := by
  refine F.ok sc_law_take (fun vs H Q E h => ?_) (fun cdv A outer s H vs Q E hr h => ?_)
  · obtain ⟨p, many, a, b, rfl, _⟩ := h
    rfl
  · obtain ⟨p, many, a, b, rfl, ⟨hf, ha, hb, hb2⟩, hm, hm2, q⟩ := h
    refine ⟨_, (pss_cons (ps_if (pt_cmpR op_gt (pe_ix (ix_listK K) (pv 0) pe_int (fun _ _ => rfl)) pe_int (nomark _)) (pss_cons (ps_set (i := 2) sc_law_take.nd rfl (Or.inl rfl) (pe_op op_mod (pe_ix (ix_listK K) (pv 0) pe_int (fun _ _ => rfl)) (pv 1)))
    (pss_cons (ps_asg (pe_op op_fdivW (pe_ix (ix_listK K) (pv 0) pe_int (fun _ _ => rfl)) (pv 1)) (pg_sub (pv 0) pe_int set_list))
    (pss_one (ps_ret (pv 2))))) pss_nil)
    (pss_cons (ps_asg (pe_op op_mod (pe_op op_add (pe_op op_mul (pe_ix (ix_listK K) (pv 0) pe_int (fun _ _ => rfl)) pe_int) pe_int) pe_int) (pg_sub (pv 0) pe_int set_list))
    (pss_one (ps_ret (pe_op op_mod (pe_op op_fdivW (pe_ix (ix_listK K) (pv 0) pe_int (fun _ _ => rfl)) pe_int) (pv 1)))))), ?_⟩
    have i0 : atI [V.int a, V.int b] (0 : Int) = some (V.int a) := atI_nat (j := 0) rfl
    have i1 : atI [V.int a, V.int b] (1 : Int) = some (V.int b) := atI_nat (j := 1) rfl
    have hdiv : CDivW a many := wide_div (b := 33) hm (by omega) (by decide) (by decide)
    refine ⟨_, rfl, p, _, _, _, rfl, rfl, SqL.of hf, i0, _, _, rfl, rfl, _, rfl, ite2 (fun hc => ?_) (fun hc => ?_)⟩
    · refine ⟨_, rfl, p, _, _, _, rfl, rfl, SqL.of hf, i0, _, rfl, _, _, rfl, rfl, hm, ?_⟩
      refine ⟨_, rfl, p, _, _, _, rfl, rfl, SqL.of hf, i0, _, rfl, _, _, rfl, rfl, hdiv, ?_⟩
      refine ⟨_, rfl, p, _, _, 0, rfl, rfl, hf, rfl, ?_⟩
      refine ⟨_, rfl, q _ _ _ (Int.emod_nonneg _ (by omega)) (Int.emod_lt_of_pos _ hm) ⟨upd_same, Int.ediv_nonneg ha (by omega), hb, hb2⟩⟩
    · refine ⟨_, rfl, p, _, _, _, rfl, rfl, SqL.of hf, i1, _, _, rfl, rfl, .inr (by omega), _, _, rfl, rfl, _, _, rfl, rfl, (by decide : (0 : Int) < 2305843009213693951), ?_⟩
      refine ⟨_, rfl, p, _, _, 1, rfl, rfl, hf, rfl, ?_⟩
      refine ⟨_, rfl, p, _, _, _, rfl, rfl, SqL.of upd_same, atI_nat (j := 1) rfl, _, _, rfl, rfl, ⟨by decide, by decide⟩, _, rfl, _, _, rfl, rfl, hm, ?_⟩
      refine q _ _ _ (Int.emod_nonneg _ (by omega)) (Int.emod_lt_of_pos _ hm) ⟨upd_same, ha, ?_, ?_⟩ <;> omega
theorem sc_law_pick : FnScope ["feed", "some"] ["feed", "some"] (defScope s_law_pick) := ⟨rfl, rfl, rfl, by decide +kernel, rfl, by decide +kernel, by decide +kernel⟩
def spPick (K : PySem.W.Frag) : Sp := fun vs H Q _ => ∃ (p q : Addr) (xs : List V) (a b : Int), vs = [.ref p, .ref q] ∧ FeedAt H p a b ∧ SqL K H q xs ∧ q ≠ p ∧ 0 < xs.length ∧ xs.length ≤ 1000 ∧
  ∀ (v : V) (a' b' : Int), v ∈ xs → FeedAt (upd H p (.lst [.int a', .int b'])) p a' b' → Q v (upd H p (.lst [.int a', .int b']))
theorem ok_pick {f : Addr} {fd fdt : FuncData} (F : Fun K "_law_pick" "_law_pick" s_law_pick f fd) (T : Txt K w mg ad) (G_law_take : FnOk P w K mg base CX0 1 ad.law_take fdt ["feed", "many"] spTake) (b_law_take : Binds K fdt ["feed", "many"] []) : FnOk P w K mg base CX0 2 f fd ["feed", "some"] (spPick K) := by
  refine F.ok sc_law_pick (fun vs H Q E h => ?_) (fun cdv A outer s H vs Q E hr h => ?_)
  · obtain ⟨p, q, xs, a, b, rfl, _⟩ := h
    rfl
  · obtain ⟨p, q, xs, a, b, rfl, hf, hS, ne, h0, h1, k⟩ := h
    refine ⟨_, (pss_one (ps_ret (pe_ix (ix_listK K) (pv 1) (pe_call G_law_take (hr.mono (by decide)) rfl T.g__law_take T.k__law_take b_law_take .nil pass0 (pa_cons (pv 0) (pa_cons (pe_callB (call_lenK K) (by rfl) T.n_len (by decide +kernel) (pa_cons (pv 1) pa_nil)) pa_nil))) (fun _ _ => rfl)))), ?_⟩
    refine ⟨_, rfl, _, rfl, _, rfl, q, xs, rfl, .inl hS, p, _, a, b, rfl, hf, by omega, by omega, fun d a' b' hd0 hd1 hf' => ?_⟩
    have hlt : d.toNat < xs.length := by omega
    have e : d = ((d.toNat : Nat) : Int) := by omega
    refine ⟨q, xs, _, xs[d.toNat], rfl, rfl, sql_upd hS ne, at_of e (List.getElem?_eq_getElem hlt), k _ a' b' (List.getElem_mem hlt) hf'⟩

/-! ### primitives -/
def names8 : List Str := ["add", "sub", "mul", "less", "equal", "pick", "divide"]
theorem names8_ports {n : Str} (h : n ∈ names8) : ∃ ins outs, (n, ins, outs) ∈ portsTab := by
  simp only [names8, List.mem_cons, List.not_mem_nil, or_false] at h
  rcases h with rfl | rfl | rfl | rfl | rfl | rfl | rfl <;> first | exact ⟨["a", "b"], ["out"], by decide +kernel⟩ | exact ⟨["c", "a", "b"], ["out"], by decide +kernel⟩ | exact ⟨["a", "b"], ["quotient", "rest"], by decide +kernel⟩
def fsB (n : Str) (i o : Addr) : List (Str × V) := [("name", .str n), ("inputs", .ref i), ("outputs", .ref o)]
def fsP (n : Str) (i o : Addr) (c : V) (t : Str) : List (Str × V) := [("name", .str n), ("inputs", .ref i), ("outputs", .ref o), ("constant", c), ("text", .str t)]
theorem fsP_name {n i o c t} : (fsP n i o c t).lookup ("name" : Str) = some (.str n) := by kernel_rfl
theorem fsP_const {n i o c t} : (fsP n i o c t).lookup ("constant" : Str) = some c := by kernel_rfl
theorem fsP_text {n i o c t} : (fsP n i o c t).lookup ("text" : Str) = some (.str t) := by kernel_rfl
theorem fsP_compute {n i o c t} : (fsP n i o c t).lookup ("compute" : Str) = none := by kernel_rfl
def fs1 (n : Str) : List (Str × V) := [("name", .str n)]
def fs2 (n : Str) (i : Addr) : List (Str × V) := [("name", .str n), ("inputs", .ref i)]
def fs4 (n : Str) (i o : Addr) (c : V) : List (Str × V) := [("name", .str n), ("inputs", .ref i), ("outputs", .ref o), ("constant", c)]
theorem fsB_put1 {n : Str} : putF "name" (.str n) [] = fs1 n := by kernel_rfl
theorem fsB_put2 {n : Str} {i : Addr} : putF "inputs" (.ref i) (fs1 n) = fs2 n i := by kernel_rfl
theorem fsB_put3 {n : Str} {i o : Addr} : putF "outputs" (.ref o) (fs2 n i) = fsB n i o := by kernel_rfl
theorem fsP_put1 {n : Str} {i o : Addr} {c : V} : putF "constant" c (fsB n i o) = fs4 n i o c := by kernel_rfl
theorem fsP_put2 {n : Str} {i o : Addr} {c : V} {t : Str} : putF "text" (.str t) (fs4 n i o c) = fsP n i o c t := by kernel_rfl
theorem sc_Block_init : FnScope ["self", "name", "inputs", "outputs"] ["self", "name", "inputs", "outputs"] (defScope s_Block_init) := ⟨rfl, rfl, rfl, by decide +kernel, rfl, by decide +kernel, by decide +kernel⟩
def spBI (K : PySem.W.Frag) (C : Addr) : Sp := fun vs H Q _ => ∃ (x dx i o : Addr) (n : Str) (xs ys : List V), vs = [.ref x, .str n, .ref i, .ref o] ∧ H x = some (.ins C dx []) ∧ SqT K H i xs ∧ SqT K H o ys ∧ Q .non (upd H x (.ins C dx (fsB n i o)))
theorem ok_BI {f : Addr} {fd : FuncData} (F : Fun K "__init__" "Block.__init__" s_Block_init f fd) (T : Txt K w mg ad) : FnOk P w K mg base CX0 1 f fd ["self", "name", "inputs", "outputs"] (spBI K ad.C) := by
  refine F.ok sc_Block_init (fun vs H Q E h => ?_) (fun cdv A outer s H vs Q E hr h => ?_)
  · obtain ⟨x, dx, i, o, n, xs, ys, rfl, _⟩ := h
    rfl
  · obtain ⟨x, dx, i, o, n, xs, ys, rfl, hx, hi, ho, k⟩ := h
    refine ⟨_, (pss_cons (ps_fldK K (pv 0) (pv 1) rfl)
    (pss_cons (ps_fldK K (pv 0) (pe_callTy (call_tupleK K) (by rfl) T.n_tuple (by decide +kernel) (pa_cons (pv 2) pa_nil)) rfl)
    (pss_one (ps_fldK K (pv 0) (pe_callTy (call_tupleK K) (by rfl) T.n_tuple (by decide +kernel) (pa_cons (pv 3) pa_nil)) rfl)))), ?_⟩
    have nt : ∀ (fs : List (Str × V)) (xs : List V), HO.ins ad.C dx fs ≠ .tup xs := fun _ _ z => by cases z
    have nf : ∀ (fs : List (Str × V)) ob xs, HO.ins ad.C dx fs ≠ .frz ob xs := fun _ _ _ z => by cases z
    refine ⟨_, rfl, _, rfl, x, _, dx, _, rfl, hx, T.cl, T.nN, (by decide), ?_⟩
    rw [fsB_put1]
    have hx1 : upd H x (.ins ad.C dx (fs1 n)) x = some (.ins ad.C dx (fs1 n)) := upd_same
    have hi1 := sqt_upd (u := .ins ad.C dx (fs1 n)) hi hx (nt _) (nf _)
    have ho1 := sqt_upd (u := .ins ad.C dx (fs1 n)) ho hx (nt _) (nf _)
    refine ⟨_, rfl, _, _, rfl, .inr ⟨hi1, _, rfl, x, _, dx, _, rfl, hx1, T.cl, T.nI, (by show 1 < 1000; decide), ?_⟩⟩
    rw [fsB_put2, upd_upd]
    have ho2 := sqt_upd (u := .ins ad.C dx (fs2 n i)) ho hx (nt _) (nf _)
    refine ⟨_, rfl, _, _, rfl, .inr ⟨ho2, _, rfl, x, _, dx, _, rfl, upd_same, T.cl, T.nO, (by show 2 < 1000; decide), ?_⟩⟩
    rw [fsB_put3, upd_upd]
    exact k
/-- a primitive at x: its name, its constant, its text -/
def PrimAt (K : PySem.W.Frag) (C : Addr) (H : Hp) (x : Addr) (n : Str) (c : V) (t : Str) : Prop := ∃ dx i o, H x = some (.ins C dx (fsP n i o c t)) ∧ ∃ ins outs, (n, ins, outs) ∈ portsTab ∧ SqT K H i (ins.map V.str) ∧ SqT K H o (outs.map V.str)
theorem sc_Primitive_init : SupX.SScope ["self", "name", "constant"] ["self", "name", "constant"] (defScope s_Primitive_init) := ⟨rfl, rfl, rfl, by decide +kernel, rfl, by decide +kernel, by decide +kernel, by decide +kernel, by decide +kernel, by decide +kernel⟩
/-- a primitive without a constant -/
def spPI (K : PySem.W.Frag) (C : Addr) : Sp := fun vs H Q _ => ∃ (x dx : Addr) (n : Str), vs = [.ref x, .str n, .non] ∧ H x = some (.ins C dx []) ∧ n ∈ names8 ∧ ∀ i o, (∃ ins outs, (n, ins, outs) ∈ portsTab ∧ (∀ H, SqT K H i (ins.map V.str)) ∧ ∀ H, SqT K H o (outs.map V.str)) → Q .non (upd H x (.ins C dx (fsP n i o .non n)))
theorem ok_PI {f cc cda : Addr} {fd fdB : FuncData} (F : SupX.FunS P K mg "__init__" "Primitive.__init__" s_Primitive_init ad.C f cc cda ad.iB "self" fd) (T : Txt K w mg ad) (G_B : FnOk P w K mg base CX0 1 ad.iB fdB ["self", "name", "inputs", "outputs"] (spBI K ad.C)) (b_B : Binds K fdB ["self", "name", "inputs", "outputs"] []) :
    FnOk P w K mg base CX0 2 f fd ["self", "name", "constant"] (spPI K ad.C) := by
  refine F.ok (k := 1) (rest := (defBody s_Primitive_init).drop 1) sc_Primitive_init rfl rfl G_B (by decide) b_B (fun vs H Q E h => ?_) (fun A outer s H vs Q E hr h => ?_) (fun _ _ => rfl) (fun _ _ => rfl) (fun _ h => by unfold interactive; rw [h]; rfl) (fun _ _ => rfl) (fun _ _ => rfl)
  · obtain ⟨x, dx, n, rfl, _⟩ := h
    rfl
  · obtain ⟨x, dx, n, rfl, hx, hn, k⟩ := h
    refine ⟨x, dx, [], _, _, rfl, hx, (pa_cons (pv 1) (pa_cons (pe_ix (ix_tupK K) (pe_ix (ix_kdictK K w) (pe_glob (v := .ref ad.dP) rfl T.g_PORTS rfl) (pv 1) (fun _ _ => rfl)) pe_int (fun _ _ => rfl)) (pa_cons (pe_ix (ix_tupK K) (pe_ix (ix_kdictK K w) (pe_glob (v := .ref ad.dP) rfl T.g_PORTS rfl) (pv 1) (fun _ _ => rfl)) pe_int (fun _ _ => rfl)) pa_nil))), (pss_cons (ps_fldK K (pv 0) (pv 2) rfl)
    (pss_one (ps_fldK K (pv 0) (pe_ifExp (pt_cmpR op_isN (pv 2) pe_non (nomark _)) (pv 1) (pe_op op_add_str (pe_op op_add_str (pv 1) pe_str) (pe_callTy call_str_int (by rfl) T.n_str (by decide +kernel) (pa_cons (pv 2) pa_nil)))) rfl))), ?_⟩
    obtain ⟨ins, outs, hp⟩ := names8_ports hn
    obtain ⟨t, ti, tO, hd, ht, hi, ho⟩ := T.ports _ _ _ hp
    refine ⟨_, rfl, _, rfl, ad.dP, n, .ref t, rfl, rfl, hd, _, _, _, _, rfl, rfl, ht _, atI_nat (j := 0) rfl, ?_⟩
    refine ⟨_, rfl, ad.dP, n, .ref t, rfl, rfl, hd, _, _, _, _, rfl, rfl, ht _, atI_nat (j := 1) rfl, ?_⟩
    refine ⟨x, dx, ti, tO, n, _, _, rfl, hx, hi _, ho _, ?_⟩
    refine ⟨_, rfl, _, rfl, x, _, dx, _, rfl, upd_same, T.cl, T.nC, (by show 3 < 1000; decide), ?_⟩
    rw [fsP_put1, upd_upd]
    refine ⟨_, rfl, rfl, _, rfl, iteT ⟨_, rfl, _, rfl, x, _, dx, _, rfl, upd_same, T.cl, T.nT, (by show 4 < 1000; decide), ?_⟩⟩
    rw [fsP_put2, upd_upd]
    exact k _ _ ⟨_, _, hp, hi, ho⟩

/-! ### parse -/
/-- a def that is never called here -/
def spDead : Sp := fun _ _ _ _ => False
theorem dead_ok {f : Addr} {fd : FuncData} : FnOk P w K mg base CX0 1 f fd ["word"] spDead := ⟨fun _ _ _ _ h => h.elim, fun _ _ _ _ _ _ _ _ _ _ _ _ _ h => h.elim⟩
theorem sc_is_primitive_text : FnScope ["text", "words"] ["text"] (defScope s_is_primitive_text) := ⟨rfl, rfl, rfl, by decide +kernel, rfl, by decide +kernel, by decide +kernel⟩
theorem n8_split : ∀ n ∈ names8, Txt.split n " " = [n] := by decide +kernel
theorem n8_cd : ∀ n ∈ names8, inV (.str n) [.str "const", .str "delay"] = false := by decide +kernel
theorem n8_len : ∀ n ∈ names8, n.length ≤ 10 := by decide +kernel
def spIpt : Sp := fun vs H Q _ => ∃ n : Str, vs = [.str n] ∧ n ∈ names8 ∧ ∀ H', Same H H' → Q (.bl true) H'
theorem ok_ipt {f : Addr} {fd fdN : FuncData} (F : Fun K "is_primitive_text" "is_primitive_text" s_is_primitive_text f fd) (T : Txt K w mg ad) (bN : Binds K fdN ["word"] []) : FnOk P w K mg base CX0 2 f fd ["text"] spIpt := by
  refine F.ok sc_is_primitive_text (fun vs H Q E h => ?_) (fun cdv A outer s H vs Q E hr h => ?_)
  · obtain ⟨n, rfl, _⟩ := h
    rfl
  · obtain ⟨n, rfl, hn, k⟩ := h
    refine ⟨_, (pss_cons (ps_set (i := 1) sc_is_primitive_text.nd rfl (Or.inl rfl) (pe_split (pv 0) pe_str))
    (pss_cons (ps_if (pt_cmpR (op_in_seqK K) (pe_ix (ix_listK K) (pv 1) pe_int (fun _ _ => rfl)) (pe_tup (pa_cons pe_str (pa_cons pe_str pa_nil))) (by rfl)) (pss_one (ps_ret (pe_and (pe_cmpR op_eq (pe_callB (call_lenK K) (by rfl) T.n_len (by decide +kernel) (pa_cons (pv 1) pa_nil)) pe_int (nomark _)) (pe_one (pe_cmpR op_notN (pe_call (dead_ok (f := ad.number_of) (fd := fdN)) (hr.mono (by decide)) rfl T.g_number_of T.k_number_of bN .nil pass0 (pa_cons (pe_ix (ix_listK K) (pv 1) pe_int (fun _ _ => rfl)) pa_nil)) pe_non (nomark _)))))) pss_nil)
    (pss_one (ps_ret (pe_and (pe_cmpR op_eq (pe_callB (call_lenK K) (by rfl) T.n_len (by decide +kernel) (pa_cons (pv 1) pa_nil)) pe_int (nomark _)) (pe_one (pe_cmpR (op_in_kd T.d_PORTS) (pe_ix (ix_listK K) (pv 1) pe_int (fun _ _ => rfl)) (pe_glob (v := .ref ad.dP) rfl T.g_PORTS rfl) (by rfl)))))))), ?_⟩
    obtain ⟨ins, outs, hp⟩ := names8_ports hn
    obtain ⟨t, ti, tO, ⟨_, _, u, hl, hkl, hns, _⟩, _⟩ := T.ports _ _ _ hp
    refine ⟨_, rfl, ⟨n, rfl⟩, n, " ", rfl, rfl, (by decide +kernel), szl (by have := n8_len n hn; omega), fun p hp0 => ?_⟩
    rw [n8_split n hn]
    refine ⟨_, rfl, p, _, _, _, rfl, rfl, SqL.of upd_same, atI_nat (j := 0) rfl, szl (show 2 ≤ 100000 by decide), fun q hq => ?_⟩
    have nqp : p ≠ q := ne_of_none upd_same hq
    refine ⟨q, _, rfl, .inr (SqT.of upd_same), rfl, rfl, _, rfl, ?_⟩
    show if (if false = true then !inV (V.str n) [V.str "const", V.str "delay"] else inV (V.str n) [V.str "const", V.str "delay"]) = true then _ else _
    rw [n8_cd n hn]
    refine iteF ?_
    have hp2 : upd (upd H p (.lst [V.str n])) q (.tup [V.str "const", V.str "delay"]) p = some (.lst [V.str n]) := by rw [upd_ne nqp]; exact upd_same
    refine ⟨_, rfl, p, _, rfl, .inl (SqL.of hp2), rfl, _, rfl, iteT ?_⟩
    refine ⟨_, rfl, p, _, _, _, rfl, rfl, SqL.of hp2, atI_nat (j := 0) rfl, n, _, rfl, rfl, hns, ?_⟩
    exact k _ ((same_new hp0).trans (same_new hq))
theorem sc_Primitive_parse : FnScope ["cls", "text", "words"] ["cls", "text"] (defScope s_Primitive_parse) := ⟨rfl, rfl, rfl, by decide +kernel, rfl, by decide +kernel, by decide +kernel⟩
def spParse (K : PySem.W.Frag) (C : Addr) : Sp := fun vs H Q _ => ∃ n : Str, vs = [.ref C, .str n] ∧ n ∈ names8 ∧ ∀ x H', Same H H' → PrimAt K C H' x n .non n → Q (.ref x) H'
theorem ok_parse {f : Addr} {fd fdI fdPI fdN : FuncData} (F : Fun K "parse" "Primitive.parse" s_Primitive_parse f fd) (T : Txt K w mg ad) (bN : Binds K fdN ["word"] []) (G_ipt : FnOk P w K mg base CX0 2 ad.ipt fdI ["text"] spIpt) (b_ipt : Binds K fdI ["text"] [])
    (G_PI : FnOk P w K mg base CX0 2 ad.iP fdPI ["self", "name", "constant"] (spPI K ad.C)) (b_PI : Binds K fdPI ["self", "name", "constant"] []) : FnOk P w K mg base CX0 4 f fd ["cls", "text"] (spParse K ad.C) := by
  refine F.ok sc_Primitive_parse (fun vs H Q E h => ?_) (fun cdv A outer s H vs Q E hr h => ?_)
  · obtain ⟨n, rfl, _⟩ := h
    rfl
  · obtain ⟨n, rfl, hn, k⟩ := h
    refine ⟨_, (pss_cons (ps_if (pt_not (pt_val (pe_call G_ipt (hr.mono (by decide)) rfl T.g_is_primitive_text T.k_is_primitive_text b_ipt .nil pass0 (pa_cons (pv 1) pa_nil)))) (pss_one ps_never) pss_nil)
    (pss_cons (ps_set (i := 2) sc_Primitive_parse.nd rfl (Or.inl rfl) (pe_split (pv 1) pe_str))
    (pss_one (ps_ret (pe_makeV T.mkP G_PI (hr.mono (by decide)) (pv 0) b_PI .nil pass0 (pa_cons (pe_ix (ix_listK K) (pv 2) pe_int (fun _ _ => rfl)) (pa_cons (pe_ifExp (pt_cmpR op_eq (pe_callB (call_lenK K) (by rfl) T.n_len (by decide +kernel) (pa_cons (pv 2) pa_nil)) pe_int (nomark _)) (pe_call (dead_ok (f := ad.number_of) (fd := fdN)) (hr.mono (by decide)) rfl T.g_number_of T.k_number_of bN .nil pass0 (pa_cons (pe_ix (ix_listK K) (pv 2) pe_int (fun _ _ => rfl)) pa_nil)) pe_non) pa_nil))))))), ?_⟩
    refine ⟨_, rfl, n, rfl, hn, fun H1 s1 => ⟨_, rfl, iteF ?_⟩⟩
    refine ⟨_, rfl, ⟨n, rfl⟩, n, " ", rfl, rfl, (by decide +kernel), szl (by have := n8_len n hn; omega), fun p hp0 => ?_⟩
    rw [n8_split n hn]
    refine ⟨_, rfl, rfl, _, rfl, p, _, _, _, rfl, rfl, SqL.of upd_same, atI_nat (j := 0) rfl, _, rfl, p, _, rfl, .inl (SqL.of upd_same), rfl, _, rfl, iteF ?_⟩
    intro x dx hx hdx ne
    have s2 : Same H1 (upd (upd (upd H1 p (.lst [V.str n])) dx (.own x)) x (.ins ad.C dx [])) := ((same_new hp0).trans (same_new hdx)).trans (same_new (by rw [upd_ne ne.symm]; exact hx))
    refine ⟨x, dx, n, rfl, upd_same, hn, fun i o ⟨ins, outs, hp, hi, ho⟩ => ⟨rfl, ?_⟩⟩
    rw [upd_upd]
    refine k x _ (s1.trans (((same_new hp0).trans (same_new hdx)).trans (same_new (by rw [upd_ne ne.symm]; exact hx)))) ⟨dx, i, o, upd_same, ins, outs, hp, hi _, ho _⟩

/-! ### compute -/
def names6 : List Str := ["add", "sub", "mul", "less", "equal", "divide"]
def op2 (n : Str) (a b : Int) : List Int :=
  if n = "divide" then (if b = 0 then [0, a] else [a / b, a % b]) else if n = "less" then [if a < b then 1 else 0] else if n = "equal" then [if a = b then 1 else 0]
  else if n = "add" then [(a + b) % 4294967296] else if n = "sub" then [(a - b) % 4294967296] else [(a * b) % 4294967296]
def R32 (z : Int) : Prop := 0 ≤ z ∧ z < 4294967296
theorem sc_Primitive_compute : FnScope ["self", "values", "left", "right", "results"] ["self", "values"] (defScope s_Primitive_compute) := ⟨rfl, rfl, rfl, by decide +kernel, rfl, by decide +kernel, by decide +kernel⟩
def spComp (K : PySem.W.Frag) (C : Addr) : Sp := fun vs H Q _ => ∃ (x t : Addr) (n : Str), vs = [.ref x, .ref t] ∧ PrimAt K C H x n .non n ∧
  ((n = "pick" ∧ ∃ c a b : Int, SqT K H t [.int c, .int a, .int b] ∧ ∀ p H', Same H H' → H' p = some (.tup [.int (if c = 0 then b else a)]) → Q (.ref p) H') ∨
   (n ∈ names6 ∧ ∃ a b : Int, SqT K H t [.int a, .int b] ∧ R32 a ∧ R32 b ∧ ∀ p H', Same H H' → H' p = some (.tup ((op2 n a b).map V.int)) → Q (.ref p) H'))
theorem n6_no {n : Str} (h : n ∈ names6) : ¬ n = "const" ∧ ¬ n = "pick" := by
  simp only [names6, List.mem_cons, List.not_mem_nil, or_false] at h
  rcases h with rfl | rfl | rfl | rfl | rfl | rfl <;> decide +kernel
theorem n6_rest {n : Str} (h : n ∈ names6) (h1 : ¬ n = "divide") (h2 : ¬ n = "less") (h3 : ¬ n = "equal") : n = "add" ∨ n = "sub" ∨ n = "mul" := by
  simp only [names6, List.mem_cons, List.not_mem_nil, or_false] at h
  rcases h with h | h | h | h | h | h
  · exact .inl h
  · exact .inr (.inl h)
  · exact .inr (.inr h)
  · exact absurd h h2
  · exact absurd h h3
  · exact absurd h h1
theorem same_prim {H H' : Hp} {C x : Addr} {n t : Str} {c : V} (s : Same H H') (h : PrimAt K C H x n c t) : PrimAt K C H' x n c t := by
  obtain ⟨dx, i, o, hx, ins, outs, hp, hi, ho⟩ := h
  exact ⟨dx, i, o, s _ _ hx, ins, outs, hp, same_sqt s hi, same_sqt s ho⟩
theorem ok_compute {f : Addr} {fd : FuncData} (F : Fun K "compute" "Primitive.compute" s_Primitive_compute f fd) (T : Txt K w mg ad) : FnOk P w K mg base CX0 2 f fd ["self", "values"] (spComp K ad.C) := by
  obtain ⟨tM, hMOD⟩ := T.g_MODULUS
  refine F.ok sc_Primitive_compute (fun vs H Q E h => ?_) (fun cdv A outer s H vs Q E hr h => ?_)
  · obtain ⟨x, t, n, rfl, _⟩ := h
    rfl
  · obtain ⟨x, t, n, rfl, ⟨dx, i, o, hx, _⟩, h⟩ := h
    refine ⟨_, (pss_cons (ps_if (pt_cmpR op_eq (pe_fldK K (pv 0) rfl) pe_str (nomark _)) (pss_one (ps_ret (pe_tup (pa_cons (pe_fldK K (pv 0) rfl) pa_nil)))) pss_nil)
    (pss_cons (ps_if (pt_cmpR op_eq (pe_fldK K (pv 0) rfl) pe_str (nomark _)) (pss_one (ps_ret (pe_tup (pa_cons (pe_ifExp (pt_cmpR op_eq (pe_ix (ix_tupK K) (pv 1) pe_int (fun _ _ => rfl)) pe_int (nomark _)) (pe_ix (ix_tupK K) (pv 1) pe_int (fun _ _ => rfl)) (pe_ix (ix_tupK K) (pv 1) pe_int (fun _ _ => rfl))) pa_nil)))) pss_nil)
    (pss_cons (ps_asg (pv 1) (pg_tup (by rfl) (pgs_cons (pg_name (i := 2) sc_Primitive_compute.nd rfl (Or.inl rfl)) (pgs_cons (pg_name (i := 3) sc_Primitive_compute.nd rfl (Or.inl rfl)) pgs_nil))))
    (pss_cons (ps_if (pt_cmpR op_eq (pe_fldK K (pv 0) rfl) pe_str (nomark _)) (pss_one (ps_ret (pe_ifExp (pt_cmpR op_eq (pv 3) pe_int (nomark _)) (pe_tup (pa_cons pe_int (pa_cons (pv 2) pa_nil))) (pe_tup (pa_cons (pe_op op_fdivW (pv 2) (pv 3)) (pa_cons (pe_op op_mod (pv 2) (pv 3)) pa_nil)))))) pss_nil)
    (pss_cons (ps_if (pt_cmpR op_eq (pe_fldK K (pv 0) rfl) pe_str (nomark _)) (pss_one (ps_ret (pe_tup (pa_cons (pe_callTy call_int1 (by rfl) T.n_int (by decide +kernel) (pa_cons (pe_cmpR op_lt (pv 2) (pv 3) (nomark _)) pa_nil)) pa_nil)))) pss_nil)
    (pss_cons (ps_if (pt_cmpR op_eq (pe_fldK K (pv 0) rfl) pe_str (nomark _)) (pss_one (ps_ret (pe_tup (pa_cons (pe_callTy call_int1 (by rfl) T.n_int (by decide +kernel) (pa_cons (pe_cmpR op_eq (pv 2) (pv 3) (nomark _)) pa_nil)) pa_nil)))) pss_nil)
    (pss_cons (ps_set (i := 4) sc_Primitive_compute.nd rfl (Or.inl rfl) (pe_disp (pps_cons pe_str (pe_op op_add (pv 2) (pv 3)) (pps_cons pe_str (pe_op op_sub (pv 2) (pv 3)) (pps_cons pe_str (pe_op op_mul (pv 2) (pv 3)) pps_nil))) (by rfl) (by rfl) (fun z => by cases z) (by decide)))
    (pss_one (ps_ret (pe_tup (pa_cons (pe_op op_mod (pe_dget (hu_of hr) (pv 4) (pe_fldK K (pv 0) rfl) (fun _ _ => rfl)) (pe_glob (v := .int 4294967296) rfl hMOD ⟨_, rfl⟩)) pa_nil))))))))))), ?_⟩
    rcases h with ⟨rfl, c, a, b, hS, k⟩ | ⟨hn, a, b, hS, ha, hb, k⟩
    · refine ⟨_, rfl, x, _, dx, _, _, rfl, hx, T.cl, T.nN, fsP_name, rfl, _, rfl, ite2 (fun z => absurd z (by decide +kernel)) fun _ => ?_⟩
      refine ⟨_, rfl, x, _, dx, _, _, rfl, hx, T.cl, T.nN, fsP_name, rfl, _, rfl, ite2 (fun _ => ?_) fun z => absurd (decide_eq_true rfl) z⟩
      refine ⟨_, rfl, t, _, _, _, rfl, rfl, hS, atI_nat (j := 0) rfl, rfl, _, rfl, ite2 (fun z => ?_) fun z => ?_⟩
      · have e : c = 0 := by simpa using z
        refine ⟨_, rfl, t, _, _, _, rfl, rfl, hS, atI_nat (j := 2) rfl, szl (show 1 ≤ 100000 by decide), fun p hp => k p _ (same_new hp) (by rw [upd_same, if_pos e])⟩
      · have e : ¬ c = 0 := by simpa using z
        refine ⟨_, rfl, t, _, _, _, rfl, rfl, hS, atI_nat (j := 1) rfl, szl (show 1 ≤ 100000 by decide), fun p hp => k p _ (same_new hp) (by rw [upd_same, if_neg e])⟩
    · obtain ⟨n1, n2⟩ := n6_no hn
      refine ⟨_, rfl, x, _, dx, _, _, rfl, hx, T.cl, T.nN, fsP_name, rfl, _, rfl, ite2 (fun z => absurd (dstr ▸ z) n1) fun _ => ?_⟩
      refine ⟨_, rfl, x, _, dx, _, _, rfl, hx, T.cl, T.nN, fsP_name, rfl, _, rfl, ite2 (fun z => absurd (dstr ▸ z) n2) fun _ => ?_⟩
      refine ⟨_, rfl, t, _, rfl, hS, rfl, _, _, rfl, _, _, rfl, rfl, ?_⟩
      refine ⟨_, rfl, x, _, dx, _, _, rfl, hx, T.cl, T.nN, fsP_name, rfl, _, rfl, ite2 (fun z => ?_) fun z => ?_⟩
      · have e : n = "divide" := dstr ▸ z
        refine ⟨_, rfl, rfl, _, rfl, ite2 (fun z => ?_) fun z => ?_⟩
        · have e2 : b = 0 := by simpa using z
          refine ⟨_, rfl, szl (show 2 ≤ 100000 by decide), fun p hp => k p _ (same_new hp) ?_⟩
          rw [upd_same, op2, if_pos e, if_pos e2] <;> rfl
        · have e2 : ¬ b = 0 := by simpa using z
          have hb0 : 0 < b := by have := hb.1; omega
          refine ⟨_, rfl, _, rfl, _, _, rfl, rfl, wide_div (b := 32) hb0 (by have := hb.2; omega) (by decide) (by decide), _, rfl, _, rfl, _, _, rfl, rfl, hb0, szl (show 2 ≤ 100000 by decide), fun p hp => k p _ (same_new hp) ?_⟩
          rw [upd_same, op2, if_pos e, if_neg e2] <;> rfl
      have m1 : ¬ n = "divide" := dstr ▸ z
      refine ⟨_, rfl, x, _, dx, _, _, rfl, hx, T.cl, T.nN, fsP_name, rfl, _, rfl, ite2 (fun z => ?_) fun z => ?_⟩
      · have e : n = "less" := dstr ▸ z
        refine ⟨_, rfl, _, rfl, _, _, rfl, rfl, .inr ⟨_, rfl, szl (show 1 ≤ 100000 by decide), fun p hp => k p _ (same_new hp) ?_⟩⟩
        rw [upd_same, op2, if_neg m1, if_pos e]
        simp
      have m2 : ¬ n = "less" := dstr ▸ z
      refine ⟨_, rfl, x, _, dx, _, _, rfl, hx, T.cl, T.nN, fsP_name, rfl, _, rfl, ite2 (fun z => ?_) fun z => ?_⟩
      · have e : n = "equal" := dstr ▸ z
        refine ⟨_, rfl, _, rfl, rfl, .inr ⟨_, rfl, szl (show 1 ≤ 100000 by decide), fun p hp => k p _ (same_new hp) ?_⟩⟩
        rw [upd_same, op2, if_neg m1, if_neg m2, if_pos e]
        simp
      have m3 : ¬ n = "equal" := dstr ▸ z
      intro d hd
      refine ⟨_, rfl, _, rfl, _, _, rfl, rfl, _, rfl, _, rfl, _, _, rfl, rfl, _, rfl, _, rfl, _, _, rfl, rfl, .inl ⟨by have := ha.1; omega, by have := ha.2; omega⟩, upd_same, ?_⟩
      refine ⟨[(Sum.inr "add", .int (a + b)), (Sum.inr "sub", .int (a - b)), (Sum.inr "mul", .int (a * b))], rfl, (by show 3 ≤ 15; decide), ?_⟩
      rw [upd_upd]
      have hx2 : upd H d (.dK (mergeK [] [(Sum.inr "add", .int (a + b)), (Sum.inr "sub", .int (a - b)), (Sum.inr "mul", .int (a * b))])) x = some (.ins ad.C dx (fsP n i o .non n)) := by
        rw [upd_ne (ne_of_none hx hd)]
        exact hx
      have fin : ∀ z : Int, valV (mergeK [] [(Sum.inr "add", .int (a + b)), (Sum.inr "sub", .int (a - b)), (Sum.inr "mul", .int (a * b))]) (Sum.inr n) = some (.int z) → op2 n a b = [z % 4294967296] →
          (tRet (tTup (tCons (tOp (rI (fun _ j => 0 < j) fun i j => .int (i % j)) (tDGet (tVar 4) (tFld K (tVar 0) "name")) (tC (.int 4294967296))) tNil)))
            { nx := fun _ H' => Q .non H', rt := Q } [some (.ref x), some (.ref t), some (.int a), some (.int b), some (.ref d)] (upd H d (.dK (mergeK [] [(Sum.inr "add", .int (a + b)), (Sum.inr "sub", .int (a - b)), (Sum.inr "mul", .int (a * b))]))) := by
        intro z hz ho
        refine ⟨_, rfl, _, rfl, x, _, dx, _, _, rfl, hx2, T.cl, T.nN, fsP_name, d, .int z, rfl, ?_, _, _, rfl, rfl, (by decide : (0 : Int) < 4294967296), szl (show 1 ≤ 100000 by decide), fun p hp => k p _ ((same_new hd).trans (same_new hp)) ?_⟩
        · exact hz ▸ DGet.k (k := Sum.inr n) upd_same
        · rw [upd_same, ho] <;> rfl
      rcases n6_rest hn m1 m2 m3 with rfl | rfl | rfl
      · exact fin (a + b) (by kernel_rfl) (by kernel_rfl)
      · exact fin (a - b) (by kernel_rfl) (by kernel_rfl)
      · exact fin (a * b) (by kernel_rfl) (by kernel_rfl)

/-! ### one operation -/
def oo (n : Str) (a b : Int) : Int := (op2 n a b).headD 0
theorem oo_add (a b : Int) : oo "add" a b = (a + b) % 4294967296 := by kernel_rfl
theorem oo_sub (a b : Int) : oo "sub" a b = (a - b) % 4294967296 := by kernel_rfl
theorem oo_mul (a b : Int) : oo "mul" a b = (a * b) % 4294967296 := by kernel_rfl
theorem oo_less (a b : Int) : oo "less" a b = if a < b then 1 else 0 := by kernel_rfl
theorem oo_equal (a b : Int) : oo "equal" a b = if a = b then 1 else 0 := by kernel_rfl
theorem op2_head {n : Str} (hn : n ∈ names6) (a b : Int) : ∃ r, op2 n a b = oo n a b :: r := by
  unfold oo op2
  repeat' split
  all_goals exact ⟨_, rfl⟩
theorem op2_range {n : Str} {a b : Int} (ha : R32 a) (hb : R32 b) : ∀ z ∈ op2 n a b, R32 z := by
  obtain ⟨a0, a1⟩ := ha
  obtain ⟨b0, b1⟩ := hb
  have md : ∀ z : Int, R32 (z % 4294967296) := fun z => ⟨by omega, by omega⟩
  unfold op2
  intro z hz
  split at hz
  · split at hz
    · simp only [List.mem_cons, List.not_mem_nil, or_false] at hz
      rcases hz with rfl | rfl
      · exact ⟨by decide, by decide⟩
      · exact ⟨a0, a1⟩
    · rename_i hb'
      simp only [List.mem_cons, List.not_mem_nil, or_false] at hz
      rcases hz with rfl | rfl
      · exact ⟨Int.ediv_nonneg a0 b0, Int.lt_of_le_of_lt (Int.ediv_le_self b a0) a1⟩
      · have h1 := Int.emod_nonneg a hb'
        have h2 := Int.emod_lt_of_pos a (show (0 : Int) < b by omega)
        exact ⟨h1, by omega⟩
  all_goals repeat' split at hz
  all_goals (simp only [List.mem_cons, List.not_mem_nil, or_false] at hz; subst hz; first | exact md _ | exact ⟨by decide, by decide⟩)
theorem oo_range {n : Str} {a b : Int} (hn : n ∈ names6) (ha : R32 a) (hb : R32 b) : R32 (oo n a b) := by
  obtain ⟨r, e⟩ := op2_head hn a b
  exact op2_range ha hb _ (by rw [e]; exact List.mem_cons_self)
theorem sc_law_one : FnScope ["name", "one", "other"] ["name", "one", "other"] (defScope s_law_one) := ⟨rfl, rfl, rfl, by decide +kernel, rfl, by decide +kernel, by decide +kernel⟩
def spOne : Sp := fun vs H Q _ => ∃ (n : Str) (a b : Int), vs = [.str n, .int a, .int b] ∧ n ∈ names6 ∧ R32 a ∧ R32 b ∧ ∀ H', Same H H' → Q (.int (oo n a b)) H'
theorem n6_n8 {n : Str} (h : n ∈ names6) : n ∈ names8 := (show ∀ n ∈ names6, n ∈ names8 by decide +kernel) n h
theorem ok_one {f : Addr} {fd fdC : FuncData} (F : Fun K "_law_one" "_law_one" s_law_one f fd) (T : Txt K w mg ad) (G_parse : FnR P w K mg base CX0 4 ad.parse (spParse K ad.C)) (G_compute : FnOk P w K mg base CX0 2 ad.compute fdC ["self", "values"] (spComp K ad.C)) (b_compute : Binds K fdC ["self", "values"] []) :
    FnOk P w K mg base CX0 5 f fd ["name", "one", "other"] spOne := by
  refine F.ok sc_law_one (fun vs H Q E h => ?_) (fun cdv A outer s H vs Q E hr h => ?_)
  · obtain ⟨n, a, b, rfl, _⟩ := h
    rfl
  · obtain ⟨n, a, b, rfl, hn, ha, hb, k⟩ := h
    refine ⟨_, (pss_one (ps_ret (pe_ix (ix_tupK K) (pe_meth (ClX.pe_cmeth (pe_glob (v := .ref ad.C) rfl T.g_Primitive rfl) T.crP T.cm_parse G_parse (hr.mono (by decide)) pass0 (pa_cons (pv 0) pa_nil)) T.cl T.m_compute G_compute (hr.mono (by decide)) b_compute .nil pass0 (pa_cons (pe_tup (pa_cons (pv 1) (pa_cons (pv 2) pa_nil))) pa_nil)) pe_int (fun _ _ => rfl)))), ?_⟩
    refine ⟨rfl, _, rfl, n, rfl, n6_n8 hn, fun x H1 s1 hx => ?_⟩
    obtain ⟨dx, i, o, hx0, _⟩ := id hx
    refine ⟨x, dx, _, rfl, hx0, fsP_compute, _, rfl, _, rfl, szl (show 2 ≤ 100000 by decide), fun t ht => ?_⟩
    have st : Same H1 (upd H1 t (.tup [V.int a, V.int b])) := same_new ht
    refine ⟨x, t, n, rfl, same_prim st hx, .inr ⟨hn, a, b, SqT.of upd_same, ha, hb, fun p H2 s2 hp => ?_⟩⟩
    obtain ⟨r, e⟩ := op2_head hn a b
    refine ⟨p, _, _, _, rfl, rfl, SqT.of hp, atI_nat (j := 0) (by rw [e]; rfl), k _ ((s1.trans st).trans s2)⟩

/-! ### the law's sums -/
theorem ar1 {a b : Int} (ha : R32 a) (hb : R32 b) : oo "sub" (oo "add" a b) b = a := by
  rw [oo_add, oo_sub]; unfold R32 at *; omega
theorem ar2 {a b : Int} (ha : R32 a) (hb : R32 b) : oo "add" (oo "sub" a b) b = a := by
  rw [oo_add, oo_sub]; unfold R32 at *; omega
theorem ar3 {n : Str} (h : n = "add" ∨ n = "mul" ∨ n = "equal") (a b : Int) : oo n a b = oo n b a := by
  rcases h with rfl | rfl | rfl
  · rw [oo_add, oo_add, Int.add_comm]
  · rw [oo_mul, oo_mul, Int.mul_comm]
  · rw [oo_equal, oo_equal]
    by_cases h : a = b
    · rw [if_pos h, if_pos h.symm]
    · rw [if_neg h, if_neg (Ne.symm h)]
def quo (a b : Int) : Int := if b = 0 then 0 else a / b
def rst (a b : Int) : Int := if b = 0 then a else a % b
theorem op2_div (a b : Int) : op2 "divide" a b = [quo a b, rst a b] := by
  show (if b = 0 then [0, a] else [a / b, a % b]) = _
  unfold quo rst
  split <;> rfl
theorem qr_range {a b : Int} (ha : R32 a) (hb : R32 b) : R32 (quo a b) ∧ R32 (rst a b) := by
  have h := op2_range (n := "divide") ha hb
  rw [op2_div] at h
  exact ⟨h _ (by simp), h _ (by simp)⟩
theorem ar4 {a b : Int} (ha : R32 a) (hb : R32 b) : oo "add" (oo "mul" (quo a b) b) (rst a b) = a := by
  rw [oo_add, oo_mul]
  have e : quo a b * b + rst a b = a := by
    unfold quo rst
    split
    · rw [Int.zero_mul, Int.zero_add]
    · rw [Int.mul_comm]
      exact Int.mul_ediv_add_emod a b
  rw [Int.emod_add_emod]
  rw [e]
  unfold R32 at ha
  omega
theorem ar5 {a b : Int} (ha : R32 a) (hb : R32 b) (h : ¬ b = 0) : oo "less" (rst a b) b = 1 := by
  rw [oo_less]
  unfold rst
  rw [if_neg h]
  unfold R32 at *
  have := Int.emod_lt_of_pos a (show (0 : Int) < b by omega)
  rw [if_pos this]
theorem ar6 (a b : Int) : [oo "less" a b, oo "less" b a, oo "equal" a b].Perm [0, 0, 1] := by
  rw [oo_less, oo_less, oo_equal]
  rcases Int.lt_trichotomy a b with h | h | h
  · rw [if_pos h, if_neg (by omega), if_neg (by omega)]
    exact (by decide)
  · rw [if_neg (by omega), if_neg (by omega), if_pos h]
  · rw [if_neg (by omega), if_pos h, if_neg (by omega)]
    exact (by decide)
theorem ar7 (a b c : Int) : oo "mul" (oo "add" a b) c = oo "add" (oo "mul" a c) (oo "mul" b c) := by
  rw [oo_add, oo_mul, oo_mul, oo_mul, oo_add]
  rw [← Int.add_emod, ← Int.add_mul, Int.mul_emod, Int.emod_emod, ← Int.mul_emod]

theorem sc_law_right : FnScope ["one", "other", "third", "total", "less", "name", "quotient", "rest", "marks", "products", "every", "value"] ["one", "other", "third"] (defScope s_law_right) := ⟨rfl, rfl, rfl, by decide +kernel, rfl, by decide +kernel, by decide +kernel⟩
def spRight : Sp := fun vs H Q _ => ∃ (a b c : Int), vs = [.int a, .int b, .int c] ∧ R32 a ∧ R32 b ∧ R32 c ∧ ∀ H', Same H H' → Q (.bl true) H'
theorem n3_n6 {n : Str} (h : n = "add" ∨ n = "mul" ∨ n = "equal") : n ∈ names6 := by
  rcases h with rfl | rfl | rfl <;> decide +kernel
theorem ok_right {f : Addr} {fd fd1 fdC : FuncData} (F : Fun K "_law_right" "_law_right" s_law_right f fd) (T : Txt K w mg ad) (G_law_one : FnOk P w K mg base CX0 5 ad.law_one fd1 ["name", "one", "other"] spOne) (b_law_one : Binds K fd1 ["name", "one", "other"] [])
    (G_parse : FnR P w K mg base CX0 4 ad.parse (spParse K ad.C)) (G_compute : FnOk P w K mg base CX0 2 ad.compute fdC ["self", "values"] (spComp K ad.C)) (b_compute : Binds K fdC ["self", "values"] []) :
    FnOk P w K mg base CX0 6 f fd ["one", "other", "third"] spRight := by
  refine F.ok sc_law_right (fun vs H Q E h => ?_) (fun cdv A outer s H vs Q E hr h => ?_)
  · obtain ⟨a, b, c, rfl, _⟩ := h
    rfl
  · obtain ⟨a, b, c, rfl, ha, hb, hc, k⟩ := h
    refine ⟨_, (pss_cons (ps_set (i := 3) sc_law_right.nd rfl (Or.inl rfl) (pe_call G_law_one (hr.mono (by decide)) rfl T.g__law_one T.k__law_one b_law_one .nil pass0 (pa_cons pe_str (pa_cons (pv 0) (pa_cons (pv 1) pa_nil)))))
    (pss_cons (ps_set (i := 4) sc_law_right.nd rfl (Or.inl rfl) (pe_call G_law_one (hr.mono (by decide)) rfl T.g__law_one T.k__law_one b_law_one .nil pass0 (pa_cons pe_str (pa_cons (pv 0) (pa_cons (pv 1) pa_nil)))))
    (pss_cons (ps_if (PW.pt (pw_or (pt_cmpR op_ne (pe_call G_law_one (hr.mono (by decide)) rfl T.g__law_one T.k__law_one b_law_one .nil pass0 (pa_cons pe_str (pa_cons (pv 3) (pa_cons (pv 1) pa_nil)))) (pv 0) (nomark _)) (pw_or1 (pt_cmpR op_ne (pe_call G_law_one (hr.mono (by decide)) rfl T.g__law_one T.k__law_one b_law_one .nil pass0 (pa_cons pe_str (pa_cons (pv 4) (pa_cons (pv 1) pa_nil)))) (pv 0) (nomark _))))) (pss_one (ps_ret pe_bl)) pss_nil)
    (pss_cons (ps_for PassesOwn.never rfl (pi_listK K (pe_lst (pa_cons pe_str (pa_cons pe_str (pa_cons pe_str pa_nil))))) (pg_name (i := 5) sc_law_right.nd rfl (Or.inl rfl))
    (pss_one (ps_if (pt_cmpR op_ne (pe_call G_law_one (hr.mono (by decide)) rfl T.g__law_one T.k__law_one b_law_one .nil pass0 (pa_cons (pv 5) (pa_cons (pv 0) (pa_cons (pv 1) pa_nil)))) (pe_call G_law_one (hr.mono (by decide)) rfl T.g__law_one T.k__law_one b_law_one .nil pass0 (pa_cons (pv 5) (pa_cons (pv 1) (pa_cons (pv 0) pa_nil)))) (nomark _)) (pss_one (ps_ret pe_bl)) pss_nil)))
    (pss_cons (ps_asg (pe_meth (ClX.pe_cmeth (pe_glob (v := .ref ad.C) rfl T.g_Primitive rfl) T.crP T.cm_parse G_parse (hr.mono (by decide)) pass0 (pa_cons pe_str pa_nil)) T.cl T.m_compute G_compute (hr.mono (by decide)) b_compute .nil pass0 (pa_cons (pe_tup (pa_cons (pv 0) (pa_cons (pv 1) pa_nil))) pa_nil)) (pg_tup (by rfl) (pgs_cons (pg_name (i := 6) sc_law_right.nd rfl (Or.inl rfl)) (pgs_cons (pg_name (i := 7) sc_law_right.nd rfl (Or.inl rfl)) pgs_nil))))
    (pss_cons (ps_if (pt_cmpR op_ne (pe_call G_law_one (hr.mono (by decide)) rfl T.g__law_one T.k__law_one b_law_one .nil pass0 (pa_cons pe_str (pa_cons (pe_call G_law_one (hr.mono (by decide)) rfl T.g__law_one T.k__law_one b_law_one .nil pass0 (pa_cons pe_str (pa_cons (pv 6) (pa_cons (pv 1) pa_nil)))) (pa_cons (pv 7) pa_nil)))) (pv 0) (nomark _)) (pss_one (ps_ret pe_bl)) pss_nil)
    (pss_cons (ps_if (PW.pt (pw_and (pt_cmpR op_ne (pv 1) pe_int (nomark _)) (pw_and1 (pt_cmpR op_ne (pe_call G_law_one (hr.mono (by decide)) rfl T.g__law_one T.k__law_one b_law_one .nil pass0 (pa_cons pe_str (pa_cons (pv 7) (pa_cons (pv 1) pa_nil)))) pe_int (nomark _))))) (pss_one (ps_ret pe_bl)) pss_nil)
    (pss_cons (ps_set (i := 8) sc_law_right.nd rfl (Or.inl rfl) (pe_lst (pa_cons (pe_call G_law_one (hr.mono (by decide)) rfl T.g__law_one T.k__law_one b_law_one .nil pass0 (pa_cons pe_str (pa_cons (pv 0) (pa_cons (pv 1) pa_nil)))) (pa_cons (pe_call G_law_one (hr.mono (by decide)) rfl T.g__law_one T.k__law_one b_law_one .nil pass0 (pa_cons pe_str (pa_cons (pv 1) (pa_cons (pv 0) pa_nil)))) pa_nil))))
    (pss_cons (ps_expr (pe_bm PySem.F.plainAttrs_list PySem.F.slot_list_append PySem.F.type_list_append mt_append (pv 8) (pa_cons (pe_call G_law_one (hr.mono (by decide)) rfl T.g__law_one T.k__law_one b_law_one .nil pass0 (pa_cons pe_str (pa_cons (pv 0) (pa_cons (pv 1) pa_nil)))) pa_nil)))
    (pss_cons (ps_if (pt_cmpR (op_neDK K hr.units) (pe_callB cr_sorted (by rfl) T.n_sorted (by decide +kernel) (pa_cons (pv 8) pa_nil)) (pe_lst (pa_cons pe_int (pa_cons pe_int (pa_cons pe_int pa_nil)))) (nomark _)) (pss_one (ps_ret pe_bl)) pss_nil)
    (pss_cons (ps_set (i := 9) sc_law_right.nd rfl (Or.inl rfl) (pe_call G_law_one (hr.mono (by decide)) rfl T.g__law_one T.k__law_one b_law_one .nil pass0 (pa_cons pe_str (pa_cons (pe_call G_law_one (hr.mono (by decide)) rfl T.g__law_one T.k__law_one b_law_one .nil pass0 (pa_cons pe_str (pa_cons (pv 0) (pa_cons (pv 2) pa_nil)))) (pa_cons (pe_call G_law_one (hr.mono (by decide)) rfl T.g__law_one T.k__law_one b_law_one .nil pass0 (pa_cons pe_str (pa_cons (pv 1) (pa_cons (pv 2) pa_nil)))) pa_nil)))))
    (pss_cons (ps_if (pt_cmpR op_ne (pe_call G_law_one (hr.mono (by decide)) rfl T.g__law_one T.k__law_one b_law_one .nil pass0 (pa_cons pe_str (pa_cons (pv 3) (pa_cons (pv 2) pa_nil)))) (pv 9) (nomark _)) (pss_one (ps_ret pe_bl)) pss_nil)
    (pss_cons (ps_if (pt_cmpR (op_neDK K hr.units) (pe_meth (ClX.pe_cmeth (pe_glob (v := .ref ad.C) rfl T.g_Primitive rfl) T.crP T.cm_parse G_parse (hr.mono (by decide)) pass0 (pa_cons pe_str pa_nil)) T.cl T.m_compute G_compute (hr.mono (by decide)) b_compute .nil pass0 (pa_cons (pe_tup (pa_cons (pe_ix (ix_listK K) (pv 8) pe_int (fun _ _ => rfl)) (pa_cons (pv 0) (pa_cons (pv 1) pa_nil)))) pa_nil)) (pe_tup (pa_cons (pe_callB (call_min2 rfl) (by rfl) T.n_min (by decide +kernel) (pa_cons (pv 0) (pa_cons (pv 1) pa_nil))) pa_nil)) (nomark _)) (pss_one (ps_ret pe_bl)) pss_nil)
    (pss_cons (ps_set (i := 10) sc_law_right.nd rfl (Or.inl rfl) (pe_lst (pa_cons (pv 3) (pa_cons (pv 6) (pa_cons (pv 7) (pa_cons (pv 9) (pa_cons (pv 4) (pa_cons (pe_call G_law_one (hr.mono (by decide)) rfl T.g__law_one T.k__law_one b_law_one .nil pass0 (pa_cons pe_str (pa_cons (pv 0) (pa_cons (pv 1) pa_nil)))) pa_nil))))))))
    (pss_one (ps_ret (pe_cmpR (op_eqDK K hr.units) (pe_lc (own := [("value", 11)]) rfl sc_law_right.nd (pi_listK K (pv 10)) (blkOk_by (own := [("value", 11)]) (N := ["one", "other", "third", "total", "less", "name", "quotient", "rest", "marks", "products", "every", "value"]) (sc := defScope s_law_right) (by decide +kernel)) (fun _ _ _ _ _ => (pg_name (i := 11) sc_law_right.nd rfl (Or.inl rfl))) (fun _ _ _ _ _ => (pts_one (PW.pt (pw_or (pt_not (pt_val (pe_callB (call_isiK K) (by rfl) T.n_isinstance (by decide +kernel) (pa_cons (pv 11) (pa_cons (pe_bltn (v := .ty "int") rfl T.n_int (by decide +kernel) rfl) pa_nil))))) (pw_or1 (pt_not (pt_chain op_le op_lt pe_int (pv 11) (pe_op op_pow pe_int pe_int)))))))) (fun _ _ _ _ _ => (pv 11))) (pe_lst pa_nil) (nomark _)))))))))))))))))), ?_⟩
    have nA : ("add" : Str) ∈ names6 := by decide +kernel
    have nS : ("sub" : Str) ∈ names6 := by decide +kernel
    have nM : ("mul" : Str) ∈ names6 := by decide +kernel
    have nL : ("less" : Str) ∈ names6 := by decide +kernel
    have nE : ("equal" : Str) ∈ names6 := by decide +kernel
    have nD : ("divide" : Str) ∈ names6 := by decide +kernel
    have rA := oo_range nA ha hb
    have rS := oo_range nS ha hb
    refine ⟨_, rfl, _, rfl, "add", a, b, rfl, nA, ha, hb, fun H1 s1 => ?_⟩
    refine ⟨_, rfl, _, rfl, "sub", a, b, rfl, nS, ha, hb, fun H2 s2 => ?_⟩
    refine ⟨_, rfl, _, rfl, "sub", _, b, rfl, nS, rA, hb, fun H3 s3 => ⟨_, rfl, rfl, _, rfl, iteNF (congrArg V.int (ar1 ha hb)) ?_⟩⟩
    refine ⟨_, rfl, _, rfl, "add", _, b, rfl, nA, rS, hb, fun H4 s4 => ⟨_, rfl, rfl, _, rfl, iteNF (congrArg V.int (ar2 ha hb)) ?_⟩⟩
    -- the loop
    refine ⟨szl (show 3 ≤ 100000 by decide), fun l hl => ⟨l, rfl, ⟨_, SqL.of upd_same⟩, ?_⟩⟩
    refine for_list (K := K) (a := l) (xs := [.str "add", .str "mul", .str "equal"]) (fun i σ H' => Same (upd H4 l (.lst [.str "add", .str "mul", .str "equal"])) H' ∧ ∃ nm : Option V,
      σ = [some (.int a), some (.int b), some (.int c), some (.int (oo "add" a b)), some (.int (oo "sub" a b)), nm, none, none, none, none, none, none]) ⟨Same.refl _, none, rfl⟩ (fun i σ H' _ hp => hp.1.seq (SqL.of upd_same)) ?_ ?_
    · rintro i y σ H' hi ⟨sl, nm, rfl⟩
      obtain ⟨n, rfl, hn⟩ : ∃ n, y = V.str n ∧ (n = "add" ∨ n = "mul" ∨ n = "equal") := by
        have hm := List.mem_of_getElem? hi
        simp only [List.mem_cons, List.not_mem_nil, or_false] at hm
        rcases hm with h | h | h
        · exact ⟨_, h, .inl rfl⟩
        · exact ⟨_, h, .inr (.inl rfl)⟩
        · exact ⟨_, h, .inr (.inr rfl)⟩
      have n6 := n3_n6 hn
      refine ⟨_, rfl, _, rfl, _, rfl, n, a, b, rfl, n6, ha, hb, fun H5 s5 => ?_⟩
      refine ⟨_, rfl, _, rfl, _, rfl, n, b, a, rfl, n6, hb, ha, fun H6 s6 => ⟨rfl, _, rfl, iteNF (congrArg V.int (ar3 hn a b)) ?_⟩⟩
      exact ⟨(sl.trans s5).trans s6, _, rfl⟩
    rintro σ H5 ⟨sl, nm, rfl⟩
    have s5 : Same H H5 := (((s1.trans s2).trans s3).trans s4).trans ((same_new hl).trans sl)
    -- quotient, rest
    refine ⟨rfl, "divide", rfl, n6_n8 nD, fun x H6 s6 hx => ?_⟩
    obtain ⟨dx, ix, ox, hx0, _⟩ := id hx
    refine ⟨x, dx, _, rfl, hx0, fsP_compute, _, rfl, _, rfl, szl (show 2 ≤ 100000 by decide), fun t ht => ?_⟩
    have st : Same H6 (upd H6 t (.tup [V.int a, V.int b])) := same_new ht
    refine ⟨x, t, "divide", rfl, same_prim st hx, .inr ⟨nD, a, b, SqT.of upd_same, ha, hb, fun p H7 s7 hp => ?_⟩⟩
    rw [op2_div] at hp
    obtain ⟨rq, rr⟩ := qr_range ha hb
    refine ⟨p, _, rfl, SqT.of hp, rfl, _, _, rfl, _, _, rfl, rfl, ?_⟩
    have s7' : Same H H7 := s5.trans (s6.trans (st.trans s7))
    have rM := oo_range nM rq hb
    refine ⟨_, rfl, _, rfl, "mul", quo a b, b, rfl, nM, rq, hb, fun H8 s8 => ⟨_, rfl, "add", _, _, rfl, nA, rM, rr, fun H9 s9 => ⟨_, rfl, rfl, _, rfl, iteNF (congrArg V.int (ar4 ha hb)) ?_⟩⟩⟩
    have s9' : Same H H9 := s7'.trans (s8.trans s9)
    walk_at "nx"
    refine guardF (fun H' => Same H9 H') (fun Q' h' => ?_) (fun H10 s10 => ?_)
    · refine ⟨_, rfl, rfl, _, rfl, ite2 (fun z => ?_) (fun z => ?_)⟩
      · have hb0 : ¬ b = 0 := by simpa using z
        refine ⟨_, rfl, _, rfl, "less", _, b, rfl, nL, rr, hb, fun H10 s10 => ⟨rfl, _, rfl, ?_⟩⟩
        rw [decide_eq_true (congrArg V.int (ar5 ha hb hb0))]
        exact h' _ s10
      · exact h' _ (Same.refl _)
    -- marks
    refine ⟨_, rfl, _, rfl, "less", a, b, rfl, nL, ha, hb, fun H11 s11 => ⟨_, rfl, _, rfl, "less", b, a, rfl, nL, hb, ha, fun H12 s12 => ⟨szl (show 2 ≤ 100000 by decide), fun m hm => ?_⟩⟩⟩
    have hm1 : ∀ H', Same (upd H12 m (.lst [V.int (oo "less" a b), V.int (oo "less" b a)])) H' → H' m = some (.lst [V.int (oo "less" a b), V.int (oo "less" b a)]) := fun H' s => s _ _ upd_same
    refine ⟨_, rfl, .inl ⟨rfl, _, SqL.of upd_same⟩, _, rfl, _, rfl, "equal", a, b, rfl, nE, ha, hb, fun H13 s13 => ⟨m, _, _, rfl, rfl, hm1 _ s13, szt (show 2 < 100000 by decide), ?_⟩⟩
    have s13' : Same H H13 := s9'.trans (s10.trans (s11.trans (s12.trans ((same_new hm).trans s13))))
    have hmH : H m = none := (s9'.trans (s10.trans (s11.trans s12))).free hm
    -- sorted(marks) != [0, 0, 1]
    refine ⟨_, rfl, m, [oo "less" a b, oo "less" b a, oo "equal" a b], rfl, SqL.of upd_same, (by show 3 < 64; decide), fun ns q hp hs hq => ?_⟩
    have hns : ns = [0, 0, 1] := List.Perm.eq_of_pairwise (fun x y _ _ h1 h2 => Int.le_antisymm h1 h2) hs (by decide) (hp.trans (ar6 a b))
    subst hns
    refine ⟨szl (show 3 ≤ 100000 by decide), fun q2 hq2 => ?_⟩
    have nq : q ≠ q2 := ne_of_none upd_same hq2
    refine ⟨.list [.int 0, .int 0, .int 1], .list [.int 0, .int 0, .int 1], .lst (SqL.of (by rw [upd_ne nq]; exact upd_same)) (.cons (.int _) (.cons (.int _) (.cons (.int _) .nil))), .lst (SqL.of upd_same) (.cons (.int _) (.cons (.int _) (.cons (.int _) .nil))),
      (by decide +kernel), (by decide +kernel), _, rfl, ?_⟩
    have ev : (!PyData.eqv (.list [.int 0, .int 0, .int 1]) (.list [.int 0, .int 0, .int 1])) = false := by decide +kernel
    rw [ev]
    refine iteF ?_
    walk_at "nx"
    have s14 : Same H (upd (upd (upd H13 m (.lst ([V.int (oo "less" a b), V.int (oo "less" b a)] ++ [V.int (oo "equal" a b)]))) q (.lst (List.map V.int [0, 0, 1]))) q2 (.lst [V.int 0, V.int 0, V.int 1])) := (same_mut s13' hmH).trans ((same_new hq).trans (same_new hq2))
    generalize hH : upd (upd (upd H13 m (.lst ([V.int (oo "less" a b), V.int (oo "less" b a)] ++ [V.int (oo "equal" a b)]))) q (.lst (List.map V.int [0, 0, 1]))) q2 (.lst [V.int 0, V.int 0, V.int 1]) = H14 at s14
    have hm14 : H14 m = some (.lst [V.int (oo "less" a b), V.int (oo "less" b a), V.int (oo "equal" a b)]) := by
      have n1 : m ≠ q := ne_of_none upd_same hq
      have n2 : m ≠ q2 := ne_of_none (by rw [upd_ne n1]; exact upd_same) hq2
      rw [← hH, upd_ne n2, upd_ne n1]
      exact upd_same
    -- products
    have rM1 := oo_range nM ha hc
    have rM2 := oo_range nM hb hc
    refine ⟨_, rfl, _, rfl, "mul", a, c, rfl, nM, ha, hc, fun H15 s15 => ⟨_, rfl, _, rfl, "mul", b, c, rfl, nM, hb, hc, fun H16 s16 => ⟨"add", _, _, rfl, nA, rM1, rM2, fun H17 s17 => ?_⟩⟩⟩
    refine ⟨_, rfl, _, rfl, "mul", _, c, rfl, nM, rA, hc, fun H18 s18 => ⟨_, rfl, rfl, _, rfl, iteNF (congrArg V.int (ar7 a b c)) ?_⟩⟩
    walk_at "nx"
    have s18' : Same H14 H18 := s15.trans (s16.trans (s17.trans s18))
    -- pick
    refine ⟨rfl, "pick", rfl, (by decide +kernel), fun x2 H19 s19 hx2 => ?_⟩
    obtain ⟨dx2, ix2, ox2, hx20, _⟩ := id hx2
    have hm19 : H19 m = some (.lst [V.int (oo "less" a b), V.int (oo "less" b a), V.int (oo "equal" a b)]) := (s18'.trans s19) _ _ hm14
    refine ⟨x2, dx2, _, rfl, hx20, fsP_compute, _, rfl, m, _, _, _, rfl, rfl, SqL.of hm19, atI_nat (j := 0) rfl, _, rfl, _, rfl, szl (show 3 ≤ 100000 by decide), fun t2 ht2 => ?_⟩
    have st2 : Same H19 (upd H19 t2 (.tup [V.int (oo "less" a b), V.int a, V.int b])) := same_new ht2
    refine ⟨x2, t2, "pick", rfl, same_prim st2 hx2, .inl ⟨rfl, _, _, _, SqT.of upd_same, fun p2 H20 s20 hp2 => ?_⟩⟩
    refine ⟨_, rfl, _, rfl, _, _, rfl, szl (show 1 ≤ 100000 by decide), fun q3 hq3 => ?_⟩
    have s20' : Same H H20 := s14.trans (s18'.trans (s19.trans (st2.trans s20)))
    have em : (if oo "less" a b = 0 then b else a) = (if b < a then b else a) := by
      rw [oo_less]
      by_cases h1 : a < b
      · rw [if_pos h1, if_neg (by decide), if_neg (by omega)]
      · rw [if_neg h1, if_pos rfl]
        by_cases h2 : b < a
        · rw [if_pos h2]
        · rw [if_neg h2]; omega
    rw [em] at hp2
    have n3 : p2 ≠ q3 := ne_of_none hp2 hq3
    refine ⟨.tuple [.int (if b < a then b else a)], .tuple [.int (if b < a then b else a)], .tup (SqT.of (by rw [upd_ne n3]; exact hp2)) (.cons (.int _) .nil), .tup (SqT.of upd_same) (.cons (.int _) .nil), (by rfl), (by rfl), _, rfl, ?_⟩
    have ev2 : (!PyData.eqv (.tuple [.int (if b < a then b else a)]) (.tuple [.int (if b < a then b else a)])) = false := by
      rw [PySem.SeqAt.eqv_refl _ (by rfl)]
      rfl
    rw [ev2]
    refine iteF ?_
    walk_at "nx"
    have s21 : Same H (upd H20 q3 (.tup [V.int (if b < a then b else a)])) := s20'.trans (same_new hq3)
    generalize upd H20 q3 (.tup [V.int (if b < a then b else a)]) = H21 at s21
    -- every
    refine ⟨_, rfl, _, rfl, _, rfl, _, rfl, _, rfl, _, rfl, _, rfl, "mul", a, b, rfl, nM, ha, hb, fun H22 s22 => ⟨szl (show 6 ≤ 100000 by decide), fun e he => ?_⟩⟩
    have rQ : ∀ z ∈ [oo "add" a b, quo a b, rst a b, oo "add" (oo "mul" a c) (oo "mul" b c), oo "sub" a b, oo "mul" a b], R32 z := by
      intro z hz
      simp only [List.mem_cons, List.not_mem_nil, or_false] at hz
      rcases hz with rfl | rfl | rfl | rfl | rfl | rfl
      · exact rA
      · exact rq
      · exact rr
      · exact oo_range nA rM1 rM2
      · exact rS
      · exact oo_range nM ha hb
    have h22 : Same H (upd H22 e (.lst [V.int (oo "add" a b), V.int (quo a b), V.int (rst a b), V.int (oo "add" (oo "mul" a c) (oo "mul" b c)), V.int (oo "sub" a b), V.int (oo "mul" a b)])) := (s21.trans s22).trans (same_new he)
    have hE : (upd H22 e (.lst [V.int (oo "add" a b), V.int (quo a b), V.int (rst a b), V.int (oo "add" (oo "mul" a c) (oo "mul" b c)), V.int (oo "sub" a b), V.int (oo "mul" a b)])) e = some (.lst ([oo "add" a b, quo a b, rst a b, oo "add" (oo "mul" a c) (oo "mul" b c), oo "sub" a b, oo "mul" a b].map V.int)) := upd_same
    revert rQ hE
    generalize [oo "add" a b, quo a b, rst a b, oo "add" (oo "mul" a c) (oo "mul" b c), oo "sub" a b, oo "mul" a b] = zs
    intro rQ hE
    generalize upd H22 e (.lst [V.int (oo "add" a b), V.int (quo a b), V.int (rst a b), V.int (oo "add" (oo "mul" a c) (oo "mul" b c)), V.int (oo "sub" a b), V.int (oo "mul" a b)]) = H23 at h22 hE
    refine ⟨_, rfl, e, rfl, ⟨_, SqL.of hE⟩, fun D hD => lc_list (K := K) (a := e) (xs := zs.map V.int) (fun i H' => H' D = some (.lst []) ∧ Same H23 H') ⟨upd_same, same_new hD⟩ (fun i H' _ hp => SqL.of (hp.2 _ _ hE)) ?_ ?_⟩
    · rintro i y H' hi ⟨hD', s'⟩
      obtain ⟨z, rfl, hz⟩ : ∃ z, y = V.int z ∧ z ∈ zs := by
        have hm := List.mem_of_getElem? hi
        obtain ⟨z, h1, h2⟩ := List.mem_map.mp hm
        exact ⟨z, h2.symm, h1⟩
      obtain ⟨z0, z1⟩ := rQ z hz
      refine ⟨rfl, _, rfl, _, _, _, _, true, rfl, .ty _, .base (.int z), (by kernel_rfl), _, rfl, iteF ?_⟩
      refine ⟨_, rfl, _, _, rfl, rfl, _, rfl, ?_⟩
      have d0 : decide (0 ≤ z) = true := decide_eq_true z0
      rw [d0]
      refine iteT ⟨_, _, rfl, rfl, ⟨by decide, by decide, by decide⟩, _, _, rfl, rfl, _, rfl, ?_⟩
      have d1 : decide (z < (2 : Int) ^ Int.toNat 32) = true := decide_eq_true (by show z < 4294967296; exact z1)
      rw [d1]
      exact iteF ⟨hD', s'⟩
    · rintro H' ⟨hD', s'⟩
      refine ⟨Nat.zero_le _, fun q5 hq5 => ?_⟩
      have n5 : D ≠ q5 := ne_of_none hD' hq5
      refine ⟨.list [], .list [], .lst (SqL.of (by rw [upd_ne n5]; exact hD')) .nil, .lst (SqL.of upd_same) .nil, rfl, rfl, ?_⟩
      show Q (V.bl (PyData.eqv (.list []) (.list []))) _
      rw [show PyData.eqv (.list []) (.list []) = true by rfl]
      exact k _ (h22.trans (s'.trans (same_new hq5)))

theorem sc_law : FnScope ["script", "k", "feed", "some", "turn"] ["script"] (defScope s_law) := ⟨rfl, rfl, rfl, by decide +kernel, rfl, by decide +kernel, by decide +kernel⟩
def spLaw (K : PySem.W.Frag) : Sp := fun vs H Q _ => ∃ (a : Addr) (ns : List Int), vs = [.ref a] ∧ SqL K H a (ns.map V.int) ∧ ns.length ≤ 63 ∧ ∀ H', Q (.bl true) H'
theorem ok_law {f : Addr} {fd fdF fdT fdK fdR : FuncData} (F : Fun K "law" "law" s_law f fd) (T : Txt K w mg ad) (G_law_feed : FnOk P w K mg base CX0 1 ad.law_feed fdF ["script", "k"] (spFeed K)) (b_law_feed : Binds K fdF ["script", "k"] [])
    (G_law_take : FnOk P w K mg base CX0 1 ad.law_take fdT ["feed", "many"] spTake) (b_law_take : Binds K fdT ["feed", "many"] []) (G_law_pick : FnOk P w K mg base CX0 2 ad.law_pick fdK ["feed", "some"] (spPick K)) (b_law_pick : Binds K fdK ["feed", "some"] [])
    (G_law_right : FnOk P w K mg base CX0 6 ad.law_right fdR ["one", "other", "third"] spRight) (b_law_right : Binds K fdR ["one", "other", "third"] []) : FnOk P w K mg base CX0 7 f fd ["script"] (spLaw K) := by
  refine F.ok sc_law (fun vs H Q E h => ?_) (fun cdv A outer s H vs Q E hr h => ?_)
  · obtain ⟨a, ns, rfl, _⟩ := h
    rfl
  · obtain ⟨sa, ns, rfl, hS, hl, k⟩ := h
    refine ⟨_, (pss_cons (ps_for PassesOwn.never rfl (pi_range1 (by rfl) T.n_range (pa_cons (pe_callB (call_max2 rfl) (by rfl) T.n_max (by decide +kernel) (pa_cons pe_int (pa_cons (pe_callB (call_min2 rfl) (by rfl) T.n_min (by decide +kernel) (pa_cons pe_int (pa_cons (pe_callB (call_lenK K) (by rfl) T.n_len (by decide +kernel) (pa_cons (pv 0) pa_nil)) pa_nil))) pa_nil))) pa_nil)) (pg_name (i := 1) sc_law.nd rfl (Or.inl rfl))
    (pss_cons (ps_set (i := 2) sc_law.nd rfl (Or.inl rfl) (pe_call G_law_feed (hr.mono (by decide)) rfl T.g__law_feed T.k__law_feed b_law_feed .nil pass0 (pa_cons (pv 0) (pa_cons (pv 1) pa_nil))))
    (pss_cons (ps_set (i := 3) sc_law.nd rfl (Or.inl rfl) (pe_lst (pa_cons pe_int (pa_cons pe_int (pa_cons pe_int (pa_cons (pe_op op_pow pe_int pe_int) (pa_cons (pe_op op_sub (pe_op op_pow pe_int pe_int) pe_int) (pa_cons (pe_call G_law_take (hr.mono (by decide)) rfl T.g__law_take T.k__law_take b_law_take .nil pass0 (pa_cons (pv 2) (pa_cons (pe_op op_pow pe_int pe_int) pa_nil))) (pa_cons (pe_call G_law_take (hr.mono (by decide)) rfl T.g__law_take T.k__law_take b_law_take .nil pass0 (pa_cons (pv 2) (pa_cons pe_int pa_nil))) pa_nil)))))))))
    (pss_one (ps_for PassesOwn.never rfl (pi_range1 (by rfl) T.n_range (pa_cons pe_int pa_nil)) (pg_name (i := 4) sc_law.nd rfl (Or.inl rfl))
    (pss_one (ps_if (pt_not (pt_val (pe_call G_law_right (hr.mono (by decide)) rfl T.g__law_right T.k__law_right b_law_right .nil pass0 (pa_cons (pe_call G_law_pick (hr.mono (by decide)) rfl T.g__law_pick T.k__law_pick b_law_pick .nil pass0 (pa_cons (pv 2) (pa_cons (pv 3) pa_nil))) (pa_cons (pe_call G_law_pick (hr.mono (by decide)) rfl T.g__law_pick T.k__law_pick b_law_pick .nil pass0 (pa_cons (pv 2) (pa_cons (pv 3) pa_nil))) (pa_cons (pe_call G_law_take (hr.mono (by decide)) rfl T.g__law_take T.k__law_take b_law_take .nil pass0 (pa_cons (pv 2) (pa_cons (pe_op op_pow pe_int pe_int) pa_nil))) pa_nil)))))) (pss_one (ps_ret pe_bl)) pss_nil)))))))
    (pss_one (ps_ret pe_bl))), ?_⟩
    refine ⟨_, rfl, sa, _, rfl, .inl hS, _, _, rfl, _, _, rfl, ?_⟩
    have hlen : (ns.map V.int).length ≤ 63 := by rw [List.length_map]; exact hl
    generalize hm : (if (if ((ns.map V.int).length : Int) < 6 then ((ns.map V.int).length : Int) else 6) > 2 then (if ((ns.map V.int).length : Int) < 6 then ((ns.map V.int).length : Int) else 6) else 2) = m
    have hm6 : 2 ≤ m ∧ m ≤ 6 := by
      rw [← hm]
      split <;> (try split) <;> omega
    refine ⟨m, rfl, by omega, by omega, for_range (lo := 0) (n := m.toNat) (fun i σ H' => Same H H' ∧ ∃ x1 x2 x3 x4 : Option V, σ = [some (.ref sa), x1, x2, x3, x4]) ⟨Same.refl _, none, none, none, none, rfl⟩ ?_ ?_⟩
    · rintro i σ H1 hi ⟨s1, x1, x2, x3, x4, rfl⟩
      refine ⟨_, rfl, _, rfl, sa, ns, i, by simp, s1.seq hS, by omega, fun p a b hp hf => ?_⟩
      have s2 : Same H (upd H1 p (.lst [.int a, .int b])) := s1.trans (same_new hp)
      have hpH : H p = none := s1.free hp
      refine ⟨_, _, rfl, rfl, ⟨by decide, by decide, by decide⟩, _, _, rfl, rfl, ⟨by decide, by decide, by decide⟩, _, _, rfl, rfl, ?_⟩
      refine ⟨_, rfl, _, _, rfl, rfl, ⟨by decide, by decide, by decide⟩, p, _, a, b, rfl, hf, by decide, by decide, fun d1 a1 b1 h1 h1' hf1 => ?_⟩
      refine ⟨_, rfl, p, _, a1, b1, rfl, hf1, by decide, by decide, fun d2 a2 b2 h2 h2' hf2 => ⟨szl (show 7 ≤ 100000 by decide), fun l hlp => ?_⟩⟩
      have nlp : l ≠ p := (ne_of_none hf2.1 hlp).symm
      have R : ∀ v ∈ [V.int 0, .int 1, .int 2, .int (2 ^ Int.toNat 31), .int (2 ^ Int.toNat 32 - 1), .int d1, .int d2], ∃ z, v = .int z ∧ R32 z := by
        intro v hv
        have h1'' : d1 < 4294967296 := h1'
        simp only [List.mem_cons, List.not_mem_nil, or_false] at hv
        rcases hv with rfl | rfl | rfl | rfl | rfl | rfl | rfl
        · exact ⟨_, rfl, by decide, by decide⟩
        · exact ⟨_, rfl, by decide, by decide⟩
        · exact ⟨_, rfl, by decide, by decide⟩
        · exact ⟨_, rfl, by decide, by decide⟩
        · exact ⟨_, rfl, by decide, by decide⟩
        · exact ⟨_, rfl, h1, h1''⟩
        · exact ⟨_, rfl, h2, by omega⟩
      have hL0 : (7 : Nat) = [V.int 0, .int 1, .int 2, .int (2 ^ Int.toNat 31), .int (2 ^ Int.toNat 32 - 1), .int d1, .int d2].length := rfl
      revert R hL0
      generalize hxs : [V.int 0, .int 1, .int 2, .int (2 ^ Int.toNat 31), .int (2 ^ Int.toNat 32 - 1), .int d1, .int d2] = xs
      intro R hL0
      refine ⟨8, rfl, by decide, by decide, for_range (lo := 0) (n := 8) (fun j σ H' => Same H H' ∧ (∃ a b, FeedAt H' p a b) ∧ H' l = some (.lst xs) ∧ ∃ x4 : Option V, σ = [some (.ref sa), some (.int (0 + (i : Nat))), some (.ref p), some (.ref l), x4])
        ⟨?_, ⟨a2, b2, ?_, hf2.2⟩, ?_, x4, rfl⟩ ?_ ?_⟩
      · exact ((same_mut (same_mut s2 hpH) hpH)).trans (same_new hlp)
      · rw [upd_ne nlp.symm]
        exact hf2.1
      · exact upd_same
      · rintro j σ H2 hj ⟨s3, ⟨a3, b3, hf3⟩, hl3, x4', rfl⟩
        refine ⟨_, rfl, _, rfl, p, l, xs, a3, b3, rfl, hf3, SqL.of hl3, nlp, by omega, by omega, fun v1 a4 b4 hv1 hf4 => ?_⟩
        obtain ⟨z1, rfl, r1⟩ := R v1 hv1
        have hl4 : upd H2 p (.lst [.int a4, .int b4]) l = some (.lst xs) := by rw [upd_ne nlp]; exact hl3
        refine ⟨_, rfl, _, rfl, p, l, xs, a4, b4, rfl, hf4, SqL.of hl4, nlp, by omega, by omega, fun v2 a5 b5 hv2 hf5 => ?_⟩
        obtain ⟨z2, rfl, r2⟩ := R v2 hv2
        refine ⟨_, rfl, _, _, rfl, rfl, ⟨by decide, by decide, by decide⟩, p, _, a5, b5, rfl, hf5, by decide, by decide, fun d3 a6 b6 h6 h6' hf6 => ?_⟩
        have r3 : R32 d3 := ⟨h6, h6'⟩
        have hl6 : upd (upd (upd H2 p (.lst [.int a4, .int b4])) p (.lst [.int a5, .int b5])) p (.lst [.int a6, .int b6]) l = some (.lst xs) := by rw [upd_ne nlp, upd_ne nlp]; exact hl4
        refine ⟨z1, z2, d3, rfl, r1, r2, r3, fun H3 s4 => ⟨_, rfl, iteF ?_⟩⟩
        exact ⟨(same_mut (same_mut (same_mut s3 hpH) hpH) hpH).trans s4, ⟨a6, b6, s4 _ _ hf6.1, hf6.2⟩, s4 _ _ hl6, _, rfl⟩
      · rintro σ H2 ⟨s3, _, _, x4', rfl⟩
        exact ⟨s3, _, _, _, _, rfl⟩
    · rintro σ H1 ⟨_, _⟩
      exact k _

end
theorem all_mk {l : PySem.W.OpenLaw} {w : World} {K : PySem.W.Frag} {h : Heap} {mg : Str → Option Value} {fa : Addr} (X : K.In h) (G : h.Ns mainGlobals mg) (hfa : mg "law" = some (.ref fa))
    {C f10 f11 f12 f13 cda cc p12 dP : Addr} {es : Array DictEntry} {en : Nat}
    {f1 : Addr} {od1 an1 : Option Addr} {sl1 : Array (Option Value)} {oc1 kV1 dc1 pm1 cd1 ct1 : Value}
    {f2 : Addr} {od2 an2 : Option Addr} {sl2 : Array (Option Value)} {oc2 kV2 dc2 pm2 cd2 ct2 : Value}
    {f3 : Addr} {od3 an3 : Option Addr} {sl3 : Array (Option Value)} {oc3 kV3 dc3 pm3 cd3 ct3 : Value}
    {f4 : Addr} {od4 an4 : Option Addr} {sl4 : Array (Option Value)} {oc4 kV4 dc4 pm4 cd4 ct4 : Value}
    {f5 : Addr} {od5 an5 : Option Addr} {sl5 : Array (Option Value)} {oc5 kV5 dc5 pm5 cd5 ct5 : Value}
    {f6 : Addr} {od6 an6 : Option Addr} {sl6 : Array (Option Value)} {oc6 kV6 dc6 pm6 cd6 ct6 : Value}
    {f7 : Addr} {od7 an7 : Option Addr} {sl7 : Array (Option Value)} {oc7 kV7 dc7 pm7 cd7 ct7 : Value}
    {f8 : Addr} {od8 an8 : Option Addr} {sl8 : Array (Option Value)} {oc8 kV8 dc8 pm8 cd8 ct8 : Value}
    {od10 an10 : Option Addr} {sl10 : Array (Option Value)} {oc10 kV10 dc10 pm10 cd10 ct10 : Value}
    {od11 an11 : Option Addr} {sl11 : Array (Option Value)} {oc11 kV11 dc11 pm11 ct11 : Value} {cdC : ClassData} {ccl ccv : Value} {cdd cvd : Option Addr} {cvs : Array Value} {ccs csl : Array (Option Value)} {file : Str} {tf : Tok}
    {rest12 : List Value} {od12 an12 : Option Addr} {sl12 : Array (Option Value)} {oc12 kV12 dc12 pm12 cd12 ct12 : Value}
    {od13 an13 : Option Addr} {sl13 : Array (Option Value)} {oc13 kV13 dc13 pm13 cd13 ct13 : Value}
    {tM : Tok}
    {pt0 pi0 po0 : Addr} {pc0 pd0 pe0 : Option Addr} {pn0 pm_0 pq0 : Nat} {psl0 psm0 psn0 : Array (Option Value)}  {to0_0 : Tok}
    {pt1 pi1 po1 : Addr} {pc1 pd1 pe1 : Option Addr} {pn1 pm_1 pq1 : Nat} {psl1 psm1 psn1 : Array (Option Value)} {ti1_0 : Tok} {ti1_1 : Tok} {to1_0 : Tok}
    {pt2 pi2 po2 : Addr} {pc2 pd2 pe2 : Option Addr} {pn2 pm_2 pq2 : Nat} {psl2 psm2 psn2 : Array (Option Value)} {ti2_0 : Tok} {ti2_1 : Tok} {to2_0 : Tok}
    {pt3 pi3 po3 : Addr} {pc3 pd3 pe3 : Option Addr} {pn3 pm_3 pq3 : Nat} {psl3 psm3 psn3 : Array (Option Value)} {ti3_0 : Tok} {ti3_1 : Tok} {to3_0 : Tok}
    {pt4 pi4 po4 : Addr} {pc4 pd4 pe4 : Option Addr} {pn4 pm_4 pq4 : Nat} {psl4 psm4 psn4 : Array (Option Value)} {ti4_0 : Tok} {ti4_1 : Tok} {to4_0 : Tok}
    {pt5 pi5 po5 : Addr} {pc5 pd5 pe5 : Option Addr} {pn5 pm_5 pq5 : Nat} {psl5 psm5 psn5 : Array (Option Value)} {ti5_0 : Tok} {ti5_1 : Tok} {to5_0 : Tok}
    {pt6 pi6 po6 : Addr} {pc6 pd6 pe6 : Option Addr} {pn6 pm_6 pq6 : Nat} {psl6 psm6 psn6 : Array (Option Value)} {ti6_0 : Tok} {ti6_1 : Tok} {ti6_2 : Tok} {to6_0 : Tok}
    {pt7 pi7 po7 : Addr} {pc7 pd7 pe7 : Option Addr} {pn7 pm_7 pq7 : Nat} {psl7 psm7 psn7 : Array (Option Value)} {ti7_0 : Tok} {ti7_1 : Tok} {to7_0 : Tok} {to7_1 : Tok}
    {pt8 pi8 po8 : Addr} {pc8 pd8 pe8 : Option Addr} {pn8 pm_8 pq8 : Nat} {psl8 psm8 psn8 : Array (Option Value)} {ti8_0 : Tok} {to8_0 : Tok}
    (a1 : PySem.W.nsIn K mainGlobals "_law_feed" = some (some (.ref f1)))
    (l1 : K.lookup f1 = some ⟨oc1, od1, .func (PySem.W.fnOf "_law_feed" "_law_feed" (defArgs s_law_feed) (defBody s_law_feed) (defScope s_law_feed) .none kV1 dc1 pm1 an1 cd1 ct1), sl1⟩)
    (c1 : PySem.W.codeIn K cd1 "_law_feed" = true)
    (k1 : PySem.W.keepIn K (.ref f1) = true)
    (a2 : PySem.W.nsIn K mainGlobals "_law_take" = some (some (.ref f2)))
    (l2 : K.lookup f2 = some ⟨oc2, od2, .func (PySem.W.fnOf "_law_take" "_law_take" (defArgs s_law_take) (defBody s_law_take) (defScope s_law_take) .none kV2 dc2 pm2 an2 cd2 ct2), sl2⟩)
    (c2 : PySem.W.codeIn K cd2 "_law_take" = true)
    (k2 : PySem.W.keepIn K (.ref f2) = true)
    (a3 : PySem.W.nsIn K mainGlobals "_law_pick" = some (some (.ref f3)))
    (l3 : K.lookup f3 = some ⟨oc3, od3, .func (PySem.W.fnOf "_law_pick" "_law_pick" (defArgs s_law_pick) (defBody s_law_pick) (defScope s_law_pick) .none kV3 dc3 pm3 an3 cd3 ct3), sl3⟩)
    (c3 : PySem.W.codeIn K cd3 "_law_pick" = true)
    (k3 : PySem.W.keepIn K (.ref f3) = true)
    (a4 : PySem.W.nsIn K mainGlobals "_law_one" = some (some (.ref f4)))
    (l4 : K.lookup f4 = some ⟨oc4, od4, .func (PySem.W.fnOf "_law_one" "_law_one" (defArgs s_law_one) (defBody s_law_one) (defScope s_law_one) .none kV4 dc4 pm4 an4 cd4 ct4), sl4⟩)
    (c4 : PySem.W.codeIn K cd4 "_law_one" = true)
    (k4 : PySem.W.keepIn K (.ref f4) = true)
    (a5 : PySem.W.nsIn K mainGlobals "_law_right" = some (some (.ref f5)))
    (l5 : K.lookup f5 = some ⟨oc5, od5, .func (PySem.W.fnOf "_law_right" "_law_right" (defArgs s_law_right) (defBody s_law_right) (defScope s_law_right) .none kV5 dc5 pm5 an5 cd5 ct5), sl5⟩)
    (c5 : PySem.W.codeIn K cd5 "_law_right" = true)
    (k5 : PySem.W.keepIn K (.ref f5) = true)
    (a6 : PySem.W.nsIn K mainGlobals "law" = some (some (.ref f6)))
    (l6 : K.lookup f6 = some ⟨oc6, od6, .func (PySem.W.fnOf "law" "law" (defArgs s_law) (defBody s_law) (defScope s_law) .none kV6 dc6 pm6 an6 cd6 ct6), sl6⟩)
    (c6 : PySem.W.codeIn K cd6 "law" = true)
    (k6 : PySem.W.keepIn K (.ref f6) = true)
    (a7 : PySem.W.nsIn K mainGlobals "is_primitive_text" = some (some (.ref f7)))
    (l7 : K.lookup f7 = some ⟨oc7, od7, .func (PySem.W.fnOf "is_primitive_text" "is_primitive_text" (defArgs s_is_primitive_text) (defBody s_is_primitive_text) (defScope s_is_primitive_text) .none kV7 dc7 pm7 an7 cd7 ct7), sl7⟩)
    (c7 : PySem.W.codeIn K cd7 "is_primitive_text" = true)
    (k7 : PySem.W.keepIn K (.ref f7) = true)
    (a8 : PySem.W.nsIn K mainGlobals "number_of" = some (some (.ref f8)))
    (l8 : K.lookup f8 = some ⟨oc8, od8, .func (PySem.W.fnOf "number_of" "number_of" (defArgs s_number_of) (defBody s_number_of) (defScope s_number_of) .none kV8 dc8 pm8 an8 cd8 ct8), sl8⟩)
    (c8 : PySem.W.codeIn K cd8 "number_of" = true)
    (k8 : PySem.W.keepIn K (.ref f8) = true)
    (aC : PySem.W.nsIn K mainGlobals "Primitive" = some (some (.ref C)))
    (a10 : PySem.W.ks_superIn K C C "__init__" = some (some (.ref f10)))
    (l10 : K.lookup f10 = some ⟨oc10, od10, .func (PySem.W.fnOf "__init__" "Block.__init__" (defArgs s_Block_init) (defBody s_Block_init) (defScope s_Block_init) .none kV10 dc10 pm10 an10 cd10 ct10), sl10⟩)
    (c10 : PySem.W.codeIn K cd10 "Block.__init__" = true)
    (k10 : PySem.W.keepIn K (.ref f10) = true)
    (t10 : PySem.W.typeIn K (.ref f10) = some (.type "function"))
    (n10 : PySem.W.fnIn K f10 = true)
    (a11 : PySem.W.findIn K (.ref C) "__init__" = some (some (.ref f11)))
    (l11 : K.lookup f11 = some ⟨oc11, od11, .func (PySem.W.fnX "__init__" "Primitive.__init__" (defArgs s_Primitive_init) (defBody s_Primitive_init) (defScope s_Primitive_init) [("__class__", cc)] .none kV11 dc11 pm11 an11 (.ref cda) ct11), sl11⟩)
    (c11 : PySem.W.codeIn K (.ref cda) "Primitive.__init__" = true)
    (k11 : PySem.W.keepIn K (.ref f11) = true)
    (i11 : PySem.W.isFn K (.ref f11) = true)
    (cC : PySem.W.clsIn K C = some cdC)
    (lc : K.lookup cda = some ⟨ccl, cdd, .fields cvs, ccs⟩)
    (hv : cvs[2]? = some (.str file tf))
    (hf : ((l.prog.main.file : Str) == file) = true)
    (lcc : K.lookup cc = some ⟨ccv, cvd, .cell (some (.ref C)), csl⟩)
    (sub : PySem.W.mroIn K C (.ref C) = some true)
    (zS : PySem.W.nsIn K mainGlobals "super" = some none)
    (tp : PySem.W.nsIn K PySem.cStatics "thirdparty.any" = some none)
    (ht : (l.prog.main.scope.names.lookup ("super" : Str)).isSome = false)
    (a12 : PySem.W.findCls K (.ref C) (.type "type") "parse" = some (.get (.builtin "classmethod.__get__") (.ref p12) .none (.ref C)))
    (r12 : PySem.W.recIn K p12 "classmethod" = some (.ref f12 :: rest12))
    (n12 : PySem.W.fnIn K f12 = true)
    (l12 : K.lookup f12 = some ⟨oc12, od12, .func (PySem.W.fnOf "parse" "Primitive.parse" (defArgs s_Primitive_parse) (defBody s_Primitive_parse) (defScope s_Primitive_parse) .none kV12 dc12 pm12 an12 cd12 ct12), sl12⟩)
    (c12 : PySem.W.codeIn K cd12 "Primitive.parse" = true)
    (k12 : PySem.W.keepIn K (.ref f12) = true)
    (rd : PySem.W.readsIn K C (.type "type") = true)
    (rg : PySem.W.specialIn K (.ref C) "__getattribute__" = some (some (.builtin "type.__getattribute__")))
    (a13 : PySem.W.findIn K (.ref C) "compute" = some (some (.ref f13)))
    (l13 : K.lookup f13 = some ⟨oc13, od13, .func (PySem.W.fnOf "compute" "Primitive.compute" (defArgs s_Primitive_compute) (defBody s_Primitive_compute) (defScope s_Primitive_compute) .none kV13 dc13 pm13 an13 cd13 ct13), sl13⟩)
    (c13 : PySem.W.codeIn K cd13 "Primitive.compute" = true)
    (k13 : PySem.W.keepIn K (.ref f13) = true)
    (i13 : PySem.W.isFn K (.ref f13) = true)
    (pg : PySem.W.plainGet K C Str.empty = true)
    (hd : PySem.W.hasDictIn K C = true)
    (po : PySem.W.plainOver K C = true)
    (sa : PySem.W.findIn K (.ref C) "__setattr__" = some (some (.builtin "object.__setattr__")))
    (mk : PySem.W.makesIn K C = true)
    (kc : PySem.W.keepIn K (.ref C) = true)
    (no_name : PySem.W.findIn K (.ref C) "name" = some none)
    (no_inputs : PySem.W.findIn K (.ref C) "inputs" = some none)
    (no_outputs : PySem.W.findIn K (.ref C) "outputs" = some none)
    (no_constant : PySem.W.findIn K (.ref C) "constant" = some none)
    (no_text : PySem.W.findIn K (.ref C) "text" = some none)
    (z_len : PySem.W.nsIn K mainGlobals "len" = some none)
    (z_abs : PySem.W.nsIn K mainGlobals "abs" = some none)
    (z_max : PySem.W.nsIn K mainGlobals "max" = some none)
    (z_min : PySem.W.nsIn K mainGlobals "min" = some none)
    (z_range : PySem.W.nsIn K mainGlobals "range" = some none)
    (z_sorted : PySem.W.nsIn K mainGlobals "sorted" = some none)
    (z_isinstance : PySem.W.nsIn K mainGlobals "isinstance" = some none)
    (z_int : PySem.W.nsIn K mainGlobals "int" = some none)
    (z_str : PySem.W.nsIn K mainGlobals "str" = some none)
    (z_tuple : PySem.W.nsIn K mainGlobals "tuple" = some none)
    (z_all : PySem.W.nsIn K mainGlobals "all" = some none)
    (aM : PySem.W.nsIn K mainGlobals "MODULUS" = some (some (.int 4294967296 tM)))
    (aP : PySem.W.nsIn K mainGlobals "PORTS" = some (some (.ref dP)))
    (lP : K.lookup dP = some ⟨.type "dict", none, .dict es en, #[]⟩)
    (hP : PySem.W.KeysLit w.params es.toList)
    (wP : (dP == sysModules) = false)
    (ph0 : PySem.W.nsIn K dP "const" = some (some (.ref pt0)))
    (pl0 : K.lookup pt0 = some ⟨.type "tuple", pc0, .seq #[.ref pi0, .ref po0] pn0, psl0⟩)
    (pu0 : K.lookup pi0 = some ⟨.type "tuple", pd0, .seq #[] pm_0, psm0⟩)
    (pv0 : K.lookup po0 = some ⟨.type "tuple", pe0, .seq #[.str "out" to0_0] pq0, psn0⟩)
    (ph1 : PySem.W.nsIn K dP "add" = some (some (.ref pt1)))
    (pl1 : K.lookup pt1 = some ⟨.type "tuple", pc1, .seq #[.ref pi1, .ref po1] pn1, psl1⟩)
    (pu1 : K.lookup pi1 = some ⟨.type "tuple", pd1, .seq #[.str "a" ti1_0, .str "b" ti1_1] pm_1, psm1⟩)
    (pv1 : K.lookup po1 = some ⟨.type "tuple", pe1, .seq #[.str "out" to1_0] pq1, psn1⟩)
    (ph2 : PySem.W.nsIn K dP "sub" = some (some (.ref pt2)))
    (pl2 : K.lookup pt2 = some ⟨.type "tuple", pc2, .seq #[.ref pi2, .ref po2] pn2, psl2⟩)
    (pu2 : K.lookup pi2 = some ⟨.type "tuple", pd2, .seq #[.str "a" ti2_0, .str "b" ti2_1] pm_2, psm2⟩)
    (pv2 : K.lookup po2 = some ⟨.type "tuple", pe2, .seq #[.str "out" to2_0] pq2, psn2⟩)
    (ph3 : PySem.W.nsIn K dP "mul" = some (some (.ref pt3)))
    (pl3 : K.lookup pt3 = some ⟨.type "tuple", pc3, .seq #[.ref pi3, .ref po3] pn3, psl3⟩)
    (pu3 : K.lookup pi3 = some ⟨.type "tuple", pd3, .seq #[.str "a" ti3_0, .str "b" ti3_1] pm_3, psm3⟩)
    (pv3 : K.lookup po3 = some ⟨.type "tuple", pe3, .seq #[.str "out" to3_0] pq3, psn3⟩)
    (ph4 : PySem.W.nsIn K dP "less" = some (some (.ref pt4)))
    (pl4 : K.lookup pt4 = some ⟨.type "tuple", pc4, .seq #[.ref pi4, .ref po4] pn4, psl4⟩)
    (pu4 : K.lookup pi4 = some ⟨.type "tuple", pd4, .seq #[.str "a" ti4_0, .str "b" ti4_1] pm_4, psm4⟩)
    (pv4 : K.lookup po4 = some ⟨.type "tuple", pe4, .seq #[.str "out" to4_0] pq4, psn4⟩)
    (ph5 : PySem.W.nsIn K dP "equal" = some (some (.ref pt5)))
    (pl5 : K.lookup pt5 = some ⟨.type "tuple", pc5, .seq #[.ref pi5, .ref po5] pn5, psl5⟩)
    (pu5 : K.lookup pi5 = some ⟨.type "tuple", pd5, .seq #[.str "a" ti5_0, .str "b" ti5_1] pm_5, psm5⟩)
    (pv5 : K.lookup po5 = some ⟨.type "tuple", pe5, .seq #[.str "out" to5_0] pq5, psn5⟩)
    (ph6 : PySem.W.nsIn K dP "pick" = some (some (.ref pt6)))
    (pl6 : K.lookup pt6 = some ⟨.type "tuple", pc6, .seq #[.ref pi6, .ref po6] pn6, psl6⟩)
    (pu6 : K.lookup pi6 = some ⟨.type "tuple", pd6, .seq #[.str "c" ti6_0, .str "a" ti6_1, .str "b" ti6_2] pm_6, psm6⟩)
    (pv6 : K.lookup po6 = some ⟨.type "tuple", pe6, .seq #[.str "out" to6_0] pq6, psn6⟩)
    (ph7 : PySem.W.nsIn K dP "divide" = some (some (.ref pt7)))
    (pl7 : K.lookup pt7 = some ⟨.type "tuple", pc7, .seq #[.ref pi7, .ref po7] pn7, psl7⟩)
    (pu7 : K.lookup pi7 = some ⟨.type "tuple", pd7, .seq #[.str "a" ti7_0, .str "b" ti7_1] pm_7, psm7⟩)
    (pv7 : K.lookup po7 = some ⟨.type "tuple", pe7, .seq #[.str "quotient" to7_0, .str "rest" to7_1] pq7, psn7⟩)
    (ph8 : PySem.W.nsIn K dP "delay" = some (some (.ref pt8)))
    (pl8 : K.lookup pt8 = some ⟨.type "tuple", pc8, .seq #[.ref pi8, .ref po8] pn8, psl8⟩)
    (pu8 : K.lookup pi8 = some ⟨.type "tuple", pd8, .seq #[.str "in" ti8_0] pm_8, psm8⟩)
    (pv8 : K.lookup po8 = some ⟨.type "tuple", pe8, .seq #[.str "out" to8_0] pq8, psn8⟩) :
    ∃ fd : FuncData, (∀ (s : Shared) (v : Value), BindsTo s fd ⟨[v], []⟩ [("script", v)]) ∧ ∀ base : Heap, K.In base → base.Ns mainGlobals mg → FnOk l.prog w K mg base CX0 7 fa fd ["script"] (spLaw K) := by
  have e := hfa.symm.trans (PySem.W.mg_of X G a6)
  cases e
  let ad : Adr := { law_take := f2, law_feed := f1, law_pick := f3, law_one := f4, law_right := f5, number_of := f8, ipt := f7, C := C, CB := C, iB := f10, iP := f11, parse := f12, parseR := p12, compute := f13, dP := dP, es := es, en := en, mc := .type "type" }
  have cl : Cls K C := ⟨pg, hd, po, sa⟩
  have hports : ∀ n ins outs, (n, ins, outs) ∈ portsTab → PortsOf K w dP n ins outs := by
    intro n ins outs hp
    simp only [portsTab, List.mem_cons, List.not_mem_nil, or_false, Prod.mk.injEq] at hp
    rcases hp with ⟨rfl, rfl, rfl⟩ | ⟨rfl, rfl, rfl⟩ | ⟨rfl, rfl, rfl⟩ | ⟨rfl, rfl, rfl⟩ | ⟨rfl, rfl, rfl⟩ | ⟨rfl, rfl, rfl⟩ | ⟨rfl, rfl, rfl⟩ | ⟨rfl, rfl, rfl⟩ | ⟨rfl, rfl, rfl⟩
    · exact ⟨pt0, pi0, po0, ⟨es, en, _, lP, hP, ph0, rfl⟩, sqt_K pl0 (szl (show 2 ≤ 100000 by decide)) (.cons rfl (.cons rfl .nil)), sqt_K pu0 (szl (show 0 ≤ 100000 by decide)) .nil, sqt_K pv0 (szl (show 1 ≤ 100000 by decide)) (.cons ⟨_, rfl⟩ .nil)⟩
    · exact ⟨pt1, pi1, po1, ⟨es, en, _, lP, hP, ph1, rfl⟩, sqt_K pl1 (szl (show 2 ≤ 100000 by decide)) (.cons rfl (.cons rfl .nil)), sqt_K pu1 (szl (show 2 ≤ 100000 by decide)) (.cons ⟨_, rfl⟩ (.cons ⟨_, rfl⟩ .nil)), sqt_K pv1 (szl (show 1 ≤ 100000 by decide)) (.cons ⟨_, rfl⟩ .nil)⟩
    · exact ⟨pt2, pi2, po2, ⟨es, en, _, lP, hP, ph2, rfl⟩, sqt_K pl2 (szl (show 2 ≤ 100000 by decide)) (.cons rfl (.cons rfl .nil)), sqt_K pu2 (szl (show 2 ≤ 100000 by decide)) (.cons ⟨_, rfl⟩ (.cons ⟨_, rfl⟩ .nil)), sqt_K pv2 (szl (show 1 ≤ 100000 by decide)) (.cons ⟨_, rfl⟩ .nil)⟩
    · exact ⟨pt3, pi3, po3, ⟨es, en, _, lP, hP, ph3, rfl⟩, sqt_K pl3 (szl (show 2 ≤ 100000 by decide)) (.cons rfl (.cons rfl .nil)), sqt_K pu3 (szl (show 2 ≤ 100000 by decide)) (.cons ⟨_, rfl⟩ (.cons ⟨_, rfl⟩ .nil)), sqt_K pv3 (szl (show 1 ≤ 100000 by decide)) (.cons ⟨_, rfl⟩ .nil)⟩
    · exact ⟨pt4, pi4, po4, ⟨es, en, _, lP, hP, ph4, rfl⟩, sqt_K pl4 (szl (show 2 ≤ 100000 by decide)) (.cons rfl (.cons rfl .nil)), sqt_K pu4 (szl (show 2 ≤ 100000 by decide)) (.cons ⟨_, rfl⟩ (.cons ⟨_, rfl⟩ .nil)), sqt_K pv4 (szl (show 1 ≤ 100000 by decide)) (.cons ⟨_, rfl⟩ .nil)⟩
    · exact ⟨pt5, pi5, po5, ⟨es, en, _, lP, hP, ph5, rfl⟩, sqt_K pl5 (szl (show 2 ≤ 100000 by decide)) (.cons rfl (.cons rfl .nil)), sqt_K pu5 (szl (show 2 ≤ 100000 by decide)) (.cons ⟨_, rfl⟩ (.cons ⟨_, rfl⟩ .nil)), sqt_K pv5 (szl (show 1 ≤ 100000 by decide)) (.cons ⟨_, rfl⟩ .nil)⟩
    · exact ⟨pt6, pi6, po6, ⟨es, en, _, lP, hP, ph6, rfl⟩, sqt_K pl6 (szl (show 2 ≤ 100000 by decide)) (.cons rfl (.cons rfl .nil)), sqt_K pu6 (szl (show 3 ≤ 100000 by decide)) (.cons ⟨_, rfl⟩ (.cons ⟨_, rfl⟩ (.cons ⟨_, rfl⟩ .nil))), sqt_K pv6 (szl (show 1 ≤ 100000 by decide)) (.cons ⟨_, rfl⟩ .nil)⟩
    · exact ⟨pt7, pi7, po7, ⟨es, en, _, lP, hP, ph7, rfl⟩, sqt_K pl7 (szl (show 2 ≤ 100000 by decide)) (.cons rfl (.cons rfl .nil)), sqt_K pu7 (szl (show 2 ≤ 100000 by decide)) (.cons ⟨_, rfl⟩ (.cons ⟨_, rfl⟩ .nil)), sqt_K pv7 (szl (show 2 ≤ 100000 by decide)) (.cons ⟨_, rfl⟩ (.cons ⟨_, rfl⟩ .nil))⟩
    · exact ⟨pt8, pi8, po8, ⟨es, en, _, lP, hP, ph8, rfl⟩, sqt_K pl8 (szl (show 2 ≤ 100000 by decide)) (.cons rfl (.cons rfl .nil)), sqt_K pu8 (szl (show 1 ≤ 100000 by decide)) (.cons ⟨_, rfl⟩ .nil), sqt_K pv8 (szl (show 1 ≤ 100000 by decide)) (.cons ⟨_, rfl⟩ .nil)⟩
  have T : Txt K w mg ad := {n_len := PySem.W.mg_none_of X G z_len, n_abs := PySem.W.mg_none_of X G z_abs, n_max := PySem.W.mg_none_of X G z_max, n_min := PySem.W.mg_none_of X G z_min, n_range := PySem.W.mg_none_of X G z_range, n_sorted := PySem.W.mg_none_of X G z_sorted, n_isinstance := PySem.W.mg_none_of X G z_isinstance, n_int := PySem.W.mg_none_of X G z_int, n_str := PySem.W.mg_none_of X G z_str, n_tuple := PySem.W.mg_none_of X G z_tuple, n_all := PySem.W.mg_none_of X G z_all, g__law_feed := PySem.W.mg_of X G a1, k__law_feed := k1, g__law_take := PySem.W.mg_of X G a2, k__law_take := k2, g__law_pick := PySem.W.mg_of X G a3, k__law_pick := k3, g__law_one := PySem.W.mg_of X G a4, k__law_one := k4, g__law_right := PySem.W.mg_of X G a5, k__law_right := k5, g_is_primitive_text := PySem.W.mg_of X G a7, k_is_primitive_text := k7, g_number_of := PySem.W.mg_of X G a8, k_number_of := k8, g_Primitive := PySem.W.mg_of X G aC, g_PORTS := PySem.W.mg_of X G aP, g_MODULUS := ⟨tM, PySem.W.mg_of X G aM⟩, cl := cl, nN := no_name, nI := no_inputs, nO := no_outputs, nC := no_constant, nT := no_text, mkP := ⟨mk, a11, i11, kc⟩, m_compute := ⟨a13, i13, k13⟩, crP := ⟨rd, rg⟩, cm_parse := ⟨a12, ⟨_, r12⟩, n12⟩, d_PORTS := ⟨lP, hP, wP⟩, ports := hports }
  have B : ∀ {x qual : Str} {st : Stmt} {f : Addr} {fd : FuncData} (F : Fun K x qual st f fd), True := fun _ => True.intro
  have F1 := fun_mk (st := s_law_feed) l1 c1 k1
  have F2 := fun_mk (st := s_law_take) l2 c2 k2
  have F3 := fun_mk (st := s_law_pick) l3 c3 k3
  have F4 := fun_mk (st := s_law_one) l4 c4 k4
  have F5 := fun_mk (st := s_law_right) l5 c5 k5
  have F6 := fun_mk (st := s_law) l6 c6 k6
  have F7 := fun_mk (st := s_is_primitive_text) l7 c7 k7
  have F8 := fun_mk (st := s_number_of) l8 c8 k8
  have F10 := fun_mk (st := s_Block_init) l10 c10 k10
  have F12 := fun_mk (st := s_Primitive_parse) l12 c12 k12
  have F13 := fun_mk (st := s_Primitive_compute) l13 c13 k13
  have b1 := F1.binds (ps := ["script", "k"]) fun _ _ _ _ _ _ us hl => match us, hl with | [_, _], _ => rfl
  have b2 := F2.binds (ps := ["feed", "many"]) fun _ _ _ _ _ _ us hl => match us, hl with | [_, _], _ => rfl
  have b3 := F3.binds (ps := ["feed", "some"]) fun _ _ _ _ _ _ us hl => match us, hl with | [_, _], _ => rfl
  have b4 := F4.binds (ps := ["name", "one", "other"]) fun _ _ _ _ _ _ us hl => match us, hl with | [_, _, _], _ => rfl
  have b5 := F5.binds (ps := ["one", "other", "third"]) fun _ _ _ _ _ _ us hl => match us, hl with | [_, _, _], _ => rfl
  have b7 := F7.binds (ps := ["text"]) fun _ _ _ _ _ _ us hl => match us, hl with | [_], _ => rfl
  have b10 := F10.binds (ps := ["self", "name", "inputs", "outputs"]) fun _ _ _ _ _ _ us hl => match us, hl with | [_, _, _, _], _ => rfl
  have b12 := F12.binds (ps := ["cls", "text"]) fun _ _ _ _ _ _ us hl => match us, hl with | [_, _], _ => rfl
  have b13 := F13.binds (ps := ["self", "values"]) fun _ _ _ _ _ _ us hl => match us, hl with | [_, _], _ => rfl
  have FS : SupX.FunS l.prog K mg "__init__" "Primitive.__init__" s_Primitive_init C f11 cc cda f10 "self" _ := ⟨⟨_, _, _, _, _, _, _, _, rfl, l11, c11⟩, k11, ⟨cl, ⟨_, cC⟩, ⟨_, _, _, _, _, l11, rfl, rfl⟩, ⟨_, _, _, _, _, _, lc, hv, hf⟩, ⟨_, _, _, lcc⟩, sub, PySem.W.mg_none_of X G zS, tp, a10, t10, n10, ht⟩, rfl⟩
  have b11 := FS.binds (ps := ["self", "name", "constant"]) fun _ _ _ _ _ us hl => match us, hl with | [_, _, _], _ => rfl
  have b8 := F8.binds (ps := ["word"]) fun _ _ _ _ _ _ us hl => match us, hl with | [_], _ => rfl
  refine ⟨PySem.W.fnOf "law" "law" (defArgs s_law) (defBody s_law) (defScope s_law) .none kV6 dc6 pm6 an6 cd6 ct6, fun s v => .of_eq rfl, fun base _ _ => ?_⟩
  have G2 : FnOk l.prog w K mg base CX0 1 f2 _ ["feed", "many"] spTake := ok_take F2
  have G1 : FnOk l.prog w K mg base CX0 1 f1 _ ["script", "k"] (spFeed K) := ok_feed (ad := ad) F1 T
  have G3 : FnOk l.prog w K mg base CX0 2 f3 _ ["feed", "some"] (spPick K) := ok_pick (ad := ad) F3 T G2 b2
  have G10 : FnOk l.prog w K mg base CX0 1 f10 _ ["self", "name", "inputs", "outputs"] (spBI K C) := ok_BI (ad := ad) F10 T
  have G11 : FnOk l.prog w K mg base CX0 2 f11 _ ["self", "name", "constant"] (spPI K C) := ok_PI (ad := ad) FS T G10 b10
  have G7 : FnOk l.prog w K mg base CX0 2 f7 _ ["text"] spIpt := ok_ipt (ad := ad) F7 T b8
  have G12 := ok_parse (ad := ad) F12 T b8 G7 b7 G11 b11
  have R12 : FnR l.prog w K mg base CX0 4 f12 (spParse K C) := (G12.raw b12 .nil).imp fun vs H Q E hs => by rw [List.append_nil]; exact hs
  have G13 : FnOk l.prog w K mg base CX0 2 f13 _ ["self", "values"] (spComp K C) := ok_compute (ad := ad) F13 T
  have G4 : FnOk l.prog w K mg base CX0 5 f4 _ ["name", "one", "other"] spOne := ok_one (ad := ad) F4 T R12 G13 b13
  have G5 : FnOk l.prog w K mg base CX0 6 f5 _ ["one", "other", "third"] spRight := ok_right (ad := ad) F5 T G4 b4 R12 G13 b13
  exact ok_law (ad := ad) F6 T G1 b1 G2 b2 G3 b3 G5 b5
theorem walk {l : PySem.W.OpenLaw} {q : Program} {loose : List Str} {XP : (Str → Option Value) → Heap → Prop} {YP : World → Heap → Prop} {d : DefRec} {K : Params → PySem.W.Frag} (hn : l.most = some 63) (hdf : d.params.defaults = [])
    (hY : ∀ (w : World) (h : Heap), YP w h → (K w.params).In h)
    (F : ∀ (w : World) (mg : Str → Option Value) (fa : Addr) (h : Heap), (K w.params).In h → h.Ns mainGlobals mg → mg d.name = some (.ref fa) →
      ∃ fd : FuncData, (∀ (s : Shared) (u : Value), BindsTo s fd ⟨[u], []⟩ [("script", u)]) ∧ ∀ base : Heap, (K w.params).In base → base.Ns mainGlobals mg → FnOk l.prog w (K w.params) mg base CX0 7 fa fd ["script"] (spLaw (K w.params))) :
    PySem.W.WalkO q loose XP YP l.row.toRowW d [] (fun f vs => PySem.call f vs) :=
  L2.walk_of (n := 63) (k := 7) (x := "script") (CX := fun _ => CX0) (sp := fun w => spLaw (K w.params)) hn (by decide) hdf ⟨rfl, by decide, by decide⟩ hY F (fun _ _ a ns hl _ hS => ⟨a, ns, rfl, hS, hl, fun _ => rfl⟩) fun _ _ _ _ _ z => z

end K04

set_option maxRecDepth 100000
open PySem PySem.W PyProof.Rows

open PySem PySem.W PyProof.Rows in
set_option maxRecDepth 100000 in
set_option maxHeartbeats 0 in
theorem PySem.Challenge.cw_stepblocks_k04_whole_arithmetic_holds : PySem.Challenge.rw_stepblocks_k04_whole_arithmetic.Holds := by
  w_on; o_law; k_head; (case hw => w_witness2)
  k_fill
  refine K04.walk (l := PySem.Challenge.rw_stepblocks_k04_whole_arithmetic) rfl rfl (fun w h Y => PySem.W.kIn_of Y) ?F
  case F =>
    intro w mg fa h KX G hmg
    refine' K04.all_mk KX G hmg ?a1 ?l1 ?c1 ?k1 ?a2 ?l2 ?c2 ?k2 ?a3 ?l3 ?c3 ?k3 ?a4 ?l4 ?c4 ?k4 ?a5 ?l5 ?c5 ?k5 ?a6 ?l6 ?c6 ?k6 ?a7 ?l7 ?c7 ?k7 ?a8 ?l8 ?c8 ?k8 ?aC ?a10 ?l10 ?c10 ?k10 ?t10 ?n10 ?a11 ?l11 ?c11 ?k11 ?i11 ?cC ?lc ?hv ?hf ?lcc ?sub ?zS ?tp ?ht ?a12 ?r12 ?n12 ?l12 ?c12 ?k12 ?rd ?rg ?a13 ?l13 ?c13 ?k13 ?i13 ?pg ?hd ?po ?sa ?mk ?kc ?no_name ?no_inputs ?no_outputs ?no_constant ?no_text ?z_len ?z_abs ?z_max ?z_min ?z_range ?z_sorted ?z_isinstance ?z_int ?z_str ?z_tuple ?z_all ?aM ?aP ?lP ?hP ?wP ?ph0 ?pl0 ?pu0 ?pv0 ?ph1 ?pl1 ?pu1 ?pv1 ?ph2 ?pl2 ?pu2 ?pv2 ?ph3 ?pl3 ?pu3 ?pv3 ?ph4 ?pl4 ?pu4 ?pv4 ?ph5 ?pl5 ?pu5 ?pv5 ?ph6 ?pl6 ?pu6 ?pv6 ?ph7 ?pl7 ?pu7 ?pv7 ?ph8 ?pl8 ?pu8 ?pv8
    (case a1 => k_is)
    (case l1 => k_is)
    (case c1 => k_is)
    (case k1 => k_is)
    (case a2 => k_is)
    (case l2 => k_is)
    (case c2 => k_is)
    (case k2 => k_is)
    (case a3 => k_is)
    (case l3 => k_is)
    (case c3 => k_is)
    (case k3 => k_is)
    (case a4 => k_is)
    (case l4 => k_is)
    (case c4 => k_is)
    (case k4 => k_is)
    (case a5 => k_is)
    (case l5 => k_is)
    (case c5 => k_is)
    (case k5 => k_is)
    (case a6 => k_is)
    (case l6 => k_is)
    (case c6 => k_is)
    (case k6 => k_is)
    (case a7 => k_is)
    (case l7 => k_is)
    (case c7 => k_is)
    (case k7 => k_is)
    (case a8 => k_is)
    (case l8 => k_is)
    (case c8 => k_is)
    (case k8 => k_is)
    (case aC => k_is)
    (case a10 => ks_is)
    (case l10 => k_is)
    (case c10 => k_is)
    (case k10 => k_is)
    (case t10 => k_is)
    (case n10 => k_is)
    (case a11 => k_is)
    (case l11 => k_is)
    (case c11 => k_is)
    (case k11 => k_is)
    (case i11 => k_is)
    (case cC => k_is)
    (case lc => k_is)
    (case hv => rfl)
    (case hf => rfl)
    (case lcc => k_is)
    (case sub => k_is)
    (case zS => k_is)
    (case tp => k_is)
    (case ht => rfl)
    (case a12 => k_is)
    (case r12 => k_is)
    (case n12 => k_is)
    (case l12 => k_is)
    (case c12 => k_is)
    (case k12 => k_is)
    (case rd => k_is)
    (case rg => k_is)
    (case a13 => k_is)
    (case l13 => k_is)
    (case c13 => k_is)
    (case k13 => k_is)
    (case i13 => k_is)
    (case pg => k_is)
    (case hd => k_is)
    (case po => k_is)
    (case sa => k_is)
    (case mk => k_is)
    (case kc => k_is)
    (case no_name => k_is)
    (case no_inputs => k_is)
    (case no_outputs => k_is)
    (case no_constant => k_is)
    (case no_text => k_is)
    (case z_len => k_is)
    (case z_abs => k_is)
    (case z_max => k_is)
    (case z_min => k_is)
    (case z_range => k_is)
    (case z_sorted => k_is)
    (case z_isinstance => k_is)
    (case z_int => k_is)
    (case z_str => k_is)
    (case z_tuple => k_is)
    (case z_all => k_is)
    (case aM => k_is)
    (case aP => k_is)
    (case lP => k_is)
    (case hP => (repeat (first | exact True.intro | refine ⟨⟨_, _, rfl, rfl⟩, ?_⟩)))
    (case wP => first | rfl | decide +kernel)
    (case ph0 => k_is)
    (case pl0 => k_is)
    (case pu0 => k_is)
    (case pv0 => k_is)
    (case ph1 => k_is)
    (case pl1 => k_is)
    (case pu1 => k_is)
    (case pv1 => k_is)
    (case ph2 => k_is)
    (case pl2 => k_is)
    (case pu2 => k_is)
    (case pv2 => k_is)
    (case ph3 => k_is)
    (case pl3 => k_is)
    (case pu3 => k_is)
    (case pv3 => k_is)
    (case ph4 => k_is)
    (case pl4 => k_is)
    (case pu4 => k_is)
    (case pv4 => k_is)
    (case ph5 => k_is)
    (case pl5 => k_is)
    (case pu5 => k_is)
    (case pv5 => k_is)
    (case ph6 => k_is)
    (case pl6 => k_is)
    (case pu6 => k_is)
    (case pv6 => k_is)
    (case ph7 => k_is)
    (case pl7 => k_is)
    (case pu7 => k_is)
    (case pv7 => k_is)
    (case ph8 => k_is)
    (case pl8 => k_is)
    (case pu8 => k_is)
    (case pv8 => k_is)
#print axioms PySem.Challenge.cw_stepblocks_k04_whole_arithmetic_holds
