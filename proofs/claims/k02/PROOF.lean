import PyProof.Rows.All
import Wide.All
import OpenK.AllK
import Wide.FinOn
import HandS.ForMost
import KE.KSuper
import HandS.Wide
import HandS.IsInst
import HandS.ClsMeth
import HandS.FStr
import HandS.RaiseMore
import KE.KCallOwn
import PyProof.ReprRoads
import HandS.Walk
import HandS.Codes
import KE.KIntText
import KE.IntTextLaws
import KE.KxText
import KE.KxLen
import PyProof.ReprLen
import PyProof.StrLawsChain
import PyProof.StrBlock2
import HandS.Exc
import HandS.ExcOwn
import HandS.ExcValue
import HandS.ExcInit
import HandS.ExcField
import KE.KExcIs
import HandS.NoneIn
import HandS.WordsExc
import HandS.ExcIs
import PySem.Challenge.RW_stepblocks_k02_texts_that_are_no_primiti
set_option Elab.async false
set_option linter.all false
set_option maxRecDepth 100000
set_option maxHeartbeats 2000000
/-! a def of a class whose first statement is super().__init__(..): its promise by the rest of its body -/
namespace SupX
open PySem PySem.W PyProof.Rows L2

theorem cellsFrom_app : ∀ (names : List (Str × NameKind)) (n : Nat) (a b : List (Str × Addr)), cellsFrom n names (a ++ b) = cellsFrom n names a ++ b
  | [], _, _, _ => rfl
  | (name, kind) :: r, n, a, b => by
    unfold cellsFrom
    split
    · exact cellsFrom_app r (n + 1) ((name, n) :: a) b
    · exact cellsFrom_app r n a b
theorem look_app {l r : List (Str × Addr)} {x : Str} {c : Addr} (h : l.lookup x = some c) : (l ++ r).lookup x = some c := by
  rw [List.lookup_append, h] <;> rfl

section
variable {M : Model} {A : Around} {E : Value → Shared → Prop} {s₀ s : Shared} {m cm : Str → Option Value} {env : Env} {cs : List (Str × Addr)}
theorem stLX {n : Str} {v : Value} {Q : Unit → Shared → Prop} (x : InCallC s₀ env.locals m cs cm s) (hk : env.scope.kind = .function) (hl : env.kindOf n = some .local)
    (h : ∀ s', InCallC s₀ env.locals (fun y => if y = n then some v else m y) cs cm s' → Q () s') : wpAny M A (storeName env n v) Q E s := by
  refine wpAny_storeName_local hl x.toInCall.ns (fun h' hn' hs' => h _ ⟨⟨?_, hn', fun b o e => ?_, x.toInCall.fresh⟩, fun k c hc => ?_, x.apart, x.above⟩) (by rw [hk]; rfl)
  · obtain ⟨h₁, tk, rfl⟩ := x.toInCall.same
    exact ⟨h', _, rfl⟩
  · exact hs'.extBut b o (Nat.ne_of_lt (Nat.lt_of_lt_of_le (Heap.lt_size e) x.toInCall.fresh)) (x.toInCall.keep b o e)
  · exact (x.cell k c hc).sameBut hs' (Nat.ne_of_gt (x.above k c (PySem.mem_of_lookup hc)))
theorem stCX {n : Str} {c : Addr} {v : Value} {Q : Unit → Shared → Prop} (x : InCallC s₀ env.locals m cs cm s) (hk : env.scope.kind = .function) (hl : env.kindOf n = some .cell)
    (hc0 : cs.lookup n = some c) (hc : env.cells.lookup n = some c)
    (h : ∀ s', InCallC s₀ env.locals m cs (fun y => if y = n then some v else cm y) s' → Q () s') : wpAny M A (storeName env n v) Q E s := by
  have hLc := x.above n c (PySem.mem_of_lookup hc0)
  refine wpAny_storeName_cell hk hl hc (x.cell n c hc0) fun h' hc' hs' => h _ ⟨⟨?_, x.toInCall.ns.sameBut hs' (Nat.ne_of_lt hLc), fun b o e => ?_, x.toInCall.fresh⟩, fun k c' hk' => ?_, x.apart, x.above⟩
  · obtain ⟨h₁, tk, rfl⟩ := x.toInCall.same
    exact ⟨h', _, rfl⟩
  · exact hs'.extBut b o (Nat.ne_of_lt (Nat.lt_trans (Nat.lt_of_lt_of_le (Heap.lt_size e) x.toInCall.fresh) hLc)) (x.toInCall.keep b o e)
  · by_cases hkn : k = n
    · subst hkn
      rw [hc0] at hk'; cases hk'
      simpa using hc'
    · rw [if_neg hkn]
      exact (x.cell k c' hk').sameBut hs' fun e => hkn (name_of_addr x.apart (PySem.mem_of_lookup hk') (e ▸ PySem.mem_of_lookup hc0))
theorem bindX (f : Str × Value → PUnit → Sem (ForInStep PUnit)) (hf : ∀ n v u, f (n, v) u = (do storeName env n v; pure (.yield ⟨⟩))) (hk : env.scope.kind = .function) (hcs : ∀ n c, cs.lookup n = some c → env.cells.lookup n = some c) :
    ∀ (binds : List (Str × Value)) (m cm : Str → Option Value) (s : Shared) (Q : PUnit → Shared → Prop), InCallC s₀ env.locals m cs cm s →
      (∀ x ∈ binds, env.kindOf x.1 = some .local ∨ (env.kindOf x.1 = some .cell ∧ (cs.lookup x.1).isSome = true)) →
      (∀ s', InCallC s₀ env.locals (bindL env.kindOf binds m) cs (bindC env.kindOf binds cm) s' → Q ⟨⟩ s') → wpAny M A (forIn binds ⟨⟩ f) Q E s
  | [], m, cm, s, Q, x, _, h => by rw [List.forIn_nil]; exact wpAny_pure (h s x)
  | (n, v) :: r, m, cm, s, Q, x, hkind, h => by
    rw [List.forIn_cons, hf]
    have hr : ∀ y ∈ r, env.kindOf y.1 = some .local ∨ (env.kindOf y.1 = some .cell ∧ (cs.lookup y.1).isSome = true) := fun y hy => hkind y (List.mem_cons_of_mem _ hy)
    rcases hkind (n, v) List.mem_cons_self with hl | ⟨hl, hc⟩
    · refine wpAny_bind (wpAny_bind (stLX x hk hl fun s' x' => wpAny_pure (bindX f hf hk hcs r _ _ s' Q x' hr fun s'' x'' => h s'' ?_)))
      unfold bindL bindC; rw [if_pos hl, if_pos hl]; exact x''
    · obtain ⟨c, hc⟩ := Option.isSome_iff_exists.mp hc
      have hnl : ¬ env.kindOf n = some .local := by rw [hl]; decide
      refine wpAny_bind (wpAny_bind (stCX x hk hl hc (hcs _ _ hc) fun s' x' => wpAny_pure (bindX f hf hk hcs r _ _ s' Q x' hr fun s'' x'' => h s'' ?_)))
      unfold bindL bindC; rw [if_neg hnl, if_neg hnl]; exact x''
theorem newEnvX {scope : Scope} {globals : Addr} {clo : List (Str × Addr)} {binds : List (Str × Value)} {qual : Str} {func : Option Addr} {code : Value} {builtins : Addr} {Q : Env → Shared → Prop}
    (hk : scope.kind = .function)
    (hkind : ∀ x ∈ binds, scope.names.lookup x.1 = some .local ∨ (scope.names.lookup x.1 = some .cell ∧ ((cellsFrom (s.heap.objs.size + 1) scope.names []).lookup x.1).isSome = true))
    (hQ : ∀ env, env = newEnv scope s.heap.objs.size globals (cellsFrom (s.heap.objs.size + 1) scope.names clo) qual func code none builtins →
      ∀ s', InCallC s env.locals (bindL env.kindOf binds fun _ => none) (cellsFrom (s.heap.objs.size + 1) scope.names []) (bindC env.kindOf binds fun _ => none) s' → Q env s') :
    wpAny M A (newFunctionEnv scope globals clo binds qual func code none builtins) Q E s := by
  simp only [newFunctionEnv, Option.isSome_none, Bool.false_eq_true, if_false]
  refine wpAny_bind (wpAny_alloc ?_)
  refine wpAny_bind (wpAny_layCells _ (fun name kind cells => by cases hkc : kind == NameKind.cell <;> simp [hkc]) _ _ _ _ ?_)
  have ok := cellsFrom_ok scope.names (s.heap.push { cls := .type "frame", data := .dict #[] }) (s.heap.objs.size + 1) [] ⟨fun _ _ hm => (nomatch hm), List.Pairwise.nil⟩ (by rw [Heap.size_push]; exact Nat.le_refl _)
  rw [Heap.size_push] at ok
  rw [show ({ s with heap := s.heap.push { cls := .type "frame", data := .dict #[] } } : Shared).heap.objs.size = s.heap.objs.size + 1 from Heap.size_push ..]
  refine wpAny_bind (bindX (s₀ := s) (cs := cellsFrom (s.heap.objs.size + 1) scope.names []) (env := newEnv scope s.heap.objs.size globals (cellsFrom (s.heap.objs.size + 1) scope.names clo) qual func code none builtins)
    _ (fun _ _ _ => rfl) hk (fun n c h => ?_) binds (fun _ => none) (fun _ => none) _ _
    ⟨⟨⟨_, _, rfl⟩, (Heap.Ns.new s.heap (.type "frame")).keeps (pushCells_keeps _ _), fun b o e => pushCells_keeps _ _ b o (Heap.get?_push_of_some _ e), Nat.le_refl _⟩,
      fun n c hc => (ok.empty n c (PySem.mem_of_lookup hc)).1, ok.apart, fun n c hm => (ok.empty n c hm).2⟩
    hkind fun s' x => wpAny_pure (hQ _ rfl s' x))
  show (cellsFrom (s.heap.objs.size + 1) scope.names clo).lookup n = some c
  rw [show clo = [] ++ clo from rfl, cellsFrom_app]
  exact look_app h
end

/-! ### the frame of such a def -/
abbrev envS (qual : Str) (scope : Scope) (L a : Addr) (cd : Value) (cc : Addr) : Env :=
  { scope := scope, locals := L, globals := mainGlobals, cells := cellsFrom (L + 1) scope.names [("__class__", cc)], qual := qual ++ ".<locals>.", func := some a, code := cd, frame := some L, builtins := builtinsNs }
structure SScope (N ps : List Str) (sc : Scope) : Prop where
  kind : sc.kind = .function
  co : sc.isCoroutine = false
  gen : sc.isGenerator = false
  nd : N.Nodup
  pre : N.take ps.length = ps
  par : ∀ x ∈ ps, sc.names.lookup x = some .local ∨ sc.names.lookup x = some .cell
  free : ∀ y ∈ sc.names, y.2 = NameKind.free → y.1 = ("__class__" : Str)
  cls : sc.names.lookup ("__class__" : Str) = some NameKind.free
  nocls : (("__class__" : Str), NameKind.cell) ∉ sc.names
  sup : sc.names.lookup ("super" : Str) = some NameKind.globalImplicit
def cxS (CX : CXT) (P : Program) (w : World) (K : PySem.W.Frag) (mg : Str → Option Value) (base : Heap) (N : List Str) (qual : Str) (scope : Scope) (f : Addr) (cd : Value) (cc : Addr) (A : Around) (outer : List Env) (s : Shared) (H : Hp) (E : XK) : Cx where
  prog := P
  w := w
  K := K
  mg := mg
  base := base
  A := A.deeper (envS qual scope s.heap.objs.size f cd cc)
  N := N
  s_0 := s
  H_0 := H
  env := envS qual scope s.heap.objs.size f cd cc
  outer := outer
  stack := envS qual scope s.heap.objs.size f cd cc :: outer
  ex := []
  calm := true
  fn := fun y => !(y == "__class__")
  pn := []
  xe := fun e s' => wpAny (model P w) (A.deeper (envS qual scope s.heap.objs.size f cd cc)) (leaving (envS qual scope s.heap.objs.size f cd cc) e) (fun _ s'' => CX outer H s E e s'') (fun e' s'' => CX outer H s E e' s'') s'

theorem cells_eq (n : Nat) (names : List (Str × NameKind)) (cc : Addr) : cellsFrom n names [(("__class__" : Str), cc)] = cellsFrom n names [] ++ [(("__class__" : Str), cc)] := cellsFrom_app names n [] _
theorem names_of_cells : ∀ {names : List (Str × NameKind)} {n : Nat} {acc : List (Str × Addr)} {x : Str} {c : Addr}, (x, c) ∈ cellsFrom n names acc → (x, c) ∈ acc ∨ (x, NameKind.cell) ∈ names
  | [], _, _, _, _, h => .inl h
  | (name, kind) :: r, n, acc, x, c, h => by
    unfold cellsFrom at h
    split at h
    · rename_i hk
      rcases names_of_cells h with q | q
      · rcases List.mem_cons.mp q with e | q
        · cases e
          exact .inr (by rw [beq_iff_eq.mp hk]; exact List.mem_cons_self)
        · exact .inl q
      · exact .inr (List.mem_cons_of_mem _ q)
    · rcases names_of_cells h with q | q
      · exact .inl q
      · exact .inr (List.mem_cons_of_mem _ q)
/-- a name's cell: one of the frame's own, or the class's -/
theorem cell_cases {n : Nat} {names : List (Str × NameKind)} {cc : Addr} {x : Str} {c : Addr} (h : (cellsFrom n names [(("__class__" : Str), cc)]).lookup x = some c) :
    (cellsFrom n names []).lookup x = some c ∨ ((cellsFrom n names []).lookup x = none ∧ x = "__class__" ∧ c = cc) := by
  rw [cells_eq, List.lookup_append] at h
  cases e : (cellsFrom n names []).lookup x with
  | some d => rw [e] at h; exact .inl h
  | none =>
    rw [e] at h
    have h2 : List.lookup x [(("__class__" : Str), cc)] = some c := h
    rw [List.lookup_cons] at h2
    split at h2
    · rename_i hx
      exact .inr ⟨rfl, beq_iff_eq.mp hx, (Option.some.inj h2).symm⟩
    · cases h2

theorem inv_startS {CX : CXT} {P : Program} {w : World} {K : PySem.W.Frag} {mg : Str → Option Value} {base : Heap} {N ps : List Str} {qual : Str} {scope : Scope} {f : Addr} {cd : Value} {cc : Addr} {A : Around} {outer : List Env} {s s1 : Shared} {H : Hp} {E : XK} {us : List Value} {vs : List V} {cv : Option Value}
    (S : SScope N ps scope) (hd : A.handled = none) (e0 : Env0 P w K mg base A outer s H) (hl : vs.length = ps.length) (r : Vals vs us) (hcc : base.IsCell cc cv)
    (x : InCallC s s.heap.objs.size (bindL (envS qual scope s.heap.objs.size f cd cc).kindOf (ps.zip us) fun _ => none) (cellsFrom (s.heap.objs.size + 1) scope.names []) (bindC (envS qual scope s.heap.objs.size f cd cc).kindOf (ps.zip us) fun _ => none) s1) :
    Inv (cxS CX P w K mg base N qual scope f cd cc A outer s H E) [] (L2.start N vs) H s1 := by
  have hpl : ps.length ≤ N.length := by have := congrArg List.length S.pre; rw [List.length_take] at this; omega
  obtain ⟨oc, hoc, hocd⟩ := hcc
  have hcs : s.heap.get? cc = some oc ∧ H cc = none := e0.bs cc oc hoc
  have hlt : cc < s.heap.objs.size := Heap.lt_size hcs.1
  obtain ⟨h1, tk, rfl, hk⟩ := x.done
  have noA : ∀ b : Addr, b ∉ (cxS CX P w K mg base N qual scope f cd cc A outer s H E).ex := fun b z => absurd (show b ∈ ([] : List Addr) from z) (by simp)
  have own : ∀ {y : Str} {c : Addr}, (cellsFrom (s.heap.objs.size + 1) scope.names []).lookup y = some c → s.heap.objs.size < c := fun h => x.above _ _ (PySem.mem_of_lookup h)
  refine ⟨⟨e0.mod, S.kind, rfl, rfl, Nat.le_refl _, fun y z c h1 h2 => ?_, fun y hy => ?_, fun y c hf h => ?_, fun _ => hd, Around.frames_deeper e0.frames, .inr ⟨rfl, rfl⟩, fun b z => absurd z (noA b), e0.bs, e0.bsz, fun b _ _ => noA b, fun b z => absurd z (noA b), e0.funs, e0.frf⟩,
    rfl, e0.bare, Un.kept hk, ⟨_, x.toInCall.ns, fun i y v h1 h2 h3 => ?_⟩, fun y c h => ?_, e0.hok.fresh (Nat.le_refl _), fun y c h => ?_, fun p hp => absurd (show p ∈ ([] : List (Addr × Obj)) from hp) (by simp), e0.hok.kept hk, ?_⟩
  · rcases cell_cases h1 with q1 | ⟨_, q1, e1⟩
    · rcases cell_cases h2 with q2 | ⟨_, q2, e2⟩
      · exact name_of_addr x.apart (PySem.mem_of_lookup q1) (PySem.mem_of_lookup q2)
      · have z := own q1
        rw [e2] at z
        exact absurd (Nat.lt_trans z hlt) (Nat.lt_irrefl _)
    · rcases cell_cases h2 with q2 | ⟨_, q2, e2⟩
      · have z := own q2
        rw [e1] at z
        exact absurd (Nat.lt_trans z hlt) (Nat.lt_irrefl _)
      · rw [q1, q2]
  · have hy : scope.names.lookup y = some .cell ∨ scope.names.lookup y = some .free := hy
    rcases hy with hy | hy
    · obtain ⟨c, e⟩ := cell_has (n := s.heap.objs.size + 1) hy
      refine ⟨c, ?_⟩
      show (cellsFrom (s.heap.objs.size + 1) scope.names [("__class__", cc)]).lookup y = some c
      rw [cells_eq]
      exact look_app e
    · have e := S.free _ (PySem.mem_of_lookup hy) rfl
      have e : y = "__class__" := e
      subst e
      cases q : (cellsFrom (s.heap.objs.size + 1) scope.names []).lookup ("__class__" : Str) with
      | some c =>
        refine ⟨c, ?_⟩
        show (cellsFrom (s.heap.objs.size + 1) scope.names [("__class__", cc)]).lookup ("__class__" : Str) = some c
        rw [cells_eq]
        exact look_app q
      | none =>
        refine ⟨cc, ?_⟩
        show (cellsFrom (s.heap.objs.size + 1) scope.names [("__class__", cc)]).lookup ("__class__" : Str) = some cc
        rw [cells_eq, List.lookup_append, q]
        simp [List.lookup]
  · rcases cell_cases h with q | ⟨_, q, _⟩
    · exact Nat.le_of_lt (own q)
    · have hf : (!(y == ("__class__" : Str))) = true := hf
      rw [q] at hf
      simp at hf
  · have hi : i < vs.length := by
      unfold L2.start at h2
      by_cases hi : i < vs.length
      · exact hi
      · rw [List.getElem?_append_right (by simpa using hi)] at h2
        rw [List.getElem?_replicate] at h2
        split at h2 <;> cases h2
    have ha : vs[i]? = some v := by
      unfold L2.start at h2
      rw [List.getElem?_append_left (by simpa using hi), List.getElem?_map] at h2
      cases e : vs[i]? with
      | none => rw [e] at h2; cases h2
      | some a => rw [e] at h2; cases h2; rfl
    obtain ⟨u, hu, rv⟩ := r.get ha
    have hp : ps[i]? = some y := by
      rw [← S.pre, List.getElem?_take_of_lt (by omega)]; exact h1
    have ndP : ps.Nodup := by rw [← S.pre]; exact S.nd.sublist (List.take_sublist _ _)
    refine ⟨u, rv, ?_⟩
    rcases S.par y (List.mem_of_getElem? hp) with k | k
    · exact .inl ⟨k, bindL_get ndP hp hu k⟩
    · obtain ⟨c, e⟩ := cell_has (n := s.heap.objs.size + 1) k
      refine .inr ⟨.inl k, c, ?_, ?_⟩
      · show (cellsFrom (s.heap.objs.size + 1) scope.names [("__class__", cc)]).lookup y = some c
        rw [cells_eq]
        exact look_app e
      · have q := x.cell y c e
        rw [bindC_get ndP hp hu (by show scope.names.lookup y ≠ _; rw [k]; decide)] at q
        exact q
  · rcases cell_cases h with q | ⟨_, _, q⟩
    · exact ⟨_, x.cell y c q⟩
    · rw [q]
      exact ⟨cv, oc, hk _ _ hcs.1, hocd⟩
  · rcases cell_cases h with q | ⟨_, _, q⟩
    · exact e0.hok.fresh (Nat.le_of_lt (own q))
    · rw [q]
      exact hcs.2
  · unfold L2.start
    show _ = N.length
    rw [List.length_append, List.length_map, List.length_replicate]
    omega
end SupX

set_option maxRecDepth 100000
set_option maxHeartbeats 2000000
namespace SupX
open PySem PySem.W PyProof.Rows L2

/-- what the written part tells of super() in a def of the class at C, the def at f with the code object at cda and the class's cell at cc; f2 is the base's __init__ -/
structure SupF (P : Program) (K : Frag) (mg : Str → Option Value) (C f cda cc f2 : Addr) (slf : Str) : Prop where
  cl : Cls K C
  cd : ∃ c, clsIn K C = some c
  fn : ∃ (oc : Value) (od : Option Addr) (fd : FuncData) (osl : Array (Option Value)) (ar : Arg), K.lookup f = some ⟨oc, od, .func fd, osl⟩ ∧ (fd.params.posonlyargs ++ fd.params.args).head? = some ar ∧ ar.arg = slf
  code : ∃ (ccl : Value) (cdd : Option Addr) (vs : Array Value) (ccs : Array (Option Value)) (file : Str) (tf : Tok), K.lookup cda = some ⟨ccl, cdd, .fields vs, ccs⟩ ∧ vs[2]? = some (.str file tf) ∧ ((P.main.file : Str) == file) = true
  cell : ∃ (cl : Value) (cld : Option Addr) (csl : Array (Option Value)), K.lookup cc = some ⟨cl, cld, .cell (some (.ref C)), csl⟩
  sub : mroIn K C (.ref C) = some true
  gsup : mg "super" = none
  tp : nsIn K cStatics "thirdparty.any" = some none
  sin : ks_superIn K C C "__init__" = some (some (.ref f2))
  tf2 : typeIn K (.ref f2) = some (.type "function")
  ff2 : fnIn K f2 = true
  htop : (P.main.scope.names.lookup ("super" : Str)).isSome = false

theorem boot_super : bootBuiltins "super" = some (.type "super") := by first | boot_by_name | rfl | kernel_rfl | decide +kernel

section
variable {X : Cx} {body : List Stmt} {pins : List (Addr × Obj)} {σ : L2.St} {H : Hp} {s : Shared} {C f cda cc f2 x dx : Addr} {slf : Str} {fs : List (Str × V)} {pos p0 p1 : Pos}
/-- super(), in a def of the class at C: the object stands behind, all else is kept -/
theorem sup_base {attr : Str} {whole : Sem Value} {Q : Value → Shared → Prop} {E : Value → Shared → Prop} (I : Inv X pins σ H s) (T : SupF X.prog X.K X.mg C f cda cc f2 slf)
    (hks : X.env.kindOf "super" = some .globalImplicit) (hkc : X.env.kindOf "__class__" = some .free) (hat : (attr == ("__class__" : Str)) = false) (hfu : X.env.func = some f) (hco : X.env.code = .ref cda)
    (hcl : X.env.cells.lookup ("__class__" : Str) = some cc) (hN : X.N[0]? = some slf) (hl : X.env.scope.names.lookup slf = some .local) (hσ : σ[0]? = some (some (.ref x))) (hx : H x = some (.ins C dx fs))
    (h : ∀ so h' , (∀ b o, s.heap.get? b = some o → h'.get? b = some o) → s.heap.objs.size ≤ so → h'.get? so = some (ks_superObj C x C) → Q (.ref so) { s with heap := h' }) :
    _root_.PySem.wpAt (model X.prog X.w) X.A (.func body X.env) (attributeBase (.Call (.Name "super" p0) [] [] p1) attr X.env whole) Q E s := by
  obtain ⟨oc, od, fd, osl, ar, hf, hp, har⟩ := T.fn
  obtain ⟨ccl, cdd, vs, ccs, file, tf, hcode, hvs, hfile⟩ := T.code
  obtain ⟨cl, cld, csl, hcell⟩ := T.cell
  obtain ⟨cdD, hD⟩ := T.cd
  have KI : X.K.In s.heap := I.kIn
  obtain ⟨m, hns, hlk⟩ := id I.loc
  obtain ⟨u, ru, lu⟩ := hlk 0 slf (.ref x) hN hσ (.inl hl)
  obtain rfl : u = Value.ref x := ru
  obtain ⟨mA, O, _⟩ := ins_get I.hok hx
  obtain ⟨odx, J, _⟩ := O.look
  obtain ⟨mb, hb1, hb2⟩ := I.mod.blt
  obtain ⟨hh, g, d, t, os⟩ := s
  obtain ⟨oD, hD1, hD2⟩ : ∃ oD, hh.get? C = some oD ∧ oD.data = .cls cdD := by
    unfold clsIn at hD
    split at hD
    · rename_i c d cd' sl ho
      cases hD
      exact ⟨_, KI _ _ ho, rfl⟩
    · cases hD
  have hself : m slf = some (.ref x) := by
    rcases lu with ⟨_, q⟩ | ⟨q, _⟩
    · exact q
    · have q' : X.env.scope.names.lookup slf = some .cell ∨ X.env.scope.names.lookup slf = some .free := q
      rw [hl] at q'
      rcases q' with q' | q' <;> cases q'
  refine ks_wpAt_super_base (env := X.env) hks hkc hat hfu (KI _ _ hf) rfl hp hco (KI _ _ hcode) rfl hvs hfile T.htop ?_
  refine ks_loadName_global I.ok.kind hks (Calls.loadGlobal_builtin (env := X.env) (by rw [I.ok.glob]; exact I.mod.glob.keeps I.bk) T.gsup (by rw [I.ok.blt]; exact hb1.keeps I.bk) ((hb2 _ (by decide +kernel)).trans boot_super) ⟨rfl, ?_⟩)
  refine wpAny_loadName_free I.ok.kind hkc hcl ⟨_, KI _ _ hcell, rfl⟩ ?_
  rw [har]
  refine wpAny_loadName_local I.ok.kind hl hns hself ?_
  refine ks_wpAny_isType_cls hD1 hD2 ⟨rfl, ?_⟩
  refine ks_wpAny_call_super hD1 hD2 J.at_ J.cls (fun c e => ?_) (looks_mroIn KI T.sub) (fun h' e k => ?_)
  · have q := J.no
    unfold notCls at q
    rw [e] at q
    exact Bool.noConfusion q
  · exact h _ _ k (Nat.le_refl _) e
/-- .. its method of this name: a bound method, the base's def and the instance -/
theorem sup_method {so : Addr} {pl : Sem Bool} {Q : Value × List Value → Shared → Prop} {A : Around} {E : Value → Shared → Prop} (I : Inv X pins σ H s) (T : SupF X.prog X.K X.mg C f cda cc f2 slf) (hx : H x = some (.ins C dx fs))
    (hso : s.heap.get? so = some (ks_superObj C x C))
    (h : ∀ q h', (∀ b o, s.heap.get? b = some o → h'.get? b = some o) → s.heap.objs.size ≤ q → h'.get? q = some (methodObj (.ref f2) (.ref x)) → Q (.ref q, []) { s with heap := h', toks := s.toks + 1 }) :
    wpAny (model X.prog X.w) A (getMethod (.ref so) "__init__" pl) Q E s := by
  have KI : X.K.In s.heap := I.kIn
  obtain ⟨mA, O, _⟩ := ins_get I.hok hx
  obtain ⟨odx, J, _⟩ := O.look
  obtain ⟨hh, g, d, t, os⟩ := s
  have hm := T.sin
  cases hc : clsIn X.K C with
  | none => unfold ks_superIn at hm; rw [hc] at hm; cases hm
  | some cd =>
    unfold ks_superIn at hm
    rw [hc] at hm
    obtain ⟨of, hof, hofc⟩ : ∃ of, hh.get? f2 = some of ∧ of.cls = .type "function" := by
      have ht' : (X.K.lookup f2).map (·.cls) = some (.type "function") := T.tf2
      cases z : X.K.lookup f2 with
      | none => rw [z] at ht'; cases ht'
      | some of => rw [z] at ht'; exact ⟨of, KI _ _ z, Option.some.inj ht'⟩
    refine ks_wpAny_getMethod_super hso (looks_opaque KI T.tp) (l₀ := cd.mro) ?_ rfl KI hm hof hofc (ks_ne KI J hc) (by decide) ?_
    · exact fun A Q E s k q => wpAny_bind ((looks_clsIn KI hc) A _ E s k (wpAny_pure q))
    · exact h _ _ (fun b o e => Heap.get?_push_of_some _ e) (Nat.le_refl _) (Heap.get?_push_at rfl rfl)
end

def tSup (sp : Sp) (E : XK) (t : TA) : L2.TS := fun D σ H => ∃ x, σ[0]? = some (some (.ref x)) ∧ t σ H fun vs H1 => sp (.ref x :: vs) H1 (fun v H2 => D.nx σ H2) E

section
variable {X : Cx} {body : List Stmt} {pins : List (Addr × Obj)} {σ : L2.St} {H : Hp} {s : Shared} {C f cda cc f2 x dx : Addr} {slf : Str} {fs : List (Str × V)} {p0 p1 p2 p3 p4 : Pos} {e : Expr} {es : List Expr} {t : TA}
  {CX : CXT} {k : Nat} {fd2 : FuncData} {ps : List Str} {sp : Sp} {E : XK}
/-- super().__init__(e, ..), the first statement -/
theorem sup_stmt (I : Inv X pins σ H s) (T : SupF X.prog X.K X.mg C f cda cc f2 slf) (F2 : FnOk X.prog X.w X.K X.mg X.base CX k f2 fd2 ps sp) (hr : Room k X.A) (hb : Binds X.K fd2 ps []) (hxs : Passes CX X E) (ha : PA X (e :: es) t) {D : Ends}
    (hks : X.env.kindOf "super" = some .globalImplicit) (hkc : X.env.kindOf "__class__" = some .free) (hfu : X.env.func = some f) (hco : X.env.code = .ref cda)
    (hcl : X.env.cells.lookup ("__class__" : Str) = some cc) (hN : X.N[0]? = some slf) (hl : X.env.scope.names.lookup slf = some .local) (hσ : σ[0]? = some (some (.ref x))) (hx : H x = some (.ins C dx fs))
    (h : t σ H fun vs H1 => sp (.ref x :: vs) H1 (fun v H2 => D.nx σ H2) E)
    (he : starEach (e :: es) X.env = (false, eval e X.env) :: starEach es X.env := by rfl) (hpl : (backTo p3 (starEach es X.env)).any (·.1) = false := by rfl)
    (hi : interactive X.env = false := by rfl) (hsw : swapsWith (.Call (.Attribute (.Call (.Name "super" p0) [] [] p1) "__init__" p2) (e :: es) [] p3) none p4.line X.env = pure false := by rfl) {pl : Sem Bool}
    (hcall : eval (.Call (.Attribute (.Call (.Name "super" p0) [] [] p1) "__init__" p2) (e :: es) [] p3) X.env = (do
      let ov ← attributeBase (.Call (.Name "super" p0) [] [] p1) "__init__" X.env (eval (.Call (.Name "super" p0) [] [] p1) X.env)
      standAt p2.atName
      let (f, first) ← holding [ov] (getMethod ov "__init__" pl)
      callWith p3 f first (backTo p3 (starEach (e :: es) X.env)) []) := by rfl) :
    _root_.PySem.wpAt (model X.prog X.w) X.A (.func body X.env) (exec (.Expr (.Call (.Attribute (.Call (.Name "super" p0) [] [] p1) "__init__" p2) (e :: es) [] p3) p4) X.env)
      (fun fl s' => fl = .next ∧ ∃ H', Inv X pins σ H' s' ∧ D.nx σ H') X.xe s := by
  refine ks_wpAt_Expr_any ?_ hi hsw
  refine ks_wpAt_MethodCall (pl := pl) ?_ hcall
  refine sup_base I T hks hkc (by decide) hfu hco hcl hN hl hσ hx fun so h1 k1 l1 e1 => ?_
  have I1 : Inv X pins σ H { s with heap := h1 } := I.kept (t' := s.toks) k1
  refine sup_method I1 T hx e1 fun q h2 k2 l2 e2 => ?_
  have I2 : Inv X pins σ H { s with heap := h2, toks := s.toks + 1 } := I1.kept (h' := h2) (t' := s.toks + 1) k2
  have hqf : H q = none := I1.hok.fresh l2
  have I3 : Inv X ((q, methodObj (.ref f2) (.ref x)) :: pins) σ H { s with heap := h2, toks := s.toks + 1 } := I2.pins_of fun p hp => by
    rcases List.mem_cons.mp hp with rfl | hp
    · refine ⟨e2, hqf, fun z => ?_, I1.nofs l2, fun v z => by cases z⟩
      have q1 := I1.lt
      rw [← z] at q1
      exact absurd (Nat.lt_of_lt_of_le q1 l2) (Nat.lt_irrefl _)
    · exact I2.pin p (List.mem_append_right _ hp)
  have hrun : wpAny (model X.prog X.w) X.A (spliced (backTo p3 (starEach (e :: es) X.env))) (fun us s1 => MethP X.K q f2 (.ref x) s1.heap ∧ wpAny (model X.prog X.w) X.A (call (.ref q) ([] ++ us)) (fun _ s' => (Flow.next = Flow.next) ∧ ∃ H', Inv X pins σ H' s' ∧ D.nx σ H') X.xe s1) X.xe { s with heap := h2, toks := s.toks + 1 } := by
    refine thn (ha.run p3 _ _ σ H _ I3 h) fun us s1 ⟨vs, H1, J1, r, hsp⟩ => ?_
    have hq1 : s1.heap.get? q = some (methodObj (.ref f2) (.ref x)) := (J1.pin (q, methodObj (.ref f2) (.ref x)) (List.mem_append_right _ List.mem_cons_self)).1
    have J2 : Inv X pins σ H1 s1 := J1.pins_of fun p hp => J1.pin p (List.mem_append_right _ (List.mem_cons_of_mem _ hp))
    refine ⟨⟨hq1, J1.kIn⟩, ?_⟩
    show wpAny _ _ (call (.ref q) us) _ _ s1
    refine wpAny_call (ks_codeAny_call_bound hq1 ?_)
    have r2 : Vals (V.ref x :: vs) (Value.ref x :: us) := .cons rfl r
    have hl2 : ((Value.ref x :: us) ++ []).length = ps.length := by rw [List.append_nil, ← r2.length]; exact F2.len _ _ _ _ hsp
    have hbt := hb s1 (Value.ref x :: us) J2.kIn hl2
    rw [List.append_nil] at hbt
    refine codeAny_mono (F2.run X.A X.stack s1 H1 ⟨Value.ref x :: us, []⟩ (Value.ref x :: us) (V.ref x :: vs) _ E hr J2.env0 hbt r2 hsp) fun rr s' hq' => ?_
    cases rr with
    | error e => exact hxs pins σ H1 s1 e s' J2 hq'
    | ok fl =>
      cases fl with
      | ret u =>
        obtain ⟨v, H', I4, rv, q4⟩ := J2.after hq'
        exact ⟨rfl, H', I4, q4⟩
      | next => exact False.elim hq'
      | brk => exact False.elim hq'
      | cont => exact False.elim hq'
  rw [he] at hrun ⊢
  exact callWith_of (P := MethP X.K q f2 (.ref x)) (by show ((false || (backTo p3 (starEach es X.env)).any (·.1)) || false) = false; rw [hpl]; rfl) (keeps_M T.ff2) (Calls.evalArgs_plain hrun)
theorem PAnox {X : Cx} {es : List Expr} {t : TA} (h : PA X.nox es t) : PA X es t := ⟨fun pos pins s σ H Q I hw =>
  wpAny_mono (h.run pos pins s σ H Q (I.wish _) hw) (fun _ _ ⟨v, H', I', r, q⟩ => ⟨v, H', I'.unwish, r, q⟩) fun _ _ z => False.elim z⟩
end
end SupX

set_option maxRecDepth 100000
set_option maxHeartbeats 2000000
namespace SupX
open PySem PySem.W PyProof.Rows L2

/-- a def (at f) of the class at C that says super(): its text st, its class's cell at cc -/
structure FunS (P : Program) (K : Frag) (mg : Str → Option Value) (nm qual : Str) (st : Stmt) (C f cc cda f2 : Addr) (slf : Str) (fd : FuncData) : Prop where
  ex : ∃ (oc : Value) (od : Option Addr) (kV doc pm : Value) (an : Option Addr) (ct : Value) (osl : Array (Option Value)),
    fd = fnX nm qual (defArgs st) (defBody st) (defScope st) [("__class__", cc)] .none kV doc pm an (.ref cda) ct ∧ K.lookup f = some ⟨oc, od, .func fd, osl⟩ ∧ codeIn K (.ref cda) qual = true
  kp : keepIn K (.ref f) = true
  sup : SupF P K mg C f cda cc f2 slf
  hl : (defScope st).names.lookup slf = some NameKind.local

section
variable {P : Program} {w : World} {K : Frag} {mg : Str → Option Value} {base : Heap}
theorem FunS.binds {nm qual : Str} {st : Stmt} {C f cc cda f2 : Addr} {slf : Str} {fd : FuncData} {ps : List Str} (F : FunS P K mg nm qual st C f cc cda f2 slf fd)
    (h : ∀ (kV doc pm : Value) (an : Option Addr) (ct : Value) (us : List Value), us.length = ps.length → bindArgs (fnX nm qual (defArgs st) (defBody st) (defScope st) [("__class__", cc)] .none kV doc pm an (.ref cda) ct) ⟨us, []⟩ = pure (ps.zip us)) : Binds K fd ps [] := by
  obtain ⟨oc, od, kV, doc, pm, an, ct, osl, rfl, lk, hcd⟩ := F.ex
  exact .all (h kV doc pm an ct)
/-- THE RULE -/
theorem FunS.ok {nm qual : Str} {st : Stmt} {C f cc cda f2 : Addr} {slf : Str} {fd fd2 : FuncData} {N ps ps2 : List Str} {k k2 : Nat} {sp sp2 : Sp} {e : Expr} {es : List Expr} {rest : List Stmt} {p0 p1 p2 p3 p4 : Pos}
    (F : FunS P K mg nm qual st C f cc cda f2 slf fd) (S : SScope N ps (defScope st)) (hN : N[0]? = some slf)
    (hst : defBody st = .Expr (.Call (.Attribute (.Call (.Name "super" p0) [] [] p1) "__init__" p2) (e :: es) [] p3) p4 :: rest)
    (F2 : FnOk P w K mg base CX0 k2 f2 fd2 ps2 sp2) (hk : k2 ≤ k) (hb2 : Binds K fd2 ps2 [])
    (len : ∀ vs H Q E, sp vs H Q E → vs.length = ps.length)
    (hbody : ∀ (A : Around) (outer : List Env) (s : Shared) (H : Hp) (vs : List V) (Q : VK) (E : XK), Room k (A.deeper (envS qual (defScope st) s.heap.objs.size f (.ref cda) cc)) → sp vs H Q E →
      ∃ x dx fs ta t, vs[0]? = some (.ref x) ∧ H x = some (.ins C dx fs) ∧ PA (cxS CX0 P w K mg base N qual (defScope st) f (.ref cda) cc A outer s H E).nox (e :: es) ta ∧
        PSs (cxS CX0 P w K mg base N qual (defScope st) f (.ref cda) cc A outer s H E).nox rest t ∧
        ta (L2.start N vs) H fun vs' H1 => sp2 (.ref x :: vs') H1 (fun v H2 => t { nx := fun _ H' => Q .non H', rt := Q } (L2.start N vs) H2) E0)
    {pl : Sem Bool} 
    (he : ∀ env : Env, env.scope = defScope st → starEach (e :: es) env = (false, eval e env) :: starEach es env) (hpl : ∀ env : Env, env.scope = defScope st → (backTo p3 (starEach es env)).any (·.1) = false)
    (hi : ∀ env : Env, env.scope = defScope st → interactive env = false) (hsw : ∀ env : Env, env.scope = defScope st → swapsWith (.Call (.Attribute (.Call (.Name "super" p0) [] [] p1) "__init__" p2) (e :: es) [] p3) none p4.line env = pure false)
    (hcall : ∀ env : Env, env.scope = defScope st → eval (.Call (.Attribute (.Call (.Name "super" p0) [] [] p1) "__init__" p2) (e :: es) [] p3) env = (do
      let ov ← attributeBase (.Call (.Name "super" p0) [] [] p1) "__init__" env (eval (.Call (.Name "super" p0) [] [] p1) env)
      standAt p2.atName
      let (f, first) ← holding [ov] (getMethod ov "__init__" pl)
      callWith p3 f first (backTo p3 (starEach (e :: es) env)) [])) : FnOk P w K mg base CX0 (k + 1) f fd ps sp := by
  obtain ⟨oc, od, kV, doc, pm, an, ct, osl, rfl, lk, hcd⟩ := F.ex
  obtain ⟨cl, cld, csl, hcell⟩ := F.sup.cell
  refine ⟨len, fun A outer s H args us vs Q E hr e0 hb r hsp => ?_⟩
  have hl := len _ _ _ _ hsp
  have KX : K.In s.heap := e0.mod.kin.keeps fun b o e => (e0.bs b o e).1
  have lim : s.heap.NoLimit := e0.mod.nolimit.keeps fun b o e => (e0.bs b o e).1
  have hkind : ∀ y ∈ ps.zip us, (defScope st).names.lookup y.1 = some .local ∨ ((defScope st).names.lookup y.1 = some .cell ∧ ((cellsFrom (s.heap.objs.size + 1) (defScope st).names []).lookup y.1).isSome = true) := fun ⟨n, v⟩ hy => by
    rcases S.par n (List.of_mem_zip hy).1 with q | q
    · exact .inl q
    · exact .inr ⟨q, PySem.W.cellsFrom_some _ _ _ (.inl q)⟩
  refine codeAny_call_function hr.depth (KX _ _ lk) rfl S.co S.gen rfl (PySem.W.codeRec_of KX hcd) (hb _ _ _ _ ?_)
  refine newEnvX S.kind hkind fun env he' s1 x => ?_
  subst he'
  refine ⟨lim.keeps x.toInCall.keep, ?_⟩
  show codeAny _ _ (.func (defBody st) (envS qual (defScope st) s.heap.objs.size f (.ref cda) cc)) _ _
  refine ks_codeAny_funcAt ?_
  obtain ⟨xa, dx, fs, ta, t, hx0, hx, hta, ht, hq⟩ := hbody A outer s H vs Q E (hr.deeper _) hsp
  have I : Inv (cxS CX0 P w K mg base N qual (defScope st) f (.ref cda) cc A outer s H E) [] (L2.start N vs) H s1 := inv_startS S hr.hd e0 hl r (cv := some (.ref C)) ⟨_, e0.mod.kin _ _ hcell, rfl⟩ x
  have hσ : (L2.start N vs)[0]? = some (some (.ref xa)) := by
    unfold L2.start
    have h0 : 0 < vs.length := (List.getElem?_eq_some_iff.mp hx0).1
    rw [List.getElem?_append_left (by simpa using h0), List.getElem?_map, hx0] <;> rfl
  have fin : ∀ {s' : Shared} {σ' : L2.St} {H' : Hp} {v : V} {u : Value}, Inv (cxS CX0 P w K mg base N qual (defScope st) f (.ref cda) cc A outer s H E) [] σ' H' s' → RelV v u → Q v H' → CE outer P w H s Q u s' :=
    fun {s' σ' H' v u} J rv q => ⟨v, H', J.os, J.bare, J.base, J.hok, rv, q⟩
  rw [hst]
  refine ks_wpAt_execs_cons ?_
  have first := sup_stmt (X := cxS CX0 P w K mg base N qual (defScope st) f (.ref cda) cc A outer s H E) (body := defBody st) (D := { nx := fun σ' H2 => σ' = L2.start N vs ∧ t { nx := fun _ H' => Q .non H', rt := Q } (L2.start N vs) H2, rt := Q }) I F.sup F2 (Room.mono (hr.deeper _) hk) hb2 (E := E0) pass0 (PAnox hta) (p0 := p0) (p1 := p1) (p2 := p2) (p3 := p3) (p4 := p4) (pl := pl)
    S.sup S.cls rfl rfl (by
      show (cellsFrom (s.heap.objs.size + 1) (defScope st).names [("__class__", cc)]).lookup ("__class__" : Str) = some cc
      rw [cells_eq, List.lookup_append]
      have hn : (cellsFrom (s.heap.objs.size + 1) (defScope st).names []).lookup ("__class__" : Str) = none := by
        cases q : (cellsFrom (s.heap.objs.size + 1) (defScope st).names []).lookup ("__class__" : Str) with
        | none => rfl
        | some c =>
          rcases names_of_cells (PySem.mem_of_lookup q) with z | z
          · cases z
          · exact absurd z (S.nocls)
      rw [hn]
      simp [List.lookup]) hN F.hl hσ hx (by
        refine (?_ : ta (L2.start N vs) H _)
        have e0 : (fun (vs' : List V) (H1 : Hp) => sp2 (.ref xa :: vs') H1 (fun v H2 => (L2.start N vs) = L2.start N vs ∧ t { nx := fun _ H' => Q .non H', rt := Q } (L2.start N vs) H2) E0) = (fun vs' H1 => sp2 (.ref xa :: vs') H1 (fun v H2 => t { nx := fun _ H' => Q .non H', rt := Q } (L2.start N vs) H2) E0) := by
          funext vs' H1
          congr 1
          funext v H2
          exact propext ⟨fun z => z.2, fun z => ⟨rfl, z⟩⟩
        rw [e0]
        exact hq) (he _ rfl) (hpl _ rfl) (hi _ rfl) (hsw _ rfl) (hcall _ rfl)
  rw [← hst]
  refine ks_wpAt_mono first (fun fl s' hfl => ?_) fun e s' hs => hs
  obtain ⟨rfl, H', J, _, hts⟩ := hfl
  refine wpAt_of_wpAny (wpAny_mono (ht.nox.run [] s' (L2.start N vs) H' _ J hts) (fun fl s'' hs => ?_) fun e s'' hs => hs)
  cases fl with
  | ret u =>
    obtain ⟨v, σ', H', J, rv, q⟩ := hs
    exact fin J rv q
  | next =>
    obtain ⟨σ', H', J, q⟩ := hs
    exact fin (v := V.non) (u := Value.none) J rfl q
  | brk =>
    obtain ⟨_, _, _, q⟩ := hs
    exact False.elim q
  | cont =>
    obtain ⟨_, _, _, q⟩ := hs
    exact False.elim q
end
end SupX

set_option maxRecDepth 100000
set_option maxHeartbeats 4000000
/-! my layer over the hand layer: the rules that speak of the written part, with the part K told (they go within a comprehension's block, too) -/
namespace Ly
open PySem PySem.Spec PyProof.Rows L2
section
variable {X : Cx}
theorem ix_listK (K : PySem.W.Frag) (hK : X.K = K := by rfl) : IxR X (rIxL K) := hK ▸ ix_list
theorem ix_tupK (K : PySem.W.Frag) (hK : X.K = K := by rfl) : IxR X (rIxT K) := hK ▸ ix_tup
theorem ix_kdictK (K : PySem.W.Frag) (w : World) (hK : X.K = K := by rfl) (hw : X.w = w := by rfl) : IxR X (rIxD K w) := hK ▸ hw ▸ ix_kdict
theorem op_in_seqK (K : PySem.W.Frag) (hK : X.K = K := by rfl) : OpR X (compareOp .In) (rIn K false) := hK ▸ op_in_seq
theorem op_notIn_seqK (K : PySem.W.Frag) (hK : X.K = K := by rfl) : OpR X (compareOp .NotIn) (rIn K true) := hK ▸ op_notIn_seq
theorem op_eqDK (K : PySem.W.Frag) (hu : X.A.units + 64 < cLine) (hK : X.K = K := by rfl) : OpR X (compareOp .Eq) (rEqD K) := hK ▸ op_eqD hu
theorem op_neDK (K : PySem.W.Frag) (hu : X.A.units + 64 < cLine) (hK : X.K = K := by rfl) : OpR X (compareOp .NotEq) (rNeD K) := hK ▸ op_neD hu
def rLenQ (K : PySem.W.Frag) : List V → Hp → VK → Prop := fun xs H Q => ∃ p ys, xs = [.ref p] ∧ (SqL K H p ys ∨ SqT K H p ys) ∧ Q (.int ys.length) H
theorem call_lenK (K : PySem.W.Frag) (hK : X.K = K := by rfl) : CallR X (.builtin "len") (rLenQ K) := hK ▸ call_len_seq
def rTupOf (K : PySem.W.Frag) : List V → Hp → VK → Prop := fun xs H Q => ∃ p ys, xs = [.ref p] ∧ ((SqL K H p ys ∧ ∀ l, H l = none → Q (.ref l) (upd H l (.tup ys))) ∨ (SqT K H p ys ∧ Q (.ref p) H))
theorem call_tupleK (K : PySem.W.Frag) (hK : X.K = K := by rfl) : CallR X (.type "tuple") (rTupOf K) := hK ▸ call_tuple_of
theorem call_isiK (K : PySem.W.Frag) (hK : X.K = K := by rfl) : CallR X (.builtin "isinstance") (rIsi K) := hK ▸ call_isi
theorem pe_fldK (K : PySem.W.Frag) {e : Expr} {f : Str} {pos : Pos} {ta : TE} (he : PE X e ta) (hb : attributeBase e f X.env (eval e X.env) = eval e X.env) (hK : X.K = K := by rfl) : PE X (.Attribute e f pos) (tFld K ta f) := hK ▸ pe_fld he hb
theorem sl_listK (K : PySem.W.Frag) (hK : X.K = K := by rfl) : SlR X (rSlL K) := hK ▸ sl_list
theorem pi_listK (K : PySem.W.Frag) {tg e : Expr} {te : TE} (he : PE X e te) (hK : X.K = K := by rfl) : PI X tg e (iList K te) := hK ▸ pi_list he
theorem pi_tupK (K : PySem.W.Frag) {tg e : Expr} {te : TE} (he : PE X e te) (hK : X.K = K := by rfl) : PI X tg e (iTup K te) := hK ▸ pi_tup he
theorem ps_fldK (K : PySem.W.Frag) {o value : Expr} {f : Str} {pos pos' : Pos} {ta tv : TE} (ha : PE X o ta) (hv : PE X value tv) (hs : swapsWith value (some (.Attribute o f pos')) pos.line X.env = pure false) (hK : X.K = K := by rfl) : PS X (.Assign [.Attribute o f pos'] value pos) (sFld K ta tv f) := hK ▸ ps_fld ha hv hs
end
/-- cls(e, ..), cls a name that holds the class -/
def tMakeV (C : Addr) (sp : Sp) (dvs : List V) (E : XK) (tf : TE) (t : TA) : TE := fun σ H Q => tf σ H fun v H1 => v = .ref C ∧ tMake C sp dvs E t σ H1 Q
theorem pe_makeV {X : Cx} {CX : CXT} {k : Nat} {f C : Addr} {fd : FuncData} {ps : List Str} {sp : Sp} {dvs : List V} {ds : List Value} {E : XK} {x : Str} {p pos : Pos} {e : Expr} {es : List Expr} {t : TA} {tf : TE} (M : Mk X.K C f) (F : FnOk X.prog X.w X.K X.mg X.base CX k f fd ps sp) (hr : Room (k + 1) X.A)
    (hv : PE X (.Name x p) tf) (hb : Binds X.K fd ps ds) (hd : Vals dvs ds) (hx : Passes CX X E)
    (ha : PA X (e :: es) t) (he : starEach (e :: es) X.env = (false, eval e X.env) :: starEach es X.env := by rfl) (hpl : (backTo pos (starEach es X.env)).any (·.1) = false := by rfl) :
    PE X (.Call (.Name x p) (e :: es) [] pos) (tMakeV C sp dvs E tf t) := by
  refine ⟨fun pins s σ H Q I h => ?_⟩
  refine wpAny_Call_Name_kw (thn (hv.run pins s σ H _ I h) fun u s0 ⟨v, H0, I0, rv, ev, h0⟩ => ?_)
  subst ev
  obtain rfl : u = Value.ref C := rv
  refine PySem.W.callWith_K (h₀ := X.base) I.ok.mod.kin M.kp (thn (ha.run pos pins s0 σ H0 _ I0 h0) fun us s1 ⟨vs, H1, I1, r, q⟩ => ⟨I1.kIn, ?_⟩) he hpl
  exact run_make M F hr hb hd hx I1 r q
/-! ### small lemmas -/
theorem szl {n : Nat} (h : n ≤ 100000) : n ≤ sizeLine := Nat.le_trans h (by decide)
theorem szt {n : Nat} (h : n < 100000) : n < sizeLine := Nat.lt_of_lt_of_le h (by decide)
theorem asg {te : TE} {g : TG} {D : Ends} {σ : L2.St} {H : Hp} (R : V → Hp → Prop) (hi : ∀ Q' : VK, (∀ v H1, R v H1 → Q' v H1) → te σ H Q') (h : ∀ v H1, R v H1 → g v σ H1 D.nx) : tAsg te g D σ H := hi _ h
theorem retC {te : TE} {D : Ends} {σ : L2.St} {H : Hp} (R : V → Hp → Prop) (hi : ∀ Q' : VK, (∀ v H1, R v H1 → Q' v H1) → te σ H Q') (h : ∀ v H1, R v H1 → D.rt v H1) : tRet te D σ H := hi _ h
/-- a guard whose test never holds -/
theorem guardF {c : TT} {t rest : TS} {D : Ends} {σ : L2.St} {H : Hp} (R : Hp → Prop) (hc : ∀ Q' : Bool → Hp → Prop, (∀ H', R H' → Q' false H') → c σ H Q') (h : ∀ H', R H' → rest D σ H') : tSeq (tIfS c t tNext) rest D σ H := hc _ fun H' r => iteF (h H' r)
theorem same_new {H : Hp} {p : Addr} {o : HO} (h : H p = none) : Same H (upd H p o) := fun b u e => by
  rw [upd_ne (ne_of_none e h)]
  exact e
theorem same_mut {H H' : Hp} {p : Addr} {o : HO} (s : Same H H') (h : H p = none) : Same H (upd H' p o) := fun b u e => by
  rw [upd_ne (ne_of_none e h)]
  exact s b u e
theorem same_sqt {K : PySem.W.Frag} {H H' : Hp} {q : Addr} {xs : List V} (s : Same H H') (h : SqT K H q xs) : SqT K H' q xs := by
  rcases h with (h | ⟨ob, h⟩) | h
  · exact .inl (.inl (s _ _ h))
  · exact .inl (.inr ⟨ob, s _ _ h⟩)
  · exact .inr h
theorem same_sql {K : PySem.W.Frag} {H H' : Hp} {q : Addr} {xs : List V} (s : Same H H') (h : SqL K H q xs) : SqL K H' q xs := s.seq h
theorem sql_upd {K : PySem.W.Frag} {H : Hp} {p q : Addr} {o : HO} {xs : List V} (h : SqL K H q xs) (ne : q ≠ p) : SqL K (upd H p o) q xs := by
  rcases h with (h | ⟨ob, h⟩) | h
  · exact .inl (.inl (by rw [upd_ne ne]; exact h))
  · exact .inl (.inr ⟨ob, by rw [upd_ne ne]; exact h⟩)
  · exact .inr h
theorem sqt_upd {K : PySem.W.Frag} {H : Hp} {p q : Addr} {o u : HO} {xs : List V} (h : SqT K H q xs) (hp : H p = some o) (ho : ∀ xs, o ≠ .tup xs) (hf : ∀ ob xs, o ≠ .frz ob xs) : SqT K (upd H p u) q xs := by
  rcases h with (h | ⟨ob, h⟩) | h
  · have ne : q ≠ p := ne_of h hp (Ne.symm (ho _))
    exact .inl (.inl (by rw [upd_ne ne]; exact h))
  · have ne : q ≠ p := ne_of h hp (Ne.symm (hf _ _))
    exact .inl (.inr ⟨ob, by rw [upd_ne ne]; exact h⟩)
  · exact .inr h
theorem dstr {a b : Str} : (decide (V.str a = V.str b) = true) = (a = b) := by simp
theorem dint {a b : Int} : (decide (V.int a = V.int b) = true) = (a = b) := by simp
theorem iteNF {a b : V} {A B : Prop} (h : a = b) (q : B) : if (!decide (a = b)) = true then A else B := by
  rw [decide_eq_true h]
  exact iteF q
theorem iteNT {a b : V} {A B : Prop} (h : ¬ a = b) (q : A) : if (!decide (a = b)) = true then A else B := by
  rw [decide_eq_false h]
  exact iteT q
theorem iteDT {a b : V} {A B : Prop} (h : a = b) (q : A) : if decide (a = b) = true then A else B := by
  rw [decide_eq_true h]
  exact iteT q
theorem iteDF {a b : V} {A B : Prop} (h : ¬ a = b) (q : B) : if decide (a = b) = true then A else B := by
  rw [decide_eq_false h]
  exact iteF q
/-- the items of a written tuple -/
theorem sqt_K {K : PySem.W.Frag} {a : Addr} {c : Option Addr} {its : Array Value} {n : Nat} {sl : Array (Option Value)} {xs : List V} (l : K.lookup a = some ⟨.type "tuple", c, .seq its n, sl⟩) (hz : its.size ≤ sizeLine) (r : Vals xs its.toList) : ∀ H, SqT K H a xs := fun _ =>
  .inr ⟨_, its, n, l, rfl, rfl, hz, r⟩
end Ly

set_option maxRecDepth 100000
set_option maxHeartbeats 4000000
/-! promises that hold where no repr is under way (FnG): repr of data is its text there; str of an own object -/
namespace Ly
open PySem PySem.Spec PyProof.Rows L2
abbrev Idle (A : Around) : Prop := A.guards = some []
structure FnG (P : Program) (w : World) (K : PySem.W.Frag) (mg : Str → Option Value) (base : Heap) (CX : CXT) (k : Nat) (f : Addr) (fd : FuncData) (ps : List Str) (sp : Sp) : Prop where
  len : ∀ vs H Q E, sp vs H Q E → vs.length = ps.length
  run : ∀ (A : Around) (outer : List Env) (s : Shared) (H : Hp) (args : Args) (us : List Value) (vs : List V) (Q : VK) (E : XK), Idle A → Room k A → Env0 P w K mg base A outer s H → BindsTo s fd args (ps.zip us) → Vals vs us → sp vs H Q E →
    codeAny (model P w) A (.call (.ref f) args) (CR CX outer P w H s Q E) s
section
variable {P : Program} {w : World} {K : PySem.W.Frag} {mg : Str → Option Value} {base : Heap} {CX : CXT}
theorem FnG.of {k : Nat} {f : Addr} {fd : FuncData} {ps : List Str} {sp : Sp} (F : FnOk P w K mg base CX k f fd ps sp) : FnG P w K mg base CX k f fd ps sp :=
  ⟨F.len, fun A outer s H args us vs Q E _ hr => F.run A outer s H args us vs Q E hr⟩
theorem FnG.mono {j k : Nat} {f : Addr} {fd : FuncData} {ps : List Str} {sp : Sp} (F : FnG P w K mg base CX j f fd ps sp) (h : j ≤ k) : FnG P w K mg base CX k f fd ps sp :=
  ⟨F.len, fun A outer s H args us vs Q E hg hr => F.run A outer s H args us vs Q E hg (hr.mono h)⟩
/-- a def by its body -/
theorem fnG_of {k : Nat} {f : Addr} {name qual : Str} {params : Arguments} {body : List Stmt} {scope : Scope} {dV kV doc pm cdv ct oc : Value} {an od : Option Addr} {osl : Array (Option Value)} {N ps : List Str} {sp : Sp}
    (lk : K.lookup f = some ⟨oc, od, .func (PySem.W.fnOf name qual params body scope dV kV doc pm an cdv ct), osl⟩) (hcd : PySem.W.codeIn K cdv qual = true) (S : FnScope N ps scope)
    (len : ∀ vs H Q E, sp vs H Q E → vs.length = ps.length)
    (hbody : ∀ (A : Around) (outer : List Env) (s : Shared) (H : Hp) (vs : List V) (Q : VK) (E : XK), Idle (A.deeper (envOfC qual scope s.heap.objs.size f cdv)) → Room k (A.deeper (envOfC qual scope s.heap.objs.size f cdv)) → sp vs H Q E →
      ∃ t, PSs (cxOf CX P w K mg base N qual scope f cdv A outer s H E) body t ∧ t { nx := fun _ H' => Q .non H', rt := Q } (L2.start N vs) H) :
    FnG P w K mg base CX (k + 1) f (PySem.W.fnOf name qual params body scope dV kV doc pm an cdv ct) ps sp := by
  refine ⟨len, fun A outer s H args us vs Q E hg hr e0 hb r hsp => ?_⟩
  have KX : K.In s.heap := e0.mod.kin.keeps fun b o e => (e0.bs b o e).1
  refine codeAny_call_function hr.depth (KX _ _ lk) rfl S.co S.gen rfl (PySem.W.codeRec_of KX hcd) (hb _ _ _ _ ?_)
  have hkind : ∀ y ∈ ps.zip us, scope.names.lookup y.1 = some .local ∨ (scope.names.lookup y.1 = some .cell ∧ ((cellsFrom (s.heap.objs.size + 1) scope.names []).lookup y.1).isSome = true) := fun y hy =>
    (S.par y.1 (List.of_mem_zip (a := y.1) (b := y.2) hy).1).elim .inl fun q => .inr ⟨q, PySem.W.cellsFrom_some _ _ _ (.inl q)⟩
  refine wpAny_newFunctionEnv_cells S.kind hkind fun env he s1 x => ?_
  subst he
  refine ⟨(e0.mod.nolimit.keeps fun b o e => (e0.bs b o e).1).keeps x.toInCall.keep, codeAny_func ?_⟩
  obtain ⟨t, ht, hq⟩ := hbody A outer s H vs Q E hg (hr.deeper _) hsp
  refine wpAny_mono (ht.run [] s1 (L2.start N vs) H _ (inv_start S hr.hd e0 (len _ _ _ _ hsp) r x) hq) (fun fl s' hs => ?_) fun e s' hs => hs
  match fl, hs with
  | .ret u, ⟨v, σ', H', J, rv, q⟩ => exact ⟨v, H', J.os, J.bare, J.base, J.hok, rv, q⟩
  | .next, ⟨σ', H', J, q⟩ => exact ⟨V.non, H', J.os, J.bare, J.base, J.hok, rfl, q⟩
  | .brk, ⟨_, _, _, q⟩ => exact q.elim
  | .cont, ⟨_, _, _, q⟩ => exact q.elim
theorem Fun.okG {x qual : Str} {st : Stmt} {f : Addr} {fd : FuncData} {N ps : List Str} {k : Nat} {sp : Sp} (F : Fun K x qual st f fd) (S : FnScope N ps (defScope st)) (len : ∀ vs H Q E, sp vs H Q E → vs.length = ps.length)
    (hbody : ∀ (cdv : Value) (A : Around) (outer : List Env) (s : Shared) (H : Hp) (vs : List V) (Q : VK) (E : XK), Idle (A.deeper (envOfC qual (defScope st) s.heap.objs.size f cdv)) → Room k (A.deeper (envOfC qual (defScope st) s.heap.objs.size f cdv)) → sp vs H Q E →
      ∃ t, PSs (cxOf CX0 P w K mg base N qual (defScope st) f cdv A outer s H E).nox (defBody st) t ∧ t { nx := fun _ H' => Q .non H', rt := Q } (L2.start N vs) H) : FnG P w K mg base CX0 (k + 1) f fd ps sp := by
  obtain ⟨oc, od, kV, doc, pm, an, cdv, ct, osl, rfl, lk, hcd⟩ := F.ex
  exact fnG_of lk hcd S len fun A outer s H vs Q E hg hr hsp => let ⟨t, h, q⟩ := hbody cdv A outer s H vs Q E hg hr hsp; ⟨t, h.nox, q⟩
end
section
variable {X : Cx} {CX : CXT} {k : Nat} {f : Addr} {fd : FuncData} {ps : List Str} {sp : Sp} {dvs : List V} {ds : List Value} {E : XK} {x : Str} {p pos : Pos} {e : Expr} {es : List Expr} {t : TA}
theorem run_fnG {pins : List (Addr × Obj)} {σ : L2.St} {H : Hp} {s : Shared} {Q : VK} {us : List Value} {vs : List V} (hg : Idle X.A) (F : FnG X.prog X.w X.K X.mg X.base CX k f fd ps sp) (hr : Room k X.A) (hb : Binds X.K fd ps ds) (hd : Vals dvs ds) (hx : Passes CX X E)
    (I : Inv X pins σ H s) (r : Vals vs us) (h : sp (vs ++ dvs) H Q E) : wpAny (model X.prog X.w) X.A (call (.ref f) us) (EP X pins σ Q) X.xe s := by
  have r2 := r.append hd
  refine wpAny_call (codeAny_mono (F.run X.A X.stack s H ⟨us, []⟩ (us ++ ds) (vs ++ dvs) Q E hg hr I.env0 (hb s us I.kIn (by rw [← r2.length]; exact F.len _ _ _ _ h)) r2 h) fun r s' hq => ?_)
  match r, hq with
  | .error e, hq => exact hx pins σ H s e s' I hq
  | .ok (.ret u), hq => exact I.after hq
  | .ok .next, hq => exact hq.elim
  | .ok .brk, hq => exact hq.elim
  | .ok .cont, hq => exact hq.elim
/-- f(e, ..), no repr under way -/
theorem pe_callG (hg : Idle X.A) (F : FnG X.prog X.w X.K X.mg X.base CX k f fd ps sp) (hr : Room k X.A) (hgl : Gl X x) (hm : X.mg x = some (.ref f)) (hk : PySem.W.keepIn X.K (.ref f) = true) (hb : Binds X.K fd ps ds) (hd : Vals dvs ds) (hx : Passes CX X E)
    (ha : PA X (e :: es) t) (hdb : (x == ("__debug__" : Str)) = false := by decide) (he : starEach (e :: es) X.env = (false, eval e X.env) :: starEach es X.env := by rfl) (hpl : (backTo pos (starEach es X.env)).any (·.1) = false := by rfl) :
    PE X (.Call (.Name x p) (e :: es) [] pos) (tCall sp dvs E t) :=
  ⟨fun pins s σ H Q I h => wpAny_Call_Name_kw (ld_glob I hgl hm (PySem.W.callWith_K (h₀ := X.base) I.ok.mod.kin hk (thn (ha.run pos pins s σ H _ I h) fun us s1 ⟨vs, H1, I1, r, q⟩ => ⟨I1.kIn, run_fnG hg F hr hb hd hx I1 r q⟩) he hpl) hdb)⟩

/-! ### repr of data -/
def rRepr (K : PySem.W.Frag) : List V → Hp → VK → Prop := fun xs H Q => ∃ a d, xs = [.ref a] ∧ Dp K H (.ref a) d ∧ d.showable = true ∧ d.hasDict = false ∧ d.depth ≤ 60 ∧ d.shown.length ≤ sizeLine ∧ Q (.str d.shown) H
theorem call_repr (K : PySem.W.Frag) (hg : Idle X.A) (hu : X.A.units + 64 < cLine) (hK : X.K = K := by rfl) : CallR X (.builtin "repr") (rRepr K) := by
  subst hK
  intro pins s σ H xs us Q I r h
  obtain ⟨a, d, rfl, hd, hs, hn, hdp, hz, q⟩ := h
  obtain ⟨u, rfl, ru⟩ := vals1 r
  obtain rfl : u = Value.ref a := ru
  obtain ⟨as, rd⟩ := Dp.reads I d (.ref a) (.ref a) hd rfl
  exact repr_of_reads' rd hs (fun z => by rw [hn] at z; cases z) hg (by omega) (fun _ _ e => e) (fun h' u tk k => ⟨.str d.shown, H, I.kept k, ⟨u, rfl⟩, q⟩) hz

/-! ### str of an own object, by its __str__ -/
def rStrOwn (K : PySem.W.Frag) (C : Addr) (sp : Sp) (E : XK) : List V → Hp → VK → Prop := fun xs H Q => ∃ a dx fs, xs = [.ref a] ∧ H a = some (.ins C dx fs) ∧ sp [.ref a] H (fun v H' => ∃ y, v = .str y ∧ Q v H') E
theorem call_strOwn (K : PySem.W.Frag) {C g : Addr} {k : Nat} {fd : FuncData} {ps : List Str} {sp : Sp} {E : XK} (c : Cls K C) (m : Meth K C "__str__" g) (F : FnOk X.prog X.w X.K X.mg X.base CX0 k g fd ps sp) (hr : Room (k + 2) X.A) (hb : Binds X.K fd ps []) (hx : Passes CX0 X E) (hK : X.K = K := by rfl) :
    CallR X (.type "str") (rStrOwn K C sp E) := by
  subst hK
  intro pins s σ H xs us Q I r h
  obtain ⟨a, dx, fs, rfl, ha, q⟩ := h
  obtain ⟨u, rfl, ru⟩ := vals1 r
  obtain rfl : u = Value.ref a := ru
  obtain ⟨mA, O, _⟩ := ins_get I.hok ha
  obtain ⟨od, J, _⟩ := O.look
  refine PySem.W.kso_call (by have := hr.un; show X.A.units + 1 + 1 < cLine; omega) I.kIn J m.at_ m.fn ?_
  have hl : ([Value.ref a] ++ []).length = ps.length := by
    have z := F.len _ _ _ _ q
    simpa using z
  have rv0 : Vals [V.ref a] ([Value.ref a] ++ []) := Paired.cons (show RelV (V.ref a) (Value.ref a) from rfl) Paired.nil
  refine wpAny_call (codeAny_mono (F.run X.A.in1.in1 X.stack s H ⟨[.ref a], []⟩ ([Value.ref a] ++ []) [V.ref a] _ E (hr.in1.in1) I.env0.in1.in1 (hb s [.ref a] I.kIn hl) rv0 q) fun r s' hq => ?_)
  match r, hq with
  | .error e, hq => exact hx pins σ H s e s' I hq
  | .ok (.ret u), hq =>
    obtain ⟨v, H', I4, rv, y, rfl, q4⟩ := I.after hq
    obtain ⟨t, rfl⟩ := rv
    exact ⟨.str y, H', I4, ⟨t, rfl⟩, q4⟩
  | .ok .next, hq => exact hq.elim
  | .ok .brk, hq => exact hq.elim
  | .ok .cont, hq => exact hq.elim
end
end Ly

set_option maxRecDepth 100000
set_option maxHeartbeats 4000000
/-! the law's entry for a promise that holds where no repr is under way -/
namespace Ly
open PySem PySem.Spec PyProof.Rows L2
section
variable {P : Program} {w : World} {K : PySem.W.Frag} {mg mb : Str → Option Value} {k : Nat} {fa a : Addr} {fd : FuncData} {x : Str} {sp : Sp} {s : Shared} {vs : List Value} {ns : List Int}
/-- from an abstract heap H that tracks the script at most, locked -/
theorem entryG (KX : K.In s.heap) (hns : s.heap.Ns mainGlobals mg) (hb : s.heap.Ns builtinsNs mb) (hbb : ∀ x : Str, x ≠ "__name__" → mb x = bootBuiltins x) (hlim : s.heap.NoLimit) (hg : s.gens = #[])
    (ha : s.heap.get? a = some { cls := .type "list", data := .seq vs.toArray }) (hr : Room k callerA)
    (F : ∀ base : Heap, K.In base → base.Ns mainGlobals mg → FnG P w K mg base CX0 k fa fd [x] sp) (hbind : ∀ (s : Shared) (u : Value), BindsTo s fd ⟨[u], []⟩ [(x, u)])
    (H : Hp) (hsp : sp [.ref a] H (fun v _ => v = .bl true) fun _ _ _ => False) (hok : HOk P w H s.heap) (only : ∀ b u, H b = some u → b = a ∧ K.lookup a = none ∧ ∃ o xs, u = .frz o (.lst xs)) :
    codeAny (model P w) callerA (.call (.ref fa) ⟨[.ref a], []⟩) (fun r s' => r = .ok (.ret (.bool true)) ∧ OldK s.heap s'.heap ∧ s'.os = s.os ∧ AllBare s'.gens) s := by
  have free : ∀ b, (b ≠ a ∨ K.lookup a ≠ none) → H b = none := fun b hb => by
    cases q : H b with
    | none => rfl
    | some u =>
      obtain ⟨e, l, _⟩ := only b u q
      rcases hb with z | z
      · exact absurd e z
      · exact absurd l z
  have plain : ∀ {b : Addr} {o : Obj} {es : Array DictEntry} {ep : Nat}, s.heap.get? b = some o → o.data = .dict es ep → H b = none := fun {b o es ep} e d => free b (.inl fun z => by
    rw [z, ha] at e
    cases e
    cases d)
  have nsK : ∀ {b : Addr} {m : Str → Option Value}, s.heap.Ns b m → (hidT s.heap H).Ns b m := fun {b m} ⟨o, es, ep, e, d, r⟩ => ⟨o, es, ep, hidT_get e (plain e d), d, r⟩
  have hKb : K.In (hidT s.heap H) := fun b o e => hidT_get (KX b o e) (by
    by_cases hb : b = a
    · exact free b (.inr (by rw [← hb, e]; simp))
    · exact free b (.inl hb))
  obtain ⟨mc, l1, l2⟩ := hlim
  have e0 : Env0 P w K mg (hidT s.heap H) callerA [] s H :=
    ⟨rfl, ⟨hKb, nsK hns, ⟨mb, nsK hb, hbb⟩, ⟨mc, nsK l1, l2⟩⟩, fun b o e => of_hidT e, Nat.le_of_eq (hidT_size _ _), trivial, fun b hb => absurd (show b ∈ ([] : List Addr) from hb) (by simp), hok, .of_eq hg⟩
  refine codeAny_mono ((F _ hKb (nsK hns)).run callerA [] s H ⟨[.ref a], []⟩ [.ref a] [.ref a] _ _ rfl hr e0 (hbind s (.ref a)) (.cons rfl .nil) hsp) fun r s' h => ?_
  match r, h with
  | .error e, h => exact h.elim
  | .ok .next, h => exact h.elim
  | .ok .brk, h => exact h.elim
  | .ok .cont, h => exact h.elim
  | .ok (.ret u), ⟨v, H', os, bare, un, hok', rv, q⟩ =>
    have q' : v = .bl true := q
    subst q'
    obtain rfl : u = Value.bool true := rv
    refine ⟨rfl, OldK.of_keep fun b o e => ?_, os, bare⟩
    cases q : H b with
    | none => exact un.keep b o e q (fun z => absurd (show b ∈ ([] : List Addr) from z) (by simp)) (by simp)
    | some u =>
      obtain ⟨_, _, ob, xs, rfl⟩ := only b u q
      have h1 := (hok b _ q).1
      have h2 := (hok' b _ (un.frzs b ob _ q)).1
      rw [e] at h1
      cases h1
      exact h2
theorem lawG (KX : K.In s.heap) (hns : s.heap.Ns mainGlobals mg) (hb : s.heap.Ns builtinsNs mb) (hbb : ∀ x : Str, x ≠ "__name__" → mb x = bootBuiltins x) (hlim : s.heap.NoLimit) (hg : s.gens = #[])
    (ha : s.heap.get? a = some { cls := .type "list", data := .seq vs.toArray }) (hi : IntsAre vs ns) (hl : ns.length ≤ sizeLine) (hr : Room k callerA)
    (F : ∀ base : Heap, K.In base → base.Ns mainGlobals mg → FnG P w K mg base CX0 k fa fd [x] sp) (hbind : ∀ (s : Shared) (u : Value), BindsTo s fd ⟨[u], []⟩ [(x, u)])
    (hsp : ∀ H : Hp, SqL K H a (ns.map V.int) → sp [.ref a] H (fun v _ => v = .bl true) fun _ _ _ => False) :
    codeAny (model P w) callerA (.call (.ref fa) ⟨[.ref a], []⟩) (fun r s' => r = .ok (.ret (.bool true)) ∧ OldK s.heap s'.heap ∧ s'.os = s.os ∧ AllBare s'.gens) s := by
  have rv := vals_ints hi
  have lenV := hi.length
  cases hk : K.lookup a with
  | some o =>
    have e := KX a o hk
    rw [ha] at e
    cases e
    refine entryG KX hns hb hbb hlim hg ha hr F hbind (fun _ => none) (hsp _ (.inr ⟨_, vs.toArray, _, hk, rfl, rfl, rfl, by rw [List.size_toArray, lenV]; exact hl, by simpa using rv⟩)) (fun b u z => ?_) fun b u z => ?_
    · have z' : (none : Option HO) = some u := z
      cases z'
    · have z' : (none : Option HO) = some u := z
      cases z'
  | none =>
    have at_ : ∀ {b : Addr} {u : HO}, (if b = a then some (HO.frz { cls := .type "list", data := .seq vs.toArray } (.lst (ns.map V.int))) else none) = some u → b = a ∧ u = HO.frz { cls := .type "list", data := .seq vs.toArray } (.lst (ns.map V.int)) := fun {b u} z => by
      by_cases h : b = a
      · rw [if_pos h] at z
        exact ⟨h, (Option.some.inj z).symm⟩
      · rw [if_neg h] at z
        cases z
    refine entryG KX hns hb hbb hlim hg ha hr F hbind (fun b => if b = a then some (HO.frz { cls := .type "list", data := .seq vs.toArray } (.lst (ns.map V.int))) else none) (hsp _ (.inl (.inr ⟨_, if_pos rfl⟩))) (fun b u z => ?_) fun b u z => ?_
    · obtain ⟨rfl, rfl⟩ := at_ z
      exact ⟨ha, by rw [List.length_map]; exact hl, vs, _, rv, ha⟩
    · obtain ⟨e, rfl⟩ := at_ z
      exact ⟨e, hk, _, _, rfl⟩
end
theorem walk_ofG {l : PySem.W.OpenLaw} {n k : Nat} {q : Program} {loose : List Str} {XP : (Str → Option Value) → Heap → Prop} {YP : World → Heap → Prop} {d : DefRec} {K : Params → PySem.W.Frag} {sp : World → Sp} {x : Str}
    (hn : l.most = some n) (hn2 : n ≤ sizeLine) (hdf : d.params.defaults = []) (hr : Room k callerA) (hY : ∀ (w : World) (h : Heap), YP w h → (K w.params).In h)
    (F : ∀ (w : World) (mg : Str → Option Value) (fa : Addr) (h : Heap), (K w.params).In h → h.Ns mainGlobals mg → mg d.name = some (.ref fa) →
      ∃ fd : FuncData, (∀ (s : Shared) (u : Value), BindsTo s fd ⟨[u], []⟩ [(x, u)]) ∧ ∀ base : Heap, (K w.params).In base → base.Ns mainGlobals mg → FnG l.prog w (K w.params) mg base CX0 k fa fd [x] (sp w))
    (hsp : ∀ (w : World) (H : Hp) (a : Addr) (ns : List Int), ns.length ≤ n → SqL (K w.params) H a (ns.map V.int) → sp w [.ref a] H (fun v _ => v = .bl true) fun _ _ _ => False) :
    PySem.W.WalkO q loose XP YP l.row.toRowW d [] (fun f vs => PySem.call f vs) := by
  refine Att.attach_call hn hdf fun w s₀ s₁ mg mb fa o pm cd doc a vs ns G Y ho hd hcd hmg hobj hints hlen hg => ?_
  obtain ⟨fd, hb, hF⟩ := F w mg fa _ (hY w _ Y) G.T.g hmg
  exact lawG (hY w _ Y) G.T.g G.T.b G.T.builtins G.T.nolimit hg hobj hints (Nat.le_trans hlen hn2) hr hF hb fun H hS => hsp w H a ns hlen hS
end Ly

set_option maxRecDepth 100000
set_option maxHeartbeats 4000000
/-! the primitives' mathematics: numbers, ports, attributes -/
namespace Ly
open PySem PySem.Spec PyProof.Rows L2
/-! ### the value that a word writes -/
def isDig (c : Nat) : Bool := decide (48 ≤ c) && decide (c ≤ 57)
theorem dig_in (c : Nat) : decide (c ∈ (("0123456789" : Str)).cps.toList) = isDig c := by
  have e : (("0123456789" : Str)).cps.toList = [48, 49, 50, 51, 52, 53, 54, 55, 56, 57] := by decide +kernel
  rw [e]
  unfold isDig
  by_cases h : 48 ≤ c ∧ c ≤ 57
  · obtain ⟨h1, h2⟩ := h
    rw [decide_eq_true h1, decide_eq_true h2]
    refine decide_eq_true ?_
    simp only [List.mem_cons, List.not_mem_nil, or_false]
    omega
  · have n : ¬ (c ∈ [48, 49, 50, 51, 52, 53, 54, 55, 56, 57]) := by
      simp only [List.mem_cons, List.not_mem_nil, or_false]
      omega
    rw [decide_eq_false n]
    by_cases h1 : 48 ≤ c
    · rw [decide_eq_true h1, decide_eq_false (fun h2 => h ⟨h1, h2⟩)]
      rfl
    · rw [decide_eq_false h1]
      rfl
def numVal (w : Str) : Int := ((NumText.digitsVal w.cps.toList : Nat) : Int)
def numOk (w : Str) : Bool := decide (1 ≤ w.length) && decide (w.length ≤ 10) && w.cps.toList.all isDig && !(decide (w.cps.toList.head? = some 48) && decide (1 < w.length)) && decide (numVal w < 4294967296)
def numOf (w : Str) : Option Int := if numOk w = true then some (numVal w) else none
def optV : Option Int → V
  | none => .non
  | some n => .int n
theorem int_dig {w : Str} (h : w.cps.toList.all isDig = true) (h1 : 1 ≤ w.length) (h2 : w.length ≤ 10) : intText? w = some (numVal w) := by
  have e2 : w.length = w.cps.toList.length := by show w.cps.size = _; simp
  refine intText_digits (fun c hc => ?_) (fun z => ?_) (by omega)
  · have q := List.all_eq_true.mp h c hc
    unfold isDig at q
    simpa using q
  · rw [z] at e2
    simp at e2
    omega
theorem lead_zero {m : Nat} (h : ((Nat.toDigits 10 m).map Char.toNat).head? = some 48) : m = 0 := by
  induction m using Nat.strongRecOn with
  | _ m ih =>
    by_cases hm : m < 10
    · rw [Nat.toDigits_of_lt_base hm] at h
      have e : (Nat.digitChar m).toNat = 48 := by simpa using h
      have k : ∀ d : Nat, d < 10 → (Nat.digitChar d).toNat = 48 → d = 0 := by decide
      exact k m hm e
    · have hd : m % 10 < 10 := Nat.mod_lt m (by decide)
      have t : Nat.toDigits 10 (m / 10) ++ Nat.toDigits 10 (m % 10) = Nat.toDigits 10 (10 * (m / 10) + m % 10) := Nat.toDigits_append_toDigits (by decide) (by omega) hd
      rw [Nat.div_add_mod] at t
      rw [← t, List.map_append] at h
      have hne : (Nat.toDigits 10 (m / 10)).map Char.toNat ≠ [] := fun z => by
        have h2 := PySem.W.KIN.signs_num (m / 10)
        have h3 : (Nat.toDigits 10 (m / 10)) = [] := by simpa using z
        have h4 := toDigits_len_ge 10 (m / 10)
        rw [h3] at h4
        exact absurd h4 (by decide)
      have h' : ((Nat.toDigits 10 (m / 10)).map Char.toNat).head? = some 48 := by
        cases e : (Nat.toDigits 10 (m / 10)).map Char.toNat with
        | nil => exact absurd e hne
        | cons a r => rw [e] at h; simpa using h
      have := ih (m / 10) (by omega) h'
      omega
/-- the text of a value is read as this value -/
theorem numOf_text {n : Int} (h0 : 0 ≤ n) (h1 : n < 4294967296) : numOf (Str.ofString (toString n)) = some n := by
  have hl := PySem.W.KT.len_num h0 (by omega : n < 10 ^ 10)
  have h1l : 1 ≤ (Str.ofString (toString n)).length := PySem.W.KLn.one_le h0
  obtain ⟨m, rfl⟩ := Int.eq_ofNat_of_zero_le h0
  have sg := PySem.W.KIN.signs_num m
  have hall : (Str.ofString (toString ((m : Nat) : Int))).cps.toList.all isDig = true := by
    rw [List.all_eq_true]
    intro c hc
    rw [sg] at hc
    obtain ⟨ch, hch, e⟩ := List.mem_map.mp hc
    have r := PyProof.Rows.digit_range (Nat.isDigit_of_mem_toDigits (by decide) (by decide) hch)
    rw [← e]
    unfold isDig
    simp [r.1, r.2]
  have hv : numVal (Str.ofString (toString ((m : Nat) : Int))) = (m : Int) := by
    unfold numVal
    rw [sg, PySem.W.KIN.val_back]
  have hz : ¬ ((Str.ofString (toString ((m : Nat) : Int))).cps.toList.head? = some 48 ∧ 1 < (Str.ofString (toString ((m : Nat) : Int))).length) := fun ⟨z1, z2⟩ => by
    rw [sg] at z1
    have := lead_zero z1
    subst this
    exact absurd z2 (by decide +kernel)
  unfold numOf numOk
  rw [hv, hall, decide_eq_true h1l, decide_eq_true hl, decide_eq_true h1]
  have e : (!(decide ((Str.ofString (toString ((m : Nat) : Int))).cps.toList.head? = some 48) && decide (1 < (Str.ofString (toString ((m : Nat) : Int))).length))) = true := by
    rw [Bool.not_eq_true', Bool.and_eq_false_iff]
    by_cases z : (Str.ofString (toString ((m : Nat) : Int))).cps.toList.head? = some 48
    · exact .inr (decide_eq_false fun z2 => hz ⟨z, z2⟩)
    · exact .inl (decide_eq_false z)
  rw [e]
  rfl
/-! ### the primitives' ports -/
def portsTab : List (Str × List Str × List Str) := [("const", [], ["out"]), ("add", ["a", "b"], ["out"]), ("sub", ["a", "b"], ["out"]), ("mul", ["a", "b"], ["out"]), ("less", ["a", "b"], ["out"]), ("equal", ["a", "b"], ["out"]),
  ("pick", ["c", "a", "b"], ["out"]), ("divide", ["a", "b"], ["quotient", "rest"]), ("delay", ["in"], ["out"])]
def PortsOf (K : PySem.W.Frag) (w : World) (dP : Addr) (n : Str) (ins outs : List Str) : Prop :=
  ∃ t ti tO, KDct K w dP n (.ref t) ∧ (∀ H, SqT K H t [.ref ti, .ref tO]) ∧ (∀ H, SqT K H ti (ins.map V.str)) ∧ (∀ H, SqT K H tO (outs.map V.str))
/-! ### a block's and a primitive's attributes -/
def fs1 (n : Str) : List (Str × V) := [("name", .str n)]
def fs2 (n : Str) (i : Addr) : List (Str × V) := [("name", .str n), ("inputs", .ref i)]
def fsB (n : Str) (i o : Addr) : List (Str × V) := [("name", .str n), ("inputs", .ref i), ("outputs", .ref o)]
def fs4 (n : Str) (i o : Addr) (c : V) : List (Str × V) := [("name", .str n), ("inputs", .ref i), ("outputs", .ref o), ("constant", c)]
def fsP (n : Str) (i o : Addr) (c : V) (t : Str) : List (Str × V) := [("name", .str n), ("inputs", .ref i), ("outputs", .ref o), ("constant", c), ("text", .str t)]
theorem fsP_name {n i o c t} : (fsP n i o c t).lookup ("name" : Str) = some (.str n) := by kernel_rfl
theorem fsP_inputs {n i o c t} : (fsP n i o c t).lookup ("inputs" : Str) = some (.ref i) := by kernel_rfl
theorem fsP_outputs {n i o c t} : (fsP n i o c t).lookup ("outputs" : Str) = some (.ref o) := by kernel_rfl
theorem fsP_const {n i o c t} : (fsP n i o c t).lookup ("constant" : Str) = some c := by kernel_rfl
theorem fsP_text {n i o c t} : (fsP n i o c t).lookup ("text" : Str) = some (.str t) := by kernel_rfl
theorem fsP_compute {n i o c t} : (fsP n i o c t).lookup ("compute" : Str) = none := by kernel_rfl
theorem fsP_str {n i o c t} : (fsP n i o c t).lookup ("__str__" : Str) = none := by kernel_rfl
theorem fsB_put1 {n : Str} : putF "name" (.str n) [] = fs1 n := by kernel_rfl
theorem fsB_put2 {n : Str} {i : Addr} : putF "inputs" (.ref i) (fs1 n) = fs2 n i := by kernel_rfl
theorem fsB_put3 {n : Str} {i o : Addr} : putF "outputs" (.ref o) (fs2 n i) = fsB n i o := by kernel_rfl
theorem fsP_put1 {n : Str} {i o : Addr} {c : V} : putF "constant" c (fsB n i o) = fs4 n i o c := by kernel_rfl
theorem fsP_put2 {n : Str} {i o : Addr} {c : V} {t : Str} : putF "text" (.str t) (fs4 n i o c) = fsP n i o c t := by kernel_rfl
/-- a primitive at x: its name, its constant, its text -/
def PrimAt (K : PySem.W.Frag) (C : Addr) (H : Hp) (x : Addr) (n : Str) (c : V) (t : Str) : Prop := ∃ dx i o, H x = some (.ins C dx (fsP n i o c t)) ∧ ∃ ins outs, (n, ins, outs) ∈ portsTab ∧ SqT K H i (ins.map V.str) ∧ SqT K H o (outs.map V.str)
theorem same_prim {K : PySem.W.Frag} {H H' : Hp} {C x : Addr} {n t : Str} {c : V} (s : Same H H') (h : PrimAt K C H x n c t) : PrimAt K C H' x n c t := by
  obtain ⟨dx, i, o, hx, ins, outs, hp, hi, ho⟩ := h
  exact ⟨dx, i, o, s _ _ hx, ins, outs, hp, same_sqt s hi, same_sqt s ho⟩
def textOf (n : Str) : Option Int → Str
  | none => n
  | some v => n ++ " " ++ Str.ofString (toString v)
/-! ### texts of primitives -/
def plain7 : List Str := ["add", "sub", "mul", "less", "equal", "pick", "divide"]
def portNames : List Str := ["const", "add", "sub", "mul", "less", "equal", "pick", "divide", "delay"]
def withK (n : Str) : Bool := decide (n = "const") || decide (n = "delay")
def primWords : List Str → Option (Str × Option Int)
  | [n] => if n ∈ plain7 then some (n, none) else none
  | [n, k] => if withK n = true then (numOf k).map fun v => (n, some v) else none
  | _ => none
def primOf (t : Str) : Option (Str × Option Int) := primWords (Txt.split t " ")
theorem names_ports {n : Str} (h : n ∈ portNames) : ∃ ins outs, (n, ins, outs) ∈ portsTab := by
  simp only [portNames, List.mem_cons, List.not_mem_nil, or_false] at h
  rcases h with rfl | rfl | rfl | rfl | rfl | rfl | rfl | rfl | rfl <;>
    first | exact ⟨["a", "b"], ["out"], by decide +kernel⟩ | exact ⟨[], ["out"], by decide +kernel⟩ | exact ⟨["in"], ["out"], by decide +kernel⟩ | exact ⟨["c", "a", "b"], ["out"], by decide +kernel⟩ | exact ⟨["a", "b"], ["quotient", "rest"], by decide +kernel⟩
theorem plain_port {n : Str} (h : n ∈ plain7) : n ∈ portNames := (show ∀ n ∈ plain7, n ∈ portNames by decide +kernel) n h
theorem withK_port {n : Str} (h : withK n = true) : n ∈ portNames := by
  unfold withK at h
  rw [Bool.or_eq_true] at h
  rcases h with h | h
  · rw [of_decide_eq_true h]; decide +kernel
  · rw [of_decide_eq_true h]; decide +kernel
theorem port_plain {n : Str} (h : n ∈ portNames) (h2 : withK n = false) : n ∈ plain7 := by
  have k : ∀ n ∈ portNames, withK n = false → n ∈ plain7 := by decide +kernel
  exact k n h h2
theorem plain_noK {n : Str} (h : n ∈ plain7) : withK n = false := (show ∀ n ∈ plain7, withK n = false by decide +kernel) n h
/-- a key that the table does not have -/
theorem nsIn_none {K : PySem.W.Frag} {w : World} {d : Addr} {es : Array DictEntry} {n : Nat} (D : KDict K w d es n) {l : List (Str × Tok)} (hk : es.toList.map (·.key) = l.map fun p => .str p.1 p.2) {z : Str} (hz : ∀ p ∈ l, p.1 ≠ z) : PySem.W.nsIn K d z = some none := by
  have key : ∀ e ∈ es.toList, ∃ p ∈ l, e.key = .str p.1 p.2 := fun e he => by
    have h1 : e.key ∈ es.toList.map (·.key) := List.mem_map_of_mem he
    rw [hk] at h1
    obtain ⟨p, hp, e2⟩ := List.mem_map.mp h1
    exact ⟨p, hp, e2.symm⟩
  unfold PySem.W.nsIn
  rw [D.at_]
  have h1 : es.toList.find? (fun x => x.key.isStr z) = none := by
    refine List.find?_eq_none.mpr fun e he => ?_
    obtain ⟨p, hp, e2⟩ := key e he
    rw [e2]
    show ¬ (p.1 == z) = true
    have := hz p hp
    simpa using this
  have h2 : es.toList.any (fun x => x.refKey) = false := by
    refine List.any_eq_false.mpr fun e he => ?_
    obtain ⟨p, hp, e2⟩ := key e he
    unfold DictEntry.refKey
    rw [e2]
    simp
  dsimp only
  rw [h1, h2]
  rfl
/-! ### split -/
theorem spl_ne (S : List Nat) : ∀ (l acc : List Nat) (k : Nat), TL.spl S k acc l ≠ []
  | [], acc, k => by rw [TL.spl_nil]; simp
  | c :: r, acc, 0 => by
    unfold TL.spl
    split
    · simp
    · exact spl_ne S r _ 0
  | c :: r, acc, k + 1 => by
    unfold TL.spl
    exact spl_ne S r _ k
theorem spl_len (S : List Nat) : ∀ (l acc : List Nat) (k : Nat), ∀ p ∈ TL.spl S k acc l, p.length ≤ acc.length + l.length
  | [], acc, k => by
    rw [TL.spl_nil]
    intro p hp
    simp only [List.mem_singleton] at hp
    subst hp
    simp
  | c :: r, acc, 0 => by
    intro p hp
    unfold TL.spl at hp
    split at hp
    · rcases List.mem_cons.mp hp with rfl | hp
      · simp
      · have := spl_len S r [] _ p hp
        simp at this ⊢
        omega
    · have := spl_len S r _ 0 p hp
      simp at this ⊢
      omega
  | c :: r, acc, k + 1 => by
    intro p hp
    unfold TL.spl at hp
    have := spl_len S r acc k p hp
    simp at this ⊢
    omega
theorem split_ne {x y : Str} (hy : TL.tl y ≠ []) (hk : y.cps.all (· < 256) = true) : Txt.split x y ≠ [] := fun e => by
  have h := TL.split_spl x y hy (TL.kind_ok hk)
  rw [e] at h
  exact spl_ne _ _ _ _ h.symm
theorem split_lens {x y : Str} (hy : TL.tl y ≠ []) (hk : y.cps.all (· < 256) = true) : ∀ p ∈ Txt.split x y, p.length ≤ x.length := fun p hp => by
  have h := TL.split_spl x y hy (TL.kind_ok hk)
  have h2 : TL.tl p ∈ (Txt.split x y).map TL.tl := List.mem_map_of_mem hp
  rw [h] at h2
  have := spl_len _ _ _ _ _ h2
  rw [TL.len_tl, TL.len_tl]
  simpa using this
theorem sp_ne : TL.tl (" " : Str) ≠ [] := by decide +kernel
theorem sp_k : (" " : Str).cps.all (· < 256) = true := by decide +kernel
theorem split_two {n s : Str} (hn : 32 ∉ TL.tl n) (hs : 32 ∉ TL.tl s) : Txt.split (n ++ " " ++ s) " " = [n, s] := by
  have h := TL.split_join (y := (" " : Str)) (s := 32) (S := []) (by decide +kernel) sp_k (parts := [n, s]) (by simp) (fun p hp => by
    simp only [List.mem_cons, List.not_mem_nil, or_false] at hp
    rcases hp with rfl | rfl
    · exact hn
    · exact hs)
  rw [TL.join_eq] at h
  exact h
theorem split_one {n : Str} (hn : 32 ∉ TL.tl n) : Txt.split n " " = [n] := by
  have h := TL.split_join (y := (" " : Str)) (s := 32) (S := []) (by decide +kernel) sp_k (parts := [n]) (by simp) (fun p hp => by
    simp only [List.mem_cons, List.not_mem_nil, or_false] at hp
    rw [hp]
    exact hn)
  rw [TL.join_eq] at h
  exact h
theorem num_sp (n : Int) : 32 ∉ TL.tl (Str.ofString (toString n)) := fun h => (PyProof.Rows.intText_free_32 n).mp h
theorem primOf_plain {n : Str} (h : n ∈ plain7) : primOf n = some (n, none) := by
  have e : Txt.split n " " = [n] := split_one ((show ∀ n ∈ plain7, 32 ∉ TL.tl n by decide +kernel) n h)
  unfold primOf
  rw [e]
  show (if n ∈ plain7 then some (n, (none : Option Int)) else none) = _
  rw [if_pos h]
theorem primOf_K {n : Str} {v : Int} (h : n = "const" ∨ n = "delay") (h0 : 0 ≤ v) (h1 : v < 4294967296) : primOf (n ++ " " ++ Str.ofString (toString v)) = some (n, some v) := by
  have hn : 32 ∉ TL.tl n := by rcases h with rfl | rfl <;> decide +kernel
  unfold primOf
  rw [split_two hn (num_sp v)]
  show (if withK n = true then (numOf _).map (fun v => (n, some v)) else none) = _
  have hk : withK n = true := by rcases h with rfl | rfl <;> decide +kernel
  rw [if_pos hk, numOf_text h0 h1]
  rfl
end Ly

set_option maxRecDepth 100000
set_option maxHeartbeats 4000000
/-! the primitives' promises and what they compute -/
namespace Ly
open PySem PySem.Spec PyProof.Rows L2
/-! ### draws -/
theorem put01 (a b c : V) : ([a, b] : List V).set 0 c = [c, b] := rfl
def FeedAt (H : Hp) (p : Addr) (a b : Int) : Prop := H p = some (.lst [.int a, .int b]) ∧ 0 ≤ a ∧ 0 ≤ b ∧ b < 2305843009213693951
def spFeed (K : PySem.W.Frag) : Sp := fun vs H Q _ => ∃ (s : Addr) (ns : List Int) (k : Nat), vs = [.ref s, .int k] ∧ SqL K H s (ns.map V.int) ∧ k ≤ 1000 ∧
  ∀ p a b, H p = none → FeedAt (upd H p (.lst [.int a, .int b])) p a b → Q (.ref p) (upd H p (.lst [.int a, .int b]))
/-- a draw: any number below the bound; the feed is another one -/
def spTake : Sp := fun vs H Q _ => ∃ (p : Addr) (many a b : Int), vs = [.ref p, .int many] ∧ FeedAt H p a b ∧ 0 < many ∧ many ≤ 1099511627776 ∧
  ∀ d a' b' : Int, 0 ≤ d → d < many → FeedAt (upd H p (.lst [.int a', .int b'])) p a' b' → Q (.int d) (upd H p (.lst [.int a', .int b']))
def spPick (K : PySem.W.Frag) : Sp := fun vs H Q _ => ∃ (p q : Addr) (xs : List V) (a b : Int), vs = [.ref p, .ref q] ∧ FeedAt H p a b ∧ SqL K H q xs ∧ q ≠ p ∧ 0 < xs.length ∧ xs.length ≤ 1000 ∧
  ∀ (v : V) (a' b' : Int), v ∈ xs → FeedAt (upd H p (.lst [.int a', .int b'])) p a' b' → Q v (upd H p (.lst [.int a', .int b']))
theorem feed_same {H H' : Hp} {p : Addr} {a b : Int} (s : Same H H') (h : FeedAt H p a b) : FeedAt H' p a b := ⟨s _ _ h.1, h.2⟩
/-! ### numbers -/
def spNum : Sp := fun vs H Q _ => ∃ z : Str, vs = [.str z] ∧ z.length ≤ 1000000 ∧ ∀ H', Same H H' → Q (optV (numOf z)) H'
theorem same_lst {H H' : Hp} {p : Addr} {o : HO} (s : Same H H') (h : H p = none) : Same H (upd H' p o) := same_mut s h
theorem str_len_list (w : Str) : w.length = w.cps.toList.length := by show w.cps.size = _; simp
theorem numOf_some {z : Str} (h : numOk z = true) : numOf z = some (numVal z) := by unfold numOf; rw [if_pos h]
theorem numOf_none {z : Str} (h : numOk z = false) : numOf z = none := by unfold numOf; rw [if_neg (by rw [h]; decide)]
theorem numOf_range {z : Str} {v : Int} (h : numOf z = some v) : 0 ≤ v ∧ v < 4294967296 := by
  unfold numOf at h
  split at h
  · rename_i e
    unfold numOk at e
    simp only [Bool.and_eq_true, decide_eq_true_eq] at e
    cases h
    exact ⟨by unfold numVal; omega, e.2⟩
  · cases h
def R32 (z : Int) : Prop := 0 ≤ z ∧ z < 4294967296
theorem r32_log {v : Int} (h : R32 v) : v.natAbs.log2 < 1920 := by
  obtain ⟨h0, h1⟩ := h
  by_cases z : v.natAbs = 0
  · rw [z]; decide
  · have : v.natAbs.log2 < 32 := (Nat.log2_lt z).mpr (by omega)
    omega
def OkC (n : Str) (o : Option Int) : Prop := n ∈ portNames ∧ ∀ v, o = some v → R32 v
theorem primOf_ok {z n : Str} {o : Option Int} (h : primOf z = some (n, o)) : OkC n o := by
  unfold primOf at h
  generalize Txt.split z " " = ws at h
  match ws, h with
  | [m], h =>
    change (if m ∈ plain7 then some (m, (none : Option Int)) else none) = _ at h
    split at h
    · rename_i q
      cases h
      exact ⟨plain_port q, fun v e => by cases e⟩
    · cases h
  | [m, k], h =>
    change (if withK m = true then (numOf k).map (fun v => (m, some v)) else none) = _ at h
    split at h
    · rename_i q
      cases e : numOf k with
      | none => rw [e] at h; cases h
      | some v =>
        rw [e] at h
        cases h
        exact ⟨withK_port q, fun v' e' => by cases e'; exact numOf_range e⟩
    · cases h
  | [], h => cases h
  | _ :: _ :: _ :: _, h => cases h
theorem inV_cd (n : Str) : inV (.str n) [.str "const", .str "delay"] = withK n := by
  have e : ∀ a b : Str, eqV (.str a) (.str b) = decide (b = a) := fun a b => by
    show (a == b) = _
    by_cases h : a = b
    · rw [h]; simp
    · rw [beq_eq_false_iff_ne.mpr h, decide_eq_false (fun q => h q.symm)]
  unfold inV withK
  simp only [List.any_cons, List.any_nil, e, Bool.or_false]
/-! ### the promises -/
def spBI (K : PySem.W.Frag) (C : Addr) : Sp := fun vs H Q _ => ∃ (x dx i o : Addr) (n : Str) (xs ys : List V), vs = [.ref x, .str n, .ref i, .ref o] ∧ H x = some (.ins C dx []) ∧ SqT K H i xs ∧ SqT K H o ys ∧ Q .non (upd H x (.ins C dx (fsB n i o)))
def spPI (K : PySem.W.Frag) (C : Addr) : Sp := fun vs H Q _ => ∃ (x dx : Addr) (n : Str) (c : Option Int), vs = [.ref x, .str n, optV c] ∧ H x = some (.ins C dx []) ∧ OkC n c ∧ ∀ i o, (∃ ins outs, (n, ins, outs) ∈ portsTab ∧ (∀ H, SqT K H i (ins.map V.str)) ∧ ∀ H, SqT K H o (outs.map V.str)) → Q .non (upd H x (.ins C dx (fsP n i o (optV c) (textOf n c))))
def spDead : Sp := fun _ _ _ _ => False
def spIpt : Sp := fun vs H Q _ => ∃ z : Str, vs = [.str z] ∧ z.length ≤ 1000000 ∧ ∀ H', Same H H' → Q (.bl (primOf z).isSome) H'
def spParse (K : PySem.W.Frag) (C : Addr) : Sp := fun vs H Q _ => ∃ (z n : Str) (c : Option Int), vs = [.ref C, .str z] ∧ z.length ≤ 1000000 ∧ primOf z = some (n, c) ∧ ∀ x H', Same H H' → H x = none → PrimAt K C H' x n (optV c) (textOf n c) → Q (.ref x) H'
def names6 : List Str := ["add", "sub", "mul", "less", "equal", "divide"]
def op2 (n : Str) (a b : Int) : List Int :=
  if n = "divide" then (if b = 0 then [0, a] else [a / b, a % b]) else if n = "less" then [if a < b then 1 else 0] else if n = "equal" then [if a = b then 1 else 0]
  else if n = "add" then [(a + b) % 4294967296] else if n = "sub" then [(a - b) % 4294967296] else [(a * b) % 4294967296]
/-- what a primitive computes -/
inductive Comp : Str → V → List Int → List Int → Prop
  | const {v : Int} : Comp "const" (.int v) [] [v]
  | pick {c a b : Int} : Comp "pick" .non [c, a, b] [if c = 0 then b else a]
  | two {n : Str} {a b : Int} : n ∈ names6 → R32 a → R32 b → Comp n .non [a, b] (op2 n a b)
def spComp (K : PySem.W.Frag) (C : Addr) : Sp := fun vs H Q _ => ∃ (x t : Addr) (n z : Str) (c : V) (as bs : List Int), vs = [.ref x, .ref t] ∧ PrimAt K C H x n c z ∧ Comp n c as bs ∧ SqT K H t (as.map V.int) ∧
  ∀ p H', Same H H' → H' p = some (.tup (bs.map V.int)) → Q (.ref p) H'
def spPStr (K : PySem.W.Frag) (C : Addr) : Sp := fun vs H Q _ => ∃ (x : Addr) (n z : Str) (c : V), vs = [.ref x] ∧ PrimAt K C H x n c z ∧ z.length ≤ 100000 ∧ Q (.str z) H
theorem op2_add (a b : Int) : op2 "add" a b = [(a + b) % 4294967296] := by kernel_rfl
theorem op2_sub (a b : Int) : op2 "sub" a b = [(a - b) % 4294967296] := by kernel_rfl
theorem op2_mul (a b : Int) : op2 "mul" a b = [(a * b) % 4294967296] := by kernel_rfl
theorem op2_less (a b : Int) : op2 "less" a b = [if a < b then 1 else 0] := by kernel_rfl
theorem op2_equal (a b : Int) : op2 "equal" a b = [if a = b then 1 else 0] := by kernel_rfl
theorem op2_div (a b : Int) : op2 "divide" a b = if b = 0 then [0, a] else [a / b, a % b] := by kernel_rfl
theorem n6_no {n : Str} (h : n ∈ names6) : ¬ n = "const" ∧ ¬ n = "pick" := by
  simp only [names6, List.mem_cons, List.not_mem_nil, or_false] at h
  rcases h with rfl | rfl | rfl | rfl | rfl | rfl <;> decide +kernel
theorem n6_rest {n : Str} (h : n ∈ names6) (h1 : ¬ n = "divide") (h2 : ¬ n = "less") (h3 : ¬ n = "equal") : n = "add" ∨ n = "sub" ∨ n = "mul" := by
  simp only [names6, List.mem_cons, List.not_mem_nil, or_false] at h
  rcases h with h | h | h | h | h | h
  · exact .inl h
  · exact .inr (.inl h)
  · exact .inr (.inr h)
  · exact absurd h h2
  · exact absurd h h3
  · exact absurd h h1
theorem n6_plain {n : Str} (h : n ∈ names6) : n ∈ plain7 := (show ∀ n ∈ names6, n ∈ plain7 by decide +kernel) n h
end Ly

set_option maxRecDepth 100000
set_option maxHeartbeats 4000000
/-! data whose repr is taken -/
namespace Ly
open PySem PySem.Spec PyProof.Rows L2
/-- data of depth n and weight w at most, short leaves -/
structure Rep (n w : Nat) (d : PyData) : Prop where
  sh : d.showable = true
  nd : d.hasDict = false
  dp : d.depth ≤ n
  lv : d.leavesShort 13 = true
  wt : d.weight ≤ w
structure Reps (n w : Nat) (ds : List PyData) : Prop where
  sh : PyData.showableAll ds = true
  nd : PyData.hasDictAll ds = false
  dp : PyData.depthAll ds ≤ n
  lv : PyData.leavesShortAll 13 ds = true
  wt : PyData.weightAll ds ≤ w
theorem Rep.mono {n w n' w' : Nat} {d : PyData} (h : Rep n w d) (h1 : n ≤ n') (h2 : w ≤ w') : Rep n' w' d := ⟨h.sh, h.nd, Nat.le_trans h.dp h1, h.lv, Nat.le_trans h.wt h2⟩
theorem rep_non {n w : Nat} : Rep n w .none := ⟨rfl, rfl, Nat.zero_le _, rfl, Nat.zero_le _⟩
theorem rep_bool {n w : Nat} {b : Bool} : Rep n w (.bool b) := ⟨rfl, rfl, Nat.zero_le _, rfl, Nat.zero_le _⟩
theorem rep_int {n w : Nat} {i : Int} (h : i.natAbs < 10 ^ 12) (hw : 40 ≤ w) : Rep n w (.int i) := by
  have hl : i.natAbs.log2 < 40 := by
    by_cases z : i.natAbs = 0
    · rw [z]; decide
    · exact (Nat.log2_lt z).mpr (Nat.lt_of_lt_of_le h (by decide))
  refine ⟨decide_eq_true (by omega), rfl, Nat.zero_le _, decide_eq_true (PyData.shown_int_le h), ?_⟩
  show (if i == 0 then 0 else i.natAbs.log2 + 1) ≤ w
  split <;> omega
theorem rep_str {n w : Nat} {x : Str} (h : x.length ≤ w) (hc : x.cps.toList.all (fun c => decide (c < 16 ^ 8)) = true) : Rep n w (.str x) := ⟨rfl, rfl, Nat.zero_le _, hc, h⟩
theorem reps_nil {n w : Nat} : Reps n w [] := ⟨rfl, rfl, Nat.zero_le _, rfl, Nat.zero_le _⟩
theorem reps_cons {n w w1 w2 : Nat} {d : PyData} {ds : List PyData} (h : Rep n w1 d) (hs : Reps n w2 ds) (hw : w1 + 1 + w2 ≤ w) : Reps n w (d :: ds) := by
  refine ⟨?_, ?_, ?_, ?_, ?_⟩
  · simp only [PyData.showableAll, h.sh, hs.sh, Bool.and_self]
  · simp only [PyData.hasDictAll, h.nd, hs.nd, Bool.or_self]
  · simp only [PyData.depthAll]; exact Nat.max_le.mpr ⟨h.dp, hs.dp⟩
  · simp only [PyData.leavesShortAll, h.lv, hs.lv, Bool.and_self]
  · simp only [PyData.weightAll]; have := h.wt; have := hs.wt; omega
theorem reps_all {n w : Nat} : ∀ {ds : List PyData}, (∀ d ∈ ds, Rep n w d) → Reps n ((w + 1) * ds.length) ds
  | [], _ => reps_nil
  | d :: r, h => reps_cons (h d List.mem_cons_self) (reps_all fun x hx => h x (List.mem_cons_of_mem _ hx)) (by rw [List.length_cons, Nat.mul_add]; omega)
theorem Reps.mono {n w n' w' : Nat} {d : List PyData} (h : Reps n w d) (h1 : n ≤ n') (h2 : w ≤ w') : Reps n' w' d := ⟨h.sh, h.nd, Nat.le_trans h.dp h1, h.lv, Nat.le_trans h.wt h2⟩
theorem rep_tup {n w : Nat} {ds : List PyData} (h : Reps n w ds) : Rep (n + 1) w (.tuple ds) := ⟨h.sh, h.nd, Nat.succ_le_succ h.dp, h.lv, h.wt⟩
theorem rep_lst {n w : Nat} {ds : List PyData} (h : Reps n w ds) : Rep (n + 1) w (.list ds) := ⟨h.sh, h.nd, Nat.succ_le_succ h.dp, h.lv, h.wt⟩
theorem Rep.short {n w : Nat} {d : PyData} (h : Rep n w d) (hw : w ≤ 2 ^ 20) : d.shown.length ≤ sizeLine := PyData.shown_fits (B := 13) (by decide) (by decide) h.lv (Nat.le_trans h.wt hw)
/-- repr of data -/
theorem rep_read {K : PySem.W.Frag} {H : Hp} {Q : VK} {n w : Nat} {a : Addr} {d : PyData} (h : Rep n w d) (hd : Dp K H (.ref a) d) (hn : n ≤ 60) (hw : w ≤ 2 ^ 20) (q : Q (.str d.shown) H) : rRepr K [.ref a] H Q :=
  ⟨a, d, rfl, hd, h.sh, h.nd, Nat.le_trans h.dp hn, h.short hw, q⟩
/-! ### tuples of numbers -/
theorem rep_ints {bs : List Int} (hl : bs.length ≤ 1000) (h : ∀ b ∈ bs, b.natAbs < 10 ^ 12) : Rep 1 50000 (.tuple (bs.map .int)) :=
  rep_tup ((reps_all (n := 0) (w := 40) (ds := bs.map .int) fun d hd => by
    obtain ⟨b, hb, rfl⟩ := List.mem_map.mp hd
    exact rep_int (h b hb) (Nat.le_refl _)).mono (Nat.le_refl _) (by rw [List.length_map]; omega))
theorem dp_ints {K : PySem.W.Frag} {H : Hp} {a : Addr} {bs : List Int} (h : SqT K H a (bs.map V.int)) : Dp K H (.ref a) (.tuple (bs.map .int)) := .tup h (by
  clear h
  induction bs with
  | nil => exact .nil
  | cons b r ih => exact .cons (.int b) ih)
theorem comp_small {n : Str} {c : V} {as bs : List Int} (h : Comp n c as bs) (ha : ∀ a ∈ as, R32 a) (hc : ∀ v, c = .int v → R32 v) : bs.length ≤ 1000 ∧ ∀ b ∈ bs, b.natAbs < 10 ^ 12 := by
  have sm : ∀ {z : Int}, R32 z → z.natAbs < 10 ^ 12 := fun h => by have := h.1; have := h.2; omega
  cases h with
  | @const v =>
    refine ⟨by simp, fun b hb => ?_⟩
    simp only [List.mem_cons, List.not_mem_nil, or_false] at hb
    rw [hb]
    exact sm (hc v rfl)
  | @pick c a b =>
    refine ⟨by simp, fun z hz => ?_⟩
    simp only [List.mem_cons, List.not_mem_nil, or_false] at hz
    rw [hz]
    split
    · exact sm (ha _ (by simp))
    · exact sm (ha _ (by simp))
  | @two n a b hn ha' hb =>
    obtain ⟨a0, a1⟩ := ha'
    obtain ⟨b0, b1⟩ := hb
    have md : ∀ z : Int, (z % 4294967296).natAbs < 10 ^ 12 := fun z => by omega
    refine ⟨?_, fun z hz => ?_⟩
    · unfold op2
      repeat' split
      all_goals simp
    · unfold op2 at hz
      split at hz
      · split at hz
        · simp only [List.mem_cons, List.not_mem_nil, or_false] at hz
          rcases hz with rfl | rfl
          · decide
          · omega
        · rename_i hb'
          simp only [List.mem_cons, List.not_mem_nil, or_false] at hz
          rcases hz with rfl | rfl
          · have h1 := Int.ediv_nonneg a0 b0
            have h2 := Int.ediv_le_self b a0
            omega
          · have h1 := Int.emod_nonneg a hb'
            have h2 := Int.emod_lt_of_pos a (show (0 : Int) < b by omega)
            omega
      all_goals repeat' split at hz
      all_goals (simp only [List.mem_cons, List.not_mem_nil, or_false] at hz; subst hz; first | exact md _ | decide)
theorem int_text {n : Int} (h : R32 n) : intText? (Str.ofString (toString n)) = some n := by
  have e := numOf_text h.1 h.2
  unfold numOf at e
  split at e
  · rename_i q
    have e2 := Option.some.inj e
    unfold numOk at q
    simp only [Bool.and_eq_true, decide_eq_true_eq] at q
    obtain ⟨⟨⟨⟨q1, q2⟩, q3⟩, q4⟩, q5⟩ := q
    rw [int_dig q3 q1 q2, e2]
  · cases e
/-! ### data of texts, prims' interfaces -/
mutual
theorem same_dp {K : PySem.W.Frag} {H H' : Hp} (s : Same H H') : ∀ {d : PyData} {v : V}, Dp K H v d → Dp K H' v d
  | _, _, .non => .non
  | _, _, .bl b => .bl b
  | _, _, .int i => .int i
  | _, _, .str x => .str x
  | _, _, .lst h hs => .lst (same_sql s h) (same_dps s hs)
  | _, _, .tup h hs => .tup (same_sqt s h) (same_dps s hs)
theorem same_dps {K : PySem.W.Frag} {H H' : Hp} (s : Same H H') : ∀ {ds : List PyData} {vs : List V}, DpAll K H vs ds → DpAll K H' vs ds
  | _, _, .nil => .nil
  | _, _, .cons h hs => .cons (same_dp s h) (same_dps s hs)
end
def dTx (xs : List Str) : PyData := .tuple (xs.map .str)
theorem dps_strs {K : PySem.W.Frag} {H : Hp} : ∀ (xs : List Str), DpAll K H (xs.map V.str) (xs.map .str)
  | [] => .nil
  | x :: r => .cons (.str x) (dps_strs r)
theorem dp_strs {K : PySem.W.Frag} {H : Hp} {a : Addr} {xs : List Str} (h : SqT K H a (xs.map V.str)) : Dp K H (.ref a) (dTx xs) := .tup h (dps_strs xs)
def optD : Option Int → PyData
  | none => .none
  | some v => .int v
theorem dp_opt {K : PySem.W.Frag} {H : Hp} : ∀ (c : Option Int), Dp K H (optV c) (optD c)
  | none => .non
  | some v => .int v
def needs (n : Str) (ins : List Str) : List Str := if n = "delay" then [] else ins
def dProf (n : Str) (ins outs : List Str) : PyData := .tuple [.tuple [dTx outs, dTx (needs n ins)]]
def dIface (n : Str) (ins outs : List Str) : PyData := .tuple [dTx ins, dTx outs, dProf n ins outs]
@[irreducible] def dTold (n : Str) (ins outs : List Str) (c : Option Int) : PyData := .tuple [.str n, dTx ins, dTx outs, optD c, dIface n ins outs]
theorem ports_fun {n : Str} {ins outs ins' outs' : List Str} (h : (n, ins, outs) ∈ portsTab) (h' : (n, ins', outs') ∈ portsTab) : ins = ins' ∧ outs = outs' := by
  have k : ∀ p ∈ portsTab, ∀ q ∈ portsTab, p.1 = q.1 → p = q := by decide +kernel
  have e := k _ h _ h' rfl
  cases e
  exact ⟨rfl, rfl⟩
def spIface (K : PySem.W.Frag) (C : Addr) : Sp := fun vs H Q _ => ∃ (x : Addr) (n z : Str) (c : V) (ins outs : List Str), vs = [.ref x] ∧ PrimAt K C H x n c z ∧ (n, ins, outs) ∈ portsTab ∧
  ∀ p H', Same H H' → Dp K H' (.ref p) (dIface n ins outs) → Q (.ref p) H'
/-- a text of a primitive -/
structure PText (n : Str) (c : Option Int) : Prop where
  ok : OkC n c
  kc : withK n = c.isSome
def spDue1 (K : PySem.W.Frag) : Sp := fun vs H Q _ => ∃ (n : Str) (c : Option Int) (ins outs : List Str), vs = [.str (textOf n c)] ∧ PText n c ∧ (n, ins, outs) ∈ portsTab ∧
  ∀ p i o pr H', Same H H' → H' p = some (.tup [.str n, .ref i, .ref o, optV c, .ref pr]) → Dp K H' (.ref i) (dTx ins) → Dp K H' (.ref o) (dTx outs) → Dp K H' (.ref pr) (dProf n ins outs) → Q (.ref p) H'
theorem textOf_len {n : Str} {c : Option Int} (h : OkC n c) : (textOf n c).length ≤ 100 := by
  have hn : n.length ≤ 10 := (show ∀ n ∈ portNames, n.length ≤ 10 by decide +kernel) n h.1
  cases c with
  | none => exact Nat.le_trans hn (by decide)
  | some v =>
    have hv := h.2 v rfl
    have hls : (Str.ofString (toString v)).length ≤ 10 := PySem.W.KT.len_num hv.1 (by have := hv.2; omega : v < 10 ^ 10)
    show (n ++ " " ++ Str.ofString (toString v)).length ≤ 100
    rw [PySem.Str.length_append, PySem.Str.length_append]
    have : (" " : Str).length = 1 := by decide +kernel
    omega
theorem primOf_text {n : Str} {c : Option Int} (h : PText n c) : primOf (textOf n c) = some (n, c) := by
  cases c with
  | none => exact primOf_plain (port_plain h.ok.1 h.kc)
  | some v =>
    have hv := h.ok.2 v rfl
    refine primOf_K ?_ hv.1 hv.2
    have := h.kc
    unfold withK at this
    simpa using this
theorem split_text {n : Str} {c : Option Int} (h : PText n c) : Txt.split (textOf n c) " " = match c with | none => [n] | some v => [n, Str.ofString (toString v)] := by
  have hn : 32 ∉ TL.tl n := (show ∀ n ∈ portNames, 32 ∉ TL.tl n by decide +kernel) n h.ok.1
  cases c with
  | none => exact split_one hn
  | some v => exact split_two hn (num_sp v)
theorem rep_ports : ∀ p ∈ portsTab, (Rep 0 20 (.str p.1) ∧ Rep 1 60 (dTx p.2.1)) ∧ Rep 1 60 (dTx p.2.2) := by
  have k : ∀ p ∈ portsTab, (((PyData.str p.1).leavesShort 13 = true ∧ (PyData.str p.1).weight ≤ 20) ∧ ((dTx p.2.1).showable = true ∧ (dTx p.2.1).hasDict = false ∧ (dTx p.2.1).depth ≤ 1 ∧ (dTx p.2.1).leavesShort 13 = true ∧ (dTx p.2.1).weight ≤ 60)) ∧
      ((dTx p.2.2).showable = true ∧ (dTx p.2.2).hasDict = false ∧ (dTx p.2.2).depth ≤ 1 ∧ (dTx p.2.2).leavesShort 13 = true ∧ (dTx p.2.2).weight ≤ 60) := by decide +kernel
  intro p hp
  obtain ⟨⟨⟨a1, a2⟩, b1, b2, b3, b4, b5⟩, c1, c2, c3, c4, c5⟩ := k p hp
  exact ⟨⟨⟨rfl, rfl, Nat.zero_le _, a1, a2⟩, ⟨b1, b2, b3, b4, b5⟩⟩, ⟨c1, c2, c3, c4, c5⟩⟩
theorem rep_told {n : Str} {c : Option Int} {ins outs : List Str} (hc : OkC n c) (hp : (n, ins, outs) ∈ portsTab) : Rep 5 1000 (dTold n ins outs c) := by
  obtain ⟨⟨h1, h2⟩, h3⟩ := rep_ports _ hp
  have h0 : Rep 0 40 (optD c) := by
    cases c with
    | none => exact rep_non
    | some v => exact rep_int (by have := (hc.2 v rfl).1; have := (hc.2 v rfl).2; omega) (Nat.le_refl _)
  have hn : Rep 1 60 (dTx (needs n ins)) := by
    unfold needs
    split
    · exact rep_tup reps_nil
    · exact h2
  have hp : Rep 3 200 (dProf n ins outs) := rep_tup (reps_cons (w1 := 150) (w2 := 0) (rep_tup (reps_cons (w1 := 60) (w2 := 61) h3 (reps_cons (w1 := 60) (w2 := 0) hn reps_nil (by decide)) (by decide))) reps_nil (by decide))
  have hi : Rep 4 400 (dIface n ins outs) := rep_tup (reps_cons (w1 := 60) (w2 := 300) (h2.mono (by decide) (by decide)) (reps_cons (w1 := 60) (w2 := 201) (h3.mono (by decide) (by decide)) (reps_cons (w1 := 200) (w2 := 0) (hp.mono (by decide) (by decide)) reps_nil (by decide)) (by decide)) (by decide))
  unfold dTold
  have e := rep_tup (reps_cons (w1 := 20) (w2 := 700) (h1.mono (by decide) (by decide)) (reps_cons (w1 := 60) (w2 := 600) (h2.mono (by decide) (by decide)) (reps_cons (w1 := 60) (w2 := 500) (h3.mono (by decide) (by decide)) (reps_cons (w1 := 40) (w2 := 401) (h0.mono (by decide) (by decide)) (reps_cons (w1 := 400) (w2 := 0) hi reps_nil (by decide)) (by decide)) (by decide)) (by decide)) (show 20 + 1 + 700 ≤ 1000 by decide))
  exact e
def TextsOk (ts : List V) : Prop := ∀ v ∈ ts, ∃ n c, v = .str (textOf n c) ∧ PText n c
theorem texts7 : TextsOk (plain7.map V.str) := fun v hv => by
  obtain ⟨n, hn, rfl⟩ := List.mem_map.mp hv
  exact ⟨n, none, rfl, ⟨plain_port hn, fun _ e => by cases e⟩, plain_noK hn⟩
theorem pt_const {v : Int} (h : R32 v) : PText "const" (some v) := ⟨⟨by decide +kernel, fun _ e => by cases e; exact h⟩, (show withK "const" = true by decide +kernel)⟩
theorem pt_delay {v : Int} (h : R32 v) : PText "delay" (some v) := ⟨⟨by decide +kernel, fun _ e => by cases e; exact h⟩, (show withK "delay" = true by decide +kernel)⟩
theorem tx_const (t : Str) : ("const " : Str) ++ t = "const" ++ " " ++ t := by rw [show ("const" ++ " " : Str) = "const " by decide +kernel]
theorem tx_delay (t : Str) : ("delay " : Str) ++ t = "delay" ++ " " ++ t := by rw [show ("delay" ++ " " : Str) = "delay " by decide +kernel]
theorem dp_told {K : PySem.W.Frag} {H : Hp} {a i o q : Addr} {n : Str} {c : Option Int} {ins outs : List Str} (h : SqT K H a [.str n, .ref i, .ref o, optV c, .ref q]) (hi : Dp K H (.ref i) (dTx ins)) (ho : Dp K H (.ref o) (dTx outs)) (hq : Dp K H (.ref q) (dIface n ins outs)) : Dp K H (.ref a) (dTold n ins outs c) := by
  unfold dTold
  exact .tup h (.cons (.str n) (.cons hi (.cons ho (.cons (dp_opt c) (.cons hq .nil)))))
theorem dp_iface {K : PySem.W.Frag} {H : Hp} {a i o q : Addr} {n : Str} {ins outs : List Str} (h : SqT K H a [.ref i, .ref o, .ref q]) (hi : Dp K H (.ref i) (dTx ins)) (ho : Dp K H (.ref o) (dTx outs)) (hq : Dp K H (.ref q) (dProf n ins outs)) : Dp K H (.ref a) (dIface n ins outs) :=
  .tup h (.cons hi (.cons ho (.cons hq .nil)))
theorem kit_self {K : PySem.W.Frag} {C : Addr} : PySem.W.kitOne K (.ref C) (.ref C) = some true := by
  unfold PySem.W.kitOne
  rw [if_pos (by simp)]
theorem kit_sub {K : PySem.W.Frag} {C D : Addr} {cd : ClassData} (h1 : PySem.W.clsIn K D = some cd) (h2 : PySem.W.typeIn K (.ref D) = some (.type "type")) (h3 : PySem.W.subIn K (.ref C) (.ref D) = some true) : PySem.W.kitOne K (.ref C) (.ref D) = some true := by
  unfold PySem.W.kitOne
  split
  · rfl
  · unfold PySem.W.kitCls
    simp only [h1, h2]
    rw [if_pos (by simp)]
    exact h3
end Ly

set_option maxRecDepth 100000
set_option maxHeartbeats 4000000
/-! texts: the canonical form of a value's text; repr of any data; lengths and signs of texts -/
namespace Ly
open PySem PySem.Spec PyProof.Rows L2
/-! ### a value's text is the word -/
theorem dv_app (l : List Nat) (c : Nat) : NumText.digitsVal (l ++ [c]) = NumText.digitsVal l * 10 + (c - 48) := by
  unfold NumText.digitsVal
  rw [List.foldl_append]
  rfl
theorem digs_back : ∀ (r : List Nat), (∀ c ∈ r, 48 ≤ c ∧ c ≤ 57) → r ≠ [] → (r.reverse.head? = some 48 → r = [48]) → (Nat.toDigits 10 (NumText.digitsVal r.reverse)).map Char.toNat = r.reverse
  | [], _, h, _ => absurd rfl h
  | c :: r, hd, _, hz => by
    have hc := hd c List.mem_cons_self
    have dch : ∀ d : Nat, d < 10 → (Nat.digitChar d).toNat = d + 48 := by decide
    rw [List.reverse_cons, dv_app]
    cases hr : r with
    | nil =>
      show (Nat.toDigits 10 (NumText.digitsVal [] * 10 + (c - 48))).map Char.toNat = [c]
      rw [show NumText.digitsVal [] = 0 from rfl, Nat.zero_mul, Nat.zero_add, Nat.toDigits_of_lt_base (by omega)]
      show [(Nat.digitChar (c - 48)).toNat] = [c]
      rw [dch _ (by omega)]
      congr 1
      omega
    | cons b r' =>
      rw [← hr]
      have hr0 : r ≠ [] := by rw [hr]; simp
      have hh : r.reverse.head? ≠ some 48 := fun e => by
        have e2 : (c :: r).reverse.head? = some 48 := by
          rw [List.reverse_cons]
          cases q : r.reverse with
          | nil => rw [q] at e; cases e
          | cons x y => rw [q] at e; exact e
        have := hz e2
        rw [hr] at this
        simp at this
      have ih := digs_back r (fun x hx => hd x (List.mem_cons_of_mem _ hx)) hr0 (fun e => absurd e hh)
      have hpos : 0 < NumText.digitsVal r.reverse := by
        rcases Nat.eq_zero_or_pos (NumText.digitsVal r.reverse) with z | z
        · rw [z] at ih
          have : (Nat.toDigits 10 0).map Char.toNat = [48] := by decide +kernel
          rw [this] at ih
          rw [← ih] at hh
          exact absurd rfl hh
        · exact z
      have t : Nat.toDigits 10 (NumText.digitsVal r.reverse) ++ Nat.toDigits 10 (c - 48) = Nat.toDigits 10 (10 * NumText.digitsVal r.reverse + (c - 48)) := Nat.toDigits_append_toDigits (by decide) hpos (by omega)
      rw [Nat.mul_comm, ← t, List.map_append, ih, Nat.toDigits_of_lt_base (show c - 48 < 10 by omega)]
      show r.reverse ++ [(Nat.digitChar (c - 48)).toNat] = r.reverse ++ [c]
      rw [dch _ (by omega)]
      congr 2
      omega
theorem num_text {w : Str} {v : Int} (h : numOf w = some v) : Str.ofString (toString v) = w := by
  unfold numOf at h
  split at h
  · rename_i q
    have e := Option.some.inj h
    unfold numOk at q
    simp only [Bool.and_eq_true, decide_eq_true_eq, Bool.not_eq_true', Bool.and_eq_false_iff, decide_eq_false_iff_not] at q
    obtain ⟨⟨⟨⟨q1, q2⟩, q3⟩, q4⟩, q5⟩ := q
    have el : w.length = w.cps.toList.length := str_len_list w
    have hd : ∀ c ∈ w.cps.toList, 48 ≤ c ∧ c ≤ 57 := fun c hc => by
      have q := List.all_eq_true.mp q3 c hc
      unfold isDig at q
      simpa using q
    have hb := digs_back w.cps.toList.reverse (fun c hc => hd c (List.mem_reverse.mp hc)) (fun z => by
      have : w.cps.toList = [] := by simpa using z
      rw [this] at el
      simp at el
      omega) (fun z => by
      rw [List.reverse_reverse] at z
      have h1 : ¬ 1 < w.length := q4.resolve_left fun n => n z
      have h2 : w.cps.toList.length = 1 := by omega
      match hm : w.cps.toList, h2 with
      | [a], _ =>
        rw [hm] at z
        have : a = 48 := by simpa using z
        rw [this]
        rfl)
    rw [List.reverse_reverse] at hb
    have sg := PySem.W.KIN.signs_num (NumText.digitsVal w.cps.toList)
    have e2 : (Str.ofString (toString v)).cps.toList = w.cps.toList := by
      rw [← e]
      show (Str.ofString (toString ((NumText.digitsVal w.cps.toList : Nat) : Int))).cps.toList = _
      rw [sg]
      exact hb
    have e3 : (Str.ofString (toString v)).cps = w.cps := by
      have := congrArg List.toArray e2
      simpa using this
    cases hw : w with
    | mk a =>
      rw [hw] at e3
      cases ho : Str.ofString (toString v) with
      | mk b =>
        rw [ho] at e3
        exact congrArg Str.mk e3
  · cases h
theorem split_back {z : Str} : Str.join " " (Txt.split z " ") = z := PySem.StrLaws.join_split z " "
theorem text_prim {z n : Str} {c : Option Int} (h : primOf z = some (n, c)) : textOf n c = z := by
  have hj := split_back (z := z)
  unfold primOf at h
  generalize Txt.split z " " = ws at h hj
  match ws, h, hj with
  | [m], h, hj =>
    change (if m ∈ plain7 then some (m, (none : Option Int)) else none) = _ at h
    split at h
    · cases h
      rw [← hj, ← TL.join_eq]
      rfl
    · cases h
  | [m, k], h, hj =>
    change (if withK m = true then (numOf k).map (fun v => (m, some v)) else none) = _ at h
    split at h
    · cases e : numOf k with
      | none => rw [e] at h; cases h
      | some v =>
        rw [e] at h
        cases h
        rw [← hj, ← TL.join_eq]
        show n ++ " " ++ Str.ofString (toString v) = _
        rw [num_text e]
        rfl
    · cases h
  | [], h, _ => cases h
  | _ :: _ :: _ :: _, h, _ => cases h
/-! ### repr of any data -/
def rReprV (K : PySem.W.Frag) : List V → Hp → VK → Prop := fun xs H Q => ∃ v d, xs = [v] ∧ Dp K H v d ∧ d.showable = true ∧ d.hasDict = false ∧ d.depth ≤ 60 ∧ d.shown.length ≤ sizeLine ∧ Q (.str d.shown) H
theorem call_reprV {X : Cx} (K : PySem.W.Frag) (hg : Idle X.A) (hu : X.A.units + 64 < cLine) (hK : X.K = K := by rfl) : CallR X (.builtin "repr") (rReprV K) := by
  subst hK
  intro pins s σ H xs us Q I r h
  obtain ⟨v, d, rfl, hd, hs, hn, hdp, hz, q⟩ := h
  have rr := r
  obtain ⟨u, rfl, ru⟩ := vals1 r
  cases hd with
  | non =>
    cases ru
    exact PySem.P.repr_of_none ⟨.str "None", H, I.tok _, ⟨_, rfl⟩, q⟩
  | bl b =>
    cases ru
    exact PySem.P.repr_of_bool ⟨.str (if b then "True" else "False"), H, I.tok _, ⟨_, rfl⟩, q⟩
  | int i =>
    obtain ⟨t, rfl⟩ := ru
    exact PySem.P.repr_of_int (of_decide_eq_true hs) ⟨.str (toString i), H, I.tok _, ⟨_, rfl⟩, q⟩
  | str x =>
    obtain ⟨t, rfl⟩ := ru
    exact PySem.P.repr_of_str ⟨.str (reprText x), H, I.tok _, ⟨_, rfl⟩, q⟩ hz
  | lst hq ha => exact call_repr (X := X) X.K hg hu rfl pins s σ H _ _ Q I rr ⟨_, _, rfl, .lst hq ha, hs, hn, hdp, hz, q⟩
  | tup hq ha => exact call_repr (X := X) X.K hg hu rfl pins s σ H _ _ Q I rr ⟨_, _, rfl, .tup hq ha, hs, hn, hdp, hz, q⟩
/-! ### texts of bounded length and usual signs -/
structure OkT (n : Nat) (z : Str) : Prop where
  ln : z.length ≤ n
  sg : z.cps.toList.all (fun c => decide (c < 1114112)) = true
theorem OkT.mono {n m : Nat} {z : Str} (h : OkT n z) (k : n ≤ m) : OkT m z := ⟨Nat.le_trans h.ln k, h.sg⟩
theorem okT_app {n m : Nat} {x y : Str} (h : OkT n x) (k : OkT m y) : OkT (n + m) (x ++ y) := by
  refine ⟨by rw [PySem.Str.length_append]; exact Nat.add_le_add h.ln k.ln, ?_⟩
  have e : (x ++ y).cps.toList = x.cps.toList ++ y.cps.toList := by rw [PySem.Str.cps_append]; simp
  rw [e, List.all_append, h.sg, k.sg]
  rfl
theorem okT_cut {n : Nat} {z : Str} {lo hi : Option Int} (h : OkT n z) : OkT n (cutS z lo hi) := by
  refine ⟨Nat.le_trans (cutS_length z lo hi) h.ln, ?_⟩
  rw [List.all_eq_true]
  intro c hc
  refine List.all_eq_true.mp h.sg c ?_
  have : c ∈ (z.cps.toList.drop (HT.sIx z.length 0 lo)).take (HT.sIx z.length z.length hi - HT.sIx z.length 0 lo) := by simpa [cutS] using hc
  exact List.mem_of_mem_drop (List.mem_of_mem_take this)
theorem okT_num {v : Int} (h0 : 0 ≤ v) (h1 : v < 10 ^ 10) : OkT 10 (Str.ofString (toString v)) := by
  refine ⟨PySem.W.KT.len_num h0 h1, ?_⟩
  obtain ⟨m, rfl⟩ := Int.eq_ofNat_of_zero_le h0
  rw [List.all_eq_true]
  intro c hc
  rw [PySem.W.KIN.signs_num m] at hc
  obtain ⟨ch, hch, e⟩ := List.mem_map.mp hc
  have r := PyProof.Rows.digit_range (Nat.isDigit_of_mem_toDigits (by decide) (by decide) hch)
  rw [← e]
  exact decide_eq_true (by omega)
theorem rep_okT {n m w : Nat} {z : Str} (h : OkT n z) (k : n ≤ w) : Rep m w (.str z) := rep_str (Nat.le_trans h.ln k) (by
  rw [List.all_eq_true]
  intro c hc
  have := of_decide_eq_true (List.all_eq_true.mp h.sg c hc)
  exact decide_eq_true (Nat.lt_of_lt_of_le this (by decide)))
theorem shaped_chars {z : Str} {cs : List Nat} (h : z.cps.toList.all (fun c => decide (c < 1114112)) = true) (hs : ∀ c ∈ cs, c ∈ z.cps.toList) : SeqAt.shaped (.list (cs.map fun c => PyData.str ⟨#[c]⟩)) = true := by
  have a : PyData.canLayAll0 (cs.map fun c => PyData.str ⟨#[c]⟩) = true := by
    induction cs with
    | nil => rfl
    | cons c r ih =>
      show (PySem.PyData.strOk ⟨#[c]⟩ && PyData.canLayAll0 (r.map fun c => PyData.str ⟨#[c]⟩)) = true
      rw [ih fun x hx => hs x (List.mem_cons_of_mem _ hx), Bool.and_true]
      have := of_decide_eq_true (List.all_eq_true.mp h c (hs c List.mem_cons_self))
      show (#[c] : Array Nat).all (· < 0x110000) = true
      simp [this]
  have d : PyData.depthAll (cs.map fun c => PyData.str ⟨#[c]⟩) = 0 := by
    induction cs with
    | nil => rfl
    | cons c r ih =>
      show max 0 (PyData.depthAll (r.map fun c => PyData.str ⟨#[c]⟩)) = 0
      rw [ih (fun x hx => hs x (List.mem_cons_of_mem _ hx)) (by
        have a2 : (PySem.PyData.strOk ⟨#[c]⟩ && PyData.canLayAll0 (r.map fun c => PyData.str ⟨#[c]⟩)) = true := a
        exact (Bool.and_eq_true_iff.mp a2).2)]
      rfl
  unfold SeqAt.shaped
  have e1 : (PyData.list (cs.map fun c => PyData.str ⟨#[c]⟩)).canLay0 = true := a
  have e2 : (PyData.list (cs.map fun c => PyData.str ⟨#[c]⟩)).depth ≤ 64 := by
    show PyData.depthAll _ + 1 ≤ 64
    rw [d]
    decide
  rw [e1, decide_eq_true e2]
  rfl
theorem spl_mem (S : List Nat) : ∀ (l acc : List Nat) (k : Nat), ∀ p ∈ TL.spl S k acc l, ∀ c ∈ p, c ∈ acc ∨ c ∈ l
  | [], acc, k => by
    rw [TL.spl_nil]
    intro p hp c hc
    simp only [List.mem_singleton] at hp
    subst hp
    exact .inl (by simpa using hc)
  | d :: r, acc, 0 => by
    intro p hp c hc
    unfold TL.spl at hp
    split at hp
    · rcases List.mem_cons.mp hp with rfl | hp
      · exact .inl (by simpa using hc)
      · rcases spl_mem S r [] _ p hp c hc with h | h
        · cases h
        · exact .inr (List.mem_cons_of_mem _ h)
    · rcases spl_mem S r _ 0 p hp c hc with h | h
      · rcases List.mem_append.mp h with h | h
        · exact .inl h
        · rw [List.mem_singleton.mp h]
          exact .inr List.mem_cons_self
      · exact .inr (List.mem_cons_of_mem _ h)
  | d :: r, acc, k + 1 => by
    intro p hp c hc
    unfold TL.spl at hp
    rcases spl_mem S r acc k p hp c hc with h | h
    · exact .inl h
    · exact .inr (List.mem_cons_of_mem _ h)
theorem okT_split {n : Nat} {x : Str} (h : OkT n x) : ∀ p ∈ Txt.split x " ", OkT n p := fun p hp => by
  refine ⟨Nat.le_trans (split_lens sp_ne sp_k p hp) h.ln, ?_⟩
  have e := TL.split_spl x " " sp_ne (TL.kind_ok sp_k)
  have h2 : TL.tl p ∈ (Txt.split x " ").map TL.tl := List.mem_map_of_mem hp
  rw [e] at h2
  rw [List.all_eq_true]
  intro c hc
  rcases spl_mem _ _ _ _ _ h2 c hc with q | q
  · cases q
  · exact List.all_eq_true.mp h.sg c q
theorem inV_mem (z : Str) : ∀ l : List Str, inV (.str z) (l.map V.str) = decide (z ∈ l) := fun l => by
  have e : ∀ a b : Str, eqV (.str a) (.str b) = decide (b = a) := fun a b => by
    show (a == b) = _
    by_cases h : a = b
    · rw [h]; simp
    · rw [beq_eq_false_iff_ne.mpr h, decide_eq_false (fun q => h q.symm)]
  unfold inV
  induction l with
  | nil => simp
  | cons a r ih =>
    rw [List.map_cons, List.any_cons, ih, e]
    by_cases h : z = a
    · rw [decide_eq_true h, Bool.true_or, decide_eq_true (by rw [h]; exact List.mem_cons_self)]
    · rw [decide_eq_false h, Bool.false_or]
      by_cases h2 : z ∈ r
      · rw [decide_eq_true h2, decide_eq_true (List.mem_cons_of_mem _ h2)]
      · rw [decide_eq_false h2, decide_eq_false fun q => (List.mem_cons.mp q).elim h h2]
theorem prim_plain {z n : Str} {r : List Str} (h : Txt.split z " " = n :: r) (hk : withK n = false) : (primOf z).isSome = decide (z ∈ plain7) := by
  by_cases hz : z ∈ plain7
  · rw [primOf_plain hz, decide_eq_true hz]
    rfl
  · rw [decide_eq_false hz]
    have hj := split_back (z := z)
    unfold primOf
    rw [h] at hj ⊢
    match r, hj with
    | [], hj =>
      rw [← TL.join_eq] at hj
      have e : n = z := hj
      show (if n ∈ plain7 then some (n, (none : Option Int)) else none).isSome = false
      rw [if_neg (e ▸ hz)]
      rfl
    | [k], _ =>
      show (if withK n = true then (numOf k).map (fun v => (n, some v)) else none).isSome = false
      rw [hk]
      rfl
    | _ :: _ :: _, _ => rfl
/-! ### all stands but one object -/
def SameX (p : Addr) (H H' : Hp) : Prop := ∀ b u, b ≠ p → H b = some u → H' b = some u
theorem sx_of {p : Addr} {H H' : Hp} (s : Same H H') : SameX p H H' := fun b u _ e => s b u e
theorem SameX.trans {p : Addr} {H H1 H2 : Hp} (a : SameX p H H1) (b : SameX p H1 H2) : SameX p H H2 := fun c u n e => b c u n (a c u n e)
theorem sx_put {p : Addr} {H H' : Hp} {o : HO} (s : SameX p H H') : SameX p H (upd H' p o) := fun b u n e => by
  rw [upd_ne n]
  exact s b u n e
theorem sx_new {p q : Addr} {H H' : Hp} {o : HO} (s : SameX p H H') (hq : H' q = none) : SameX p H (upd H' q o) := fun b u n e => by
  have q1 := s b u n e
  rw [upd_ne (ne_of_none q1 hq)]
  exact q1
theorem feed_new {H : Hp} {p q : Addr} {a b : Int} {o : HO} (h : FeedAt H p a b) (hq : H q = none) : FeedAt (upd H q o) p a b := feed_same (same_new hq) h
def spPick2 (K : PySem.W.Frag) : Sp := fun vs H Q E => spPick K vs H Q E ∨ ∃ (p : Addr) (z : Str) (a b : Int), vs = [.ref p, .str z] ∧ FeedAt H p a b ∧ OkT 1000 z ∧ 0 < z.length ∧
  ∀ (s : Str) (a' b' : Int), OkT 1 s → FeedAt (upd H p (.lst [.int a', .int b'])) p a' b' → Q (.str s) (upd H p (.lst [.int a', .int b']))
def spChg : Sp := fun vs H Q _ => ∃ (p : Addr) (t : Str) (n : Nat) (a b : Int), vs = [.ref p, .str t] ∧ OkT n t ∧ n ≤ 10000 ∧ FeedAt H p a b ∧
  ∀ (t' : Str) (H' : Hp) (a' b' : Int), OkT (2 * n + 30) t' → SameX p H H' → FeedAt H' p a' b' → Q (.str t') H'
/-! ### text * int -/
theorem op_mulStr {X : Cx} : OpR X (binaryOp .Mult) (fun x y H Q => ∃ a n, x = .str a ∧ y = .int n ∧ MulOk a n ∧ Q (.str (Txt.mul a n)) H) := by
  intro pins s σ H x y v u Q I rx ry h
  obtain ⟨a, n, rfl, rfl, hm, q⟩ := h
  obtain ⟨t, rfl⟩ := rx
  obtain ⟨t', rfl⟩ := ry
  exact PySem.SB.mul hm fun t2 k => ⟨.str (Txt.mul a n), H, I.tok k, ⟨t2, rfl⟩, q⟩
theorem rep_fold (a : Array Nat) : ∀ (m : Nat) (acc : Array Nat), ((List.replicate m a).foldl (· ++ ·) acc).size = acc.size + m * a.size ∧ ∀ c ∈ ((List.replicate m a).foldl (· ++ ·) acc).toList, c ∈ acc.toList ∨ c ∈ a.toList
  | 0, acc => ⟨by simp, fun c hc => .inl hc⟩
  | m + 1, acc => by
    obtain ⟨h1, h2⟩ := rep_fold a m (acc ++ a)
    rw [List.replicate_succ, List.foldl_cons]
    refine ⟨?_, fun c hc => ?_⟩
    · rw [h1, Array.size_append, Nat.succ_mul]
      omega
    · rcases h2 c hc with h | h
      · rw [Array.toList_append] at h
        exact List.mem_append.mp h
      · exact .inr h
theorem okT_mul {n k m : Nat} {x : Str} (h : OkT n x) (hk : n * k ≤ m) (hn : n ≤ m) : OkT m (Txt.mul x (k : Int)) := by
  unfold Txt.mul
  split
  · exact ⟨Nat.zero_le _, rfl⟩
  · split
    · exact h.mono hn
    · obtain ⟨h1, h2⟩ := rep_fold x.cps k #[]
      refine ⟨?_, ?_⟩
      · show ((List.replicate ((k : Int)).toNat x.cps).foldl (· ++ ·) #[]).size ≤ m
        rw [Int.toNat_natCast, h1]
        have : x.cps.size ≤ n := h.ln
        have h3 : k * x.cps.size ≤ n * k := by rw [Nat.mul_comm n]; exact Nat.mul_le_mul_left k this
        simp only [Array.size_empty, Nat.zero_add]
        omega
      · rw [List.all_eq_true]
        intro c hc
        have hc' : c ∈ ((List.replicate ((k : Int)).toNat x.cps).foldl (· ++ ·) #[]).toList := hc
        rw [Int.toNat_natCast] at hc'
        rcases h2 c hc' with q | q
        · cases q
        · exact List.all_eq_true.mp h.sg c q
theorem mulOk1 : MulOk "0" 5000 := ⟨by decide, fun _ _ => by decide +kernel, fun _ _ => by decide +kernel⟩
theorem mulOk2 : MulOk "add" 999 := ⟨by decide, fun _ _ => by decide +kernel, fun _ _ => by decide +kernel⟩
/-! ### lists of texts -/
structure TsOk (ts : List V) (n : Nat) : Prop where
  len : ts.length = n
  all : ∀ v ∈ ts, ∃ z, v = V.str z ∧ OkT 6000 z
  nine : ∀ v ∈ ts.take 9, ∃ z, v = V.str z ∧ OkT 20 z
theorem TsOk.app {ts us : List V} {n m : Nat} (h : TsOk ts n) (h9 : 9 ≤ n) (hm : us.length = m) (hu : ∀ v ∈ us, ∃ z, v = V.str z ∧ OkT 6000 z) : TsOk (ts ++ us) (n + m) := by
  refine ⟨by rw [List.length_append, h.len, hm], fun v hv => ?_, fun v hv => ?_⟩
  · rcases List.mem_append.mp hv with q | q
    · exact h.all v q
    · exact hu v q
  · rw [List.take_append_of_le_length (by rw [h.len]; exact h9)] at hv
    exact h.nine v hv
theorem ts_first {ts us : List V} {m : Nat} (h : ∀ v ∈ ts ++ us, ∃ z, v = V.str z ∧ OkT 20 z) (hm : (ts ++ us).length = m) : TsOk (ts ++ us) m :=
  ⟨hm, fun v hv => by
    obtain ⟨z, e, o⟩ := h v hv
    exact ⟨z, e, o.mono (by decide)⟩, fun v hv => h v (List.mem_of_mem_take hv)⟩
theorem okL {n : Nat} {l : List Str} (h : ∀ x ∈ l, x.length ≤ n ∧ x.cps.toList.all (fun c => decide (c < 1114112)) = true) : ∀ v ∈ l.map V.str, ∃ z, v = V.str z ∧ OkT n z := fun v hv => by
  obtain ⟨x, hx, rfl⟩ := List.mem_map.mp hv
  exact ⟨x, rfl, (h x hx).1, (h x hx).2⟩
theorem cut9 {ts : List V} (h : 9 ≤ ts.length) : cutV ts none (some 9) = ts.take 9 := by
  unfold cutV
  have e1 : HT.sIx ts.length 0 none = 0 := rfl
  have e2 : HT.sIx ts.length ts.length (some ((9 : Nat) : Int)) = min 9 ts.length := HT.sIx_nat _ _ _
  have e3 : HT.sIx ts.length ts.length (some 9) = 9 := by
    have : HT.sIx ts.length ts.length (some 9) = min 9 ts.length := e2
    rw [this]
    omega
  rw [e1, e3]
  rfl
theorem same_sx {p : Addr} {H H1 H2 : Hp} (s : Same H H1) (x : SameX p H1 H2) (hp : H p = none) : Same H H2 := fun b u e => x b u (ne_of_none e hp) (s b u e)
end Ly

set_option maxRecDepth 100000
set_option maxHeartbeats 4000000
/-! a caught exception that a name keeps beyond the suite: the clause's rule tracks it (ExT); its field, isinstance; a classmethod's call that may raise -/
namespace Ly
open PySem PySem.Spec PyProof.Rows L2
def ExT (cls : Value) (d : Option Addr) (a : Addr) : HO := .ext fun h => ∃ (oe : Obj) (vs : Array Value), h.get? a = some oe ∧ Zc cls d oe ∧ oe.data = .fields vs
theorem exT_ok {P : Program} {w : World} {H : Hp} {h : Heap} {a : Addr} {cls : Value} {d : Option Addr} {oe : Obj} {vs : Array Value} (e : h.get? a = some oe) (z : Zc cls d oe) (hd : oe.data = .fields vs) : ObjOk P w H h a (ExT cls d a) :=
  ⟨⟨oe, vs, e, z, hd⟩, ⟨oe, e⟩, fun h1 h2 z k => by
    obtain ⟨o, v, q, r⟩ := z
    exact ⟨o, v, k _ q, r⟩⟩
theorem exT_at {P : Program} {w : World} {H : Hp} {h : Heap} {a : Addr} {cls : Value} {d : Option Addr} (hok : HOk P w H h) (he : H a = some (ExT cls d a)) : ∃ (oe : Obj) (vs : Array Value), h.get? a = some oe ∧ Zc cls d oe ∧ oe.data = .fields vs := by
  have x : ObjOk P w H h a (.ext fun h => ∃ (oe : Obj) (vs : Array Value), h.get? a = some oe ∧ Zc cls d oe ∧ oe.data = .fields vs) := hok a _ he
  exact x.1
section
variable {X : Cx} {pins : List (Addr × Obj)} {σ : L2.St} {H : Hp} {s sI : Shared}
/-- an object above all that stands is tracked -/
theorem track {a : Addr} {o : HO} (J : Inv X pins σ H s) (na : H a = none) (nL : a ≠ X.env.locals) (hpin : ∀ p ∈ X.pn ++ pins, p.1 ≠ a) (hcell : ∀ x c, X.env.cells.lookup x = some c → c ≠ a)
    (hold : ∀ b u, X.s_0.heap.get? b = some u → b ∉ X.ex → b ≠ a) (new : ObjOk X.prog X.w (upd H a o) s.heap a o) : Inv X pins σ (upd H a o) s := by
  refine ⟨J.ok, J.os, J.bare, ⟨J.base.keep, J.base.slot, fun b u e n hx => ?_, J.base.there, fun b xs e => ?_, fun b u v e => ?_, fun b ps e => ?_⟩, J.loc, J.cell, ?_, fun x c e => ?_, fun p hp => ?_, L2.HOk.laidN J.hok (fun b u q => q) na new, J.len⟩
  · rw [upd_ne (hold b u e hx)]
    exact J.base.free b u e n hx
  · have q := J.base.tups b xs e
    rw [upd_ne (ne_of_none q na)]
    exact q
  · have q := J.base.frzs b u v e
    rw [upd_ne (ne_of_none q na)]
    exact q
  · obtain ⟨more, q⟩ := J.base.tbls b ps e
    exact ⟨more, by rw [upd_ne (ne_of_none q na)]; exact q⟩
  · rw [upd_ne (Ne.symm nL)]
    exact J.free
  · rw [upd_ne (hcell x c e)]
    exact J.freeC x c e
  · obtain ⟨e, n, r⟩ := J.pin p hp
    exact ⟨e, by rw [upd_ne (hpin p hp)]; exact n, r⟩
theorem toSuite (I : Inv X pins σ H s) (a : Addr) : Inv (X.suite a (X.pn ++ pins)) [] σ H s :=
  ⟨I.ok.suite _ _, I.os, I.bare, I.base, I.loc, I.cell, I.free, I.freeC, fun p hp => I.pin p (by rw [List.append_nil] at hp; exact hp), I.hok, I.len⟩
theorem fromSuite {a : Addr} {pn' : List (Addr × Obj)} (I : Inv (X.suite a (X.pn ++ pins)) pn' σ H s) (ok : X.Ok) : Inv X pins σ H s :=
  ⟨ok, I.os, I.bare, I.base, I.loc, I.cell, I.free, I.freeC, fun p hp => I.pin p (List.mem_append_left _ hp), I.hok, I.len⟩
end
/-- what the clause 'except x as n' wishes of the body's exception: it is tracked in the suite and behind it -/
def wKp (K : PySem.W.Frag) (c : Value) (i : Nat) (ts : Addr → Value → Option Addr → TS) (Wout : WX) (D : Ends) : WX := fun cls d σ H =>
  ∃ b, PySem.W.exmOne K cls c = some b ∧ (b = true → ∀ a, H a = none → ts a cls d { nx := fun σ' H' => D.nx (σ'.set i none) H', rt := D.rt, bk := fun σ' H' => D.bk (σ'.set i none) H', ct := fun σ' H' => D.ct (σ'.set i none) H' } (σ.set i (some (.ref a))) (upd H a (ExT cls d a))) ∧
    (b = false → Wout cls d σ H)
section
variable {X : Cx} {x n : Str} {c : Value} {i : Nat} {body suite : List Stmt} {b₀ : Stmt} {np pos pos' : Pos} {tb : WX → TS} {ts : Addr → Value → Option Addr → TS} {Wout : WX}
theorem ps_try_keep (hs : X.stack = X.env :: X.outer) (hf : X.env.frame = some X.env.locals) (hN : X.N.Nodup) (hi : X.N[i]? = some n) (hln : X.env.kindOf n = some .local) (hc : Names X x c) (tk : Takes X Wout)
    (hb : ∀ (W : WX) (pn : List (Addr × Obj)) (xe : Value → Shared → Prop), Takes (X.tr pn xe) W → PassesOwn (model X.prog X.w) X.A X.env xe → PSs (X.tr pn xe) body (tb W))
    (hsu : ∀ (a : Addr) (cls : Value) (d : Option Addr) (pn : List (Addr × Obj)), PSs (X.suite a pn) (b₀ :: suite) (ts a cls d)) :
    PS X (.Try body [.ExceptHandler (some (.Name x np)) (some n) (b₀ :: suite) pos'] [] [] pos) (fun D σ H => tb (wKp X.K c i ts Wout D) D σ H) := by
  refine ⟨fun pins s σ H D I h => ?_⟩
  have ok := I.ok
  have hfr : X.A.frames = some (X.env :: X.outer) := by rw [ok.frames, hs]
  have hloc : Loc X.env.scope n := .inl hln
  refine wpAny_Try_except ?_
  refine wpAny_mono ((hb (wKp X.K c i ts Wout D) (X.pn ++ pins) (fun e s₁ => wpAny (model X.prog X.w) X.A (noteFrame e X.env) (fun _ s₂ => wpAny (model X.prog X.w) X.A (setFlight e none) (fun _ s₃ =>
    wpAny (model X.prog X.w) X.A (handleBy e X.env [.ExceptHandler (some (.Name x np)) (some n) (b₀ :: suite) pos']) (SP X pins D) X.xe s₃) X.xe s₂) X.xe s₁) (fun u s' xx => ?_) PassesOwn.looking).run [] s σ H D (I.toTry _) h) (fun f s1 hsp => ?_) (fun e s1 he => he)
  · obtain ⟨a, B, sI, pins', σ', H', cls, d, rfl, J', nb, up, sky, na, os, ag, b, hb1, hyes, hno⟩ := xx
    have J : Inv X pins σ' H' sI := J'.ofTry ok
    have sky' : Sky B (X.env :: X.outer) a (Zc cls d) X.env.locals s'.heap := by rw [← hs]; exact sky
    show wpAny (model X.prog X.w) X.A (noteFrame (.ref a) X.env) _ _ _
    refine Sky.land Zc.steady hfr hf sky' fun h3 fl3 up3 => ?_
    have J3 : Inv X pins σ' H' { s' with heap := h3 } := J.landed nb fl3.1 (up.trans up3) os ag
    obtain ⟨oe3, vs3, he3, hz3, hd3⟩ := fl3.there
    have nfr : a ∉ frs (X.env :: X.outer) := fun hm => by
      obtain ⟨_, o', e', hnf⟩ := fl3.2.2.1.mem hm
      rw [he3] at e'; cases e'
      exact hnf _ hd3
    have nL : a ≠ X.env.locals := fun z => nfr (List.mem_filterMap.mpr ⟨X.env, List.mem_cons_self, by rw [hf, z]⟩)
    have nF : a ∉ X.fs := fun hm => by
      obtain ⟨e, he, q⟩ := List.mem_filterMap.mp hm
      exact nfr (List.mem_filterMap.mpr ⟨e, List.mem_cons_of_mem _ he, q⟩)
    have old : ∀ b o, sI.heap.get? b = some o → b ≠ a := fun b o e z => by
      have q := nb b o e (by rw [z]; show a ∉ frs X.stack; rw [hs]; exact nfr)
      rw [z, fl3.2.1] at q
      cases q
    have S3 := J3.suite he3 hd3 na nL nF
    refine wpAny_handleBy_cons (codeAny_handlers_test ?_) (by intro q; cases q)
    have LT : PySem.W.Looks (model X.prog X.w) h3 (typeOf (.ref a)) cls := fun A Q E s k q => wpAny_typeOf_ref (k _ _ he3) (by rw [hz3.1]; exact q)
    have LM := PySem.W.exm_one (M := model X.prog X.w) (J3.kIn) LT hb1
    have test : ∀ {Q : Value → Shared → Prop} {E : Value → Shared → Prop}, Q c { s' with heap := h3 } → wpAny (model X.prog X.w) (X.A.mark (some (.ref a))) (eval (.Name x np) X.env) Q E { s' with heap := h3 } := fun {Q E} q => by
      obtain ⟨hg, hdbg, hm | ⟨hm, hv, hnn⟩⟩ := hc
      · exact ld_glob (X := X.suite a ((a, oe3) :: (X.pn ++ pins))) S3 hg hm q hdbg
      · exact ld_blt (X := X.suite a ((a, oe3) :: (X.pn ++ pins))) S3 hg hm hv q hnn hdbg
    refine test (LM.here ?_)
    cases b with
    | true =>
      refine codeAny_handlers_suite_as ?_
      refine HandSPX.lands_againZ fl3 fun h4 fl4 up4 => ?_
      have J4 : Inv X pins σ' H' { s' with heap := h4 } := J.landed nb fl4.1 ((up.trans up3).trans up4) os ag
      obtain ⟨oe4, vs4, he4, hz4, hd4⟩ := fl4.there
      have J5 : Inv X pins σ' (upd H' a (ExT cls d a)) { s' with heap := h4 } := track J4 na nL (fun p hp => old _ _ (J.pin p hp).1)
        (fun y c' e z => by
          obtain ⟨v, q⟩ := J.cell y c' e
          obtain ⟨o, q1, _⟩ := q
          exact old _ _ q1 z)
        (fun b u e hx => by
          obtain ⟨o', e'⟩ := J.base.there b u e hx
          exact old _ _ e') (exT_ok he4 hz4 hd4)
      refine store_ok (X := X.suite a (X.pn ++ pins)) (v := .ref a) (toSuite J5 a) hN hi hloc rfl (fun s5 S5 => ?_) (.inr hln)
      refine wpAny_mono ((hsu a cls d (X.pn ++ pins)).run [] s5 _ _ _ S5 (hyes rfl a na)) (fun f s6 hsp => ?_) (fun _ _ z => False.elim z)
      have end_ : ∀ {σ6 : L2.St} {H6 : Hp} {Q : Shared → Prop}, Inv (X.suite a (X.pn ++ pins)) [] σ6 H6 s6 → (∀ s7, Inv X pins (σ6.set i none) H6 s7 → Q s7) →
          wpAny (model X.prog X.w) X.A (do bindName X.env n .none; unbindBehindTheSuite X.env n pos') (fun _ s7 => Q s7) X.xe s6 := fun {σ6 H6 Q} S6 hq => gone_ok (fromSuite S6 ok) hN hi hln hq
      cases f with
      | next =>
        obtain ⟨σ6, H6, S6, q6⟩ := hsp
        exact end_ S6 fun s7 J7 => ⟨_, _, J7, q6⟩
      | brk =>
        obtain ⟨σ6, H6, S6, q6⟩ := hsp
        exact end_ S6 fun s7 J7 => ⟨_, _, J7, q6⟩
      | cont =>
        obtain ⟨σ6, H6, S6, q6⟩ := hsp
        exact end_ S6 fun s7 J7 => ⟨_, _, J7, q6⟩
      | ret u =>
        obtain ⟨v6, σ6, H6, S6, r6, q6⟩ := hsp
        exact end_ S6 fun s7 J7 => ⟨_, _, _, J7, r6, q6⟩
    | false =>
      show wpAny _ X.A (handleBy (.ref a) X.env []) _ _ _
      refine wpAny_handleBy_nil ?_
      obtain ⟨k1, k2, k3, oe, vs, T, oT, ts', he, hz, hd, h1, hr⟩ := id fl3
      unfold PySem.passOn
      refine wpAny_bind (wpAny_field he hd h1 ?_)
      rw [if_neg (show ¬ ((Value.ref T == Value.none) = true) from by simp)]
      have fin : wpAny (model X.prog X.w) X.A (setFlight (.ref a) X.env.frame) (fun _ s4 => wpAny (model X.prog X.w) X.A (throw (.ref a) : Sem Flow) (SP X pins D) X.xe s4) X.xe { s' with heap := h3 } := by
        rw [hf]
        refine HandSPX.setFlight_upZ fl3 fun h4 hh4 up4 => wpAny_throw (tk _ _ ?_)
        exact ⟨a, B, sI, pins, σ', H', cls, d, rfl, J, nb, (up.trans up3).trans up4, .inr (.inr (by rw [hs]; exact hh4)), na, os, ag, hno rfl⟩
      first
        | exact wpAny_bind (wpAny_pure (wpAny_bind fin))
        | exact wpAny_bind fin
  · cases f with
    | next =>
      obtain ⟨σ', H', J', q⟩ := hsp
      exact wpAny_execs_nil ⟨σ', H', J'.ofTry ok, q⟩
    | brk =>
      obtain ⟨σ', H', J', q⟩ := hsp
      exact ⟨σ', H', J'.ofTry ok, q⟩
    | cont =>
      obtain ⟨σ', H', J', q⟩ := hsp
      exact ⟨σ', H', J'.ofTry ok, q⟩
    | ret u =>
      obtain ⟨v, σ', H', J', r, q⟩ := hsp
      exact ⟨v, σ', H', J'.ofTry ok, r, q⟩
end
/-! ### its field, isinstance -/
section
variable {X : Cx}
/-- e.f, e a tracked exception of the class at C -/
def tXt (C : Addr) (f : Str) (te : TE) : TE := fun σ H Q => te σ H fun x H1 => ∃ (a dd : Addr) (fs : List (Str × V)) (v : V), x = .ref a ∧ H1 a = some (ExT (.ref C) (some dd) a) ∧ H1 dd = some (.xd fs) ∧ fs.lookup f = some v ∧ Q v H1
theorem inst_exT {H : Hp} {s : Shared} {a C dd : Addr} {fs : List (Str × V)} (hok : HOk X.prog X.w H s.heap) (he : H a = some (ExT (.ref C) (some dd) a)) (ed : H dd = some (.xd fs)) :
    ∃ (oe : Obj) (od : Obj) (mA : Str → Option Value), PySem.W.InstAt s.heap a oe C (some od) ∧ (∀ f, RelO (fs.lookup f) (mA f)) ∧ ∀ f, PySem.W.lookIn f od = some (mA f) := by
  obtain ⟨oe, vs, ha, hz, hd⟩ := exT_at hok he
  have hx : ObjOk X.prog X.w H s.heap dd (.xd fs) := hok dd _ ed
  obtain ⟨mA, hns, hr⟩ := hx
  obtain ⟨od, ho, hl⟩ := lookIn_ns hns
  exact ⟨oe, od, mA, ⟨ha, hz.1, by unfold PySem.W.notCls; rw [hd] <;> rfl, by rw [hz.2]; exact ho⟩, hr, hl⟩
theorem pe_xt {C : Addr} {e : Expr} {te : TE} {pos : Pos} {n : Str} (T : XfC X.K C) (hno : PySem.W.findIn X.K (.ref C) n = some none) (he : PE X e te) (hb : attributeBase e n X.env (eval e X.env) = eval e X.env := by rfl) :
    PE X (.Attribute e n pos) (tXt C n te) := by
  refine ⟨fun pins s σ H Q I h => ?_⟩
  refine attr_of hb (thn (he.run pins s σ H _ I h) fun u s1 hh => ?_)
  obtain ⟨x, H1, I1, rx, a, dd, fs, v, ex, ea, ed, l, q⟩ := hh
  subst ex
  obtain rfl : u = Value.ref a := rx
  obtain ⟨oe, od, mA, J, hr, hl⟩ := inst_exT I1.hok ea ed
  obtain ⟨u, hu, ru⟩ := RelO.some_of (v := v) (o := mA n) (by rw [← l]; exact hr n)
  exact HandSPX.exc_get I1.kIn J T.ga T.gg T.exC (PySem.W.findObj_own T.hdC hno rfl (by rw [hl, hu])) (handed_of ru) ⟨v, H1, I1.tok _, ru, q⟩
/-- what isinstance asks of the class -/
structure ExcK (K : PySem.W.Frag) (D : Addr) : Prop where
  cl : (PySem.W.clsIn K D).isSome = true
  hg : PySem.W.findIn K (.ref D) "__getattribute__" = some (some (.builtin "BaseException.__getattribute__"))
  hk : PySem.W.findIn K (.ref D) "__getattr__" = some none
  hs : PySem.W.subIn K (.ref D) (.type "BaseException") = some true
  ha : PySem.W.findIn K (.ref D) "__class__" = some (some (.builtin "object.__class__"))
  hn : PySem.W.specialIn K (.builtin "object.__class__") "__get__" = some (some (.builtin "getset_descriptor.__get__"))
  ht : PySem.W.takesIn K (.builtin "object.__class__") = some true
  hm : PySem.W.mroIn K D (.type "object") = some true
/-- isinstance(e, c), e a tracked exception -/
def rIsX (K : PySem.W.Frag) : List V → Hp → VK → Prop := fun xs H Q => ∃ (a D dd : Addr) (fs : List (Str × V)) (c : V) (cv : Value) (b : Bool), xs = [.ref a, c] ∧ H a = some (ExT (.ref D) (some dd) a) ∧ H dd = some (.xd fs) ∧ ExcK K D ∧ ClsV c cv ∧ PySem.W.kitOne K (.ref D) cv = some b ∧ Q (.bl b) H
theorem call_isX (K : PySem.W.Frag) (hK : X.K = K := by rfl) : CallR X (.builtin "isinstance") (rIsX K) := by
  subst hK
  intro pins s σ H xs us Q I r h
  obtain ⟨a, D, dd, fs, c, cv, b, rfl, ea, ed, C, hcv, e, q⟩ := h
  obtain ⟨u1, u2, rfl, r1, r2⟩ := vals2 r
  obtain rfl : u1 = Value.ref a := r1
  have ec := hcv.eq r2
  subst ec
  obtain ⟨oe, od, mA, J, _, _⟩ := inst_exT I.hok ea ed
  exact PySem.W.kia_one (PySem.W.kitx_exc C.cl C.hg C.hk C.hs C.ha C.hn C.ht C.hm) I.kIn J e (fun z => nomatch z) fun tk => ⟨.bl b, H, I.kept (t' := tk) fun _ _ z => z, rfl, q⟩
end
/-! ### a classmethod that may raise -/
section
variable {X : Cx} {CX : CXT} {k : Nat} {C p g : Addr} {mc : Value} {sp : Sp} {E : L2.St → XK} {o e : Expr} {es : List Expr} {m : Str} {pos apos : Pos} {ta : TE} {t : TA} {pl : Sem Bool} {pins : List (Addr × Obj)} {σ : L2.St} {H : Hp} {s : Shared}
theorem run_fnRS {f : Addr} {Q : VK} {us : List Value} {vs : List V} (F : FnR X.prog X.w X.K X.mg X.base CX k f sp) (hr : Room k X.A) (hx : PassesAt CX X σ (E σ)) (I : Inv X pins σ H s) (r : Vals vs us) (h : sp vs H Q (E σ)) :
    codeAny (model X.prog X.w) X.A (.call (.ref f) ⟨us, []⟩) (fun r s' => match r with | .ok (.ret v) => EP X pins σ Q v s' | .ok _ => False | .error e => X.xe e s') s := by
  refine codeAny_mono (F X.A X.stack s H us vs Q (E σ) hr I.env0 r h) fun r s' hq => ?_
  cases r with
  | error e => exact hx pins H s e s' I hq
  | ok fl =>
    cases fl with
    | ret u => exact I.after hq
    | next => exact False.elim hq
    | brk => exact False.elim hq
    | cont => exact False.elim hq
def tCMethS (C : Addr) (sp : Sp) (E : L2.St → XK) (ta : TE) (t : TA) : TE := fun σ H Q => ta σ H fun x H1 => x = .ref C ∧ t σ H1 fun vs H2 => sp (.ref C :: vs) H2 Q (E σ)
theorem pe_cmethS (he : PE X o ta) (r : ClX.CRead X.K C mc) (c : ClX.CMet X.K C mc m p g) (F : FnR X.prog X.w X.K X.mg X.base CX k g sp) (hr : Room k X.A) (hx : ∀ σ, PassesAt CX X σ (E σ)) (ha : PA X (e :: es) t)
    (hst : starEach (e :: es) X.env = (false, eval e X.env) :: starEach es X.env := by rfl) (hpl : (backTo pos (starEach es X.env)).any (·.1) = false := by rfl)
    (ht : eval (.Call (.Attribute o m apos) (e :: es) [] pos) X.env = (do
      let ov ← eval o X.env
      standAt apos.atName
      let (f, first) ← holding [ov] (getMethod ov m pl)
      callWith pos f first (backTo pos (starEach (e :: es) X.env)) (backToKw pos (keywordEach [] X.env))) := by rfl) :
    PE X (.Call (.Attribute o m apos) (e :: es) [] pos) (tCMethS C sp E ta t) := by
  refine ⟨fun pins s σ H Q I h => ?_⟩
  refine PySem.W.methodCall_KW (pl := pl) (thn (he.run pins s σ H _ I h) fun u s1 ⟨x, H1, I1, rx, ex, q⟩ => ?_) ht
  subst ex
  obtain rfl : u = Value.ref C := rx
  refine ClX.getmethcm_ok I1 r c fun s2 I2 => ?_
  refine ClX.callwith_cm I2 (ClX.base_none I1 (Nat.le_refl _)) c.fi (thn (ha.run pos _ s2 σ H1 _ I2 q) fun us s3 ⟨vs, H2, I3, rv, q2⟩ => ⟨⟨ClX.pin_at I3, I3.kIn⟩, ?_⟩) hst hpl
  have z : wpAny (model X.prog X.w) X.A (call (.ref s1.heap.objs.size) us) (EP X ((s1.heap.objs.size, PySem.W.methodObj (.ref g) (.ref C)) :: pins) σ Q) X.xe s3 :=
    wpAny_call (PySem.W.method_call (ClX.pin_at I3) (run_fnRS (us := .ref C :: us) (vs := .ref C :: vs) F hr (hx σ) I3 (.cons rfl rv) q2))
  exact thn z fun _ _ y => ClX.unpinE y
end
theorem kit_ve {K : PySem.W.Frag} {C : Addr} (h : PySem.W.subIn K (.ref C) (.type "ValueError") = some true) : PySem.W.kitOne K (.ref C) (.type "ValueError") = some true := by
  unfold PySem.W.kitOne
  split
  · rfl
  · unfold PySem.W.kitCls
    dsimp only
    rw [if_pos (show PySem.W.kitMeta "ValueError" = true by decide +kernel)]
    exact h
/-- the __init__ of an own exception class: its one field -/
def spXI (C : Addr) (f : Str) : Sp := fun vs H Q _ => ∃ (a : Addr) (v : V), vs = [.ref a, v] ∧ H a = some (exo a C none) ∧ ∀ dx, H dx = none → dx ≠ a → Q .non (upd (upd H dx (exd dx [(f, v)])) a (exo a C (some dx)))
/-- the heap behind a made exception -/
theorem same_exc {H : Hp} {a dx : Addr} {u1 u2 u3 u4 : HO} (na : H a = none) (nd : H dx = none) : Same H (upd (del (upd (upd (upd H a u1) dx u2) a u3) a) dx u4) := fun b u e => by
  have n1 : b ≠ a := ne_of_none e na
  have n2 : b ≠ dx := ne_of_none e nd
  rw [upd_ne n2, del_ne n1, upd_ne n1, upd_ne n2, upd_ne n1]
  exact e
end Ly

set_option maxRecDepth 100000
set_option maxHeartbeats 4000000
namespace K02
open PySem L2 Ly
local macro_rules | `(tactic| walk_at "nx") => `(tactic| dsimp only [tNext])
def top (i : Nat) : Stmt := PySem.Challenge.pw_stepblocks_k02_texts_that_are_no_primiti.main.body.getD i (.Pass ⟨0, 0, 0, 0⟩)
abbrev s_wall : Stmt := top 0
abbrev s_InvalidText_init : Stmt := inClass (top 3) 0
abbrev s_number_of : Stmt := top 8
abbrev s_is_primitive_text : Stmt := top 9
abbrev s_Block_init : Stmt := inClass (top 10) 0
abbrev s_Primitive_init : Stmt := inClass (top 11) 0
abbrev s_Primitive_parse : Stmt := inClass (top 11) 1
abbrev s_Primitive_str : Stmt := inClass (top 11) 2
abbrev s_Primitive_interface : Stmt := inClass (top 11) 3
abbrev s_Primitive_compute : Stmt := inClass (top 11) 4
abbrev s_law_feed : Stmt := top 13
abbrev s_law_take : Stmt := top 14
abbrev s_law_pick : Stmt := top 15
abbrev s_law_is_number : Stmt := top 16
abbrev s_law_is_primitive : Stmt := top 17
abbrev s_law_told : Stmt := top 18
abbrev s_law_changed : Stmt := top 19
abbrev s_law : Stmt := top 20
structure Adr where
  t_MODULUS : Tok
  t_DIGITS : Tok
  f_law_feed : Addr
  f_law_take : Addr
  f_law_pick : Addr
  f_law_is_number : Addr
  f_law_is_primitive : Addr
  f_law_told : Addr
  f_law_changed : Addr
  f_law : Addr
  f_is_primitive_text : Addr
  f_number_of : Addr
  d_PORTS : Addr
  es_PORTS : Array DictEntry
  en_PORTS : Nat
  C_Primitive : Addr
  f_Block_init : Addr
  f_Primitive_init : Addr
  f_Primitive_str : Addr
  p_Primitive_parse : Addr
  f_Primitive_parse : Addr
  C_InvalidText : Addr
  C_BlockError : Addr
  f_InvalidText_init : Addr
structure Txt (K : PySem.W.Frag) (w : World) (mg : Str → Option Value) (ad : Adr) : Prop where
  n_len : mg "len" = none
  n_abs : mg "abs" = none
  n_max : mg "max" = none
  n_min : mg "min" = none
  n_range : mg "range" = none
  n_isinstance : mg "isinstance" = none
  n_int : mg "int" = none
  n_str : mg "str" = none
  n_tuple : mg "tuple" = none
  n_all : mg "all" = none
  n_repr : mg "repr" = none
  n_ValueError : mg "ValueError" = none
  g_MODULUS : mg "MODULUS" = some (.int 4294967296 ad.t_MODULUS)
  g_DIGITS : mg "DIGITS" = some (.str "0123456789" ad.t_DIGITS)
  g__law_feed : mg "_law_feed" = some (.ref ad.f_law_feed)
  k__law_feed : PySem.W.keepIn K (.ref ad.f_law_feed) = true
  g__law_take : mg "_law_take" = some (.ref ad.f_law_take)
  k__law_take : PySem.W.keepIn K (.ref ad.f_law_take) = true
  g__law_pick : mg "_law_pick" = some (.ref ad.f_law_pick)
  k__law_pick : PySem.W.keepIn K (.ref ad.f_law_pick) = true
  g__law_is_number : mg "_law_is_number" = some (.ref ad.f_law_is_number)
  k__law_is_number : PySem.W.keepIn K (.ref ad.f_law_is_number) = true
  g__law_is_primitive : mg "_law_is_primitive" = some (.ref ad.f_law_is_primitive)
  k__law_is_primitive : PySem.W.keepIn K (.ref ad.f_law_is_primitive) = true
  g__law_told : mg "_law_told" = some (.ref ad.f_law_told)
  k__law_told : PySem.W.keepIn K (.ref ad.f_law_told) = true
  g__law_changed : mg "_law_changed" = some (.ref ad.f_law_changed)
  k__law_changed : PySem.W.keepIn K (.ref ad.f_law_changed) = true
  g_law : mg "law" = some (.ref ad.f_law)
  k_law : PySem.W.keepIn K (.ref ad.f_law) = true
  g_is_primitive_text : mg "is_primitive_text" = some (.ref ad.f_is_primitive_text)
  k_is_primitive_text : PySem.W.keepIn K (.ref ad.f_is_primitive_text) = true
  g_number_of : mg "number_of" = some (.ref ad.f_number_of)
  k_number_of : PySem.W.keepIn K (.ref ad.f_number_of) = true
  g_PORTS : mg "PORTS" = some (.ref ad.d_PORTS)
  d_PORTS : KDict K w ad.d_PORTS ad.es_PORTS ad.en_PORTS
  ports : ∀ n ins outs, (n, ins, outs) ∈ portsTab → PortsOf K w ad.d_PORTS n ins outs
  keys : ∃ ts : List Tok, ts.length = portsTab.length ∧ ad.es_PORTS.toList.map (·.key) = (portsTab.zip ts).map fun p => .str p.1.1 p.2
  g_Primitive : mg "Primitive" = some (.ref ad.C_Primitive)
  cl_Primitive : Cls K ad.C_Primitive
  na_Primitive_name : NoAttr K ad.C_Primitive "name"
  na_Primitive_inputs : NoAttr K ad.C_Primitive "inputs"
  na_Primitive_outputs : NoAttr K ad.C_Primitive "outputs"
  na_Primitive_constant : NoAttr K ad.C_Primitive "constant"
  na_Primitive_text : NoAttr K ad.C_Primitive "text"
  mk_Primitive : Mk K ad.C_Primitive ad.f_Primitive_init
  m_Primitive_str : Meth K ad.C_Primitive "__str__" ad.f_Primitive_str
  cr_Primitive : ClX.CRead K ad.C_Primitive (.type "type")
  cm_Primitive_parse : ClX.CMet K ad.C_Primitive (.type "type") "parse" ad.p_Primitive_parse ad.f_Primitive_parse
  g_BlockError : mg "BlockError" = some (.ref ad.C_BlockError)
  g_InvalidText : mg "InvalidText" = some (.ref ad.C_InvalidText)
  oex_InvalidText : OexC K ad.C_InvalidText
  in_InvalidText : PySem.W.findIn K (.ref ad.C_InvalidText) "__init__" = some (some (.ref ad.f_InvalidText_init))
  tf_InvalidText : PySem.W.typeIn K (.ref ad.f_InvalidText_init) = some (.type "function")
  xf_InvalidText : XfC K ad.C_InvalidText
  ek_InvalidText : ExcK K ad.C_InvalidText
  kv_InvalidText : PySem.W.kitOne K (.ref ad.C_InvalidText) (.type "ValueError") = some true
  kb_InvalidText : PySem.W.kitOne K (.ref ad.C_InvalidText) (.ref ad.C_BlockError) = some true
  em_InvalidText : PySem.W.exmOne K (.ref ad.C_InvalidText) (.ref ad.C_BlockError) = some true
  no_InvalidText_row : PySem.W.findIn K (.ref ad.C_InvalidText) "row" = some none
section
variable {P : Program} {w : World} {K : PySem.W.Frag} {mg : Str → Option Value} {base : Heap} {ad : Adr}
theorem sc_law_feed : FnScope ["script", "k", "cell", "digits", "state"] ["script", "k"] (defScope s_law_feed) := ⟨rfl, rfl, rfl, by decide +kernel, rfl, by decide +kernel, by decide +kernel⟩
theorem ok_feed {f : Addr} {fd : FuncData} (F : Fun K "_law_feed" "_law_feed" s_law_feed f fd) (T : Txt K w mg ad) : FnOk P w K mg base CX0 1 f fd ["script", "k"] (spFeed K) := by
  refine F.ok sc_law_feed (fun vs H Q E h => ?_) (fun cdv A outer s H vs Q E hr h => ?_)
  · obtain ⟨s, ns, k, rfl, _⟩ := h
    rfl
  · obtain ⟨sa, ns, k, rfl, hS, hk, q⟩ := h
    refine ⟨_, (pss_cons (ps_set (i := 2) sc_law_feed.nd rfl (Or.inl rfl) (pe_ifExp (pt_cmpR op_lt (pv 1) (pe_callB (call_lenK K) (by rfl) T.n_len (by decide +kernel) (pa_cons (pv 0) pa_nil)) (nomark _)) (pe_ix (ix_listK K) (pv 0) (pv 1) (fun _ _ => rfl)) (pe_op op_add (pe_op op_mul pe_int (pv 1)) pe_int)))
    (pss_cons (ps_set (i := 3) sc_law_feed.nd rfl (Or.inl rfl) (pe_callB (call_max2 rfl) (by rfl) T.n_max (by decide +kernel) (pa_cons pe_int (pa_cons (pe_op op_sub (pe_callB call_abs (by rfl) T.n_abs (by decide +kernel) (pa_cons (pv 2) pa_nil)) (pe_op op_pow pe_int pe_int)) pa_nil))))
    (pss_cons (ps_set (i := 4) sc_law_feed.nd rfl (Or.inl rfl) (pe_op op_mod (pe_op op_add (pe_op op_add (pe_op op_mul (pv 2) pe_int) (pe_op op_mul pe_int (pv 1))) pe_int) pe_int))
    (pss_one (ps_ret (pe_lst (pa_cons (pv 3) (pa_cons (pv 4) pa_nil)))))))), ?_⟩
    refine asg (fun v H1 => H1 = H ∧ ∃ c : Int, v = .int c) (fun Q' h' => ?_) ?_
    · refine ⟨_, rfl, _, rfl, sa, _, rfl, .inl hS, _, _, rfl, rfl, _, rfl, ite2 (fun hc => ?_) (fun hc => ?_)⟩
      · have hlt : k < ns.length := by simpa using hc
        exact ⟨_, rfl, _, rfl, sa, _, _, _, rfl, rfl, hS, atI_nat (by rw [List.getElem?_map, List.getElem?_eq_getElem hlt]; rfl), h' _ _ ⟨rfl, _, rfl⟩⟩
      · exact ⟨_, rfl, _, _, rfl, rfl, .inl (by omega), _, _, rfl, rfl, h' _ _ ⟨rfl, _, rfl⟩⟩
    rintro _ _ ⟨rfl, c, rfl⟩
    refine ⟨_, rfl, _, rfl, _, _, rfl, rfl, ⟨by omega, by omega, by decide⟩, _, _, rfl, rfl, _, _, rfl, ?_⟩
    refine ⟨_, rfl, _, _, rfl, rfl, .inr (by omega), _, rfl, _, _, rfl, rfl, .inl (by omega), _, _, rfl, rfl, _, _, rfl, rfl, _, _, rfl, rfl, (by decide : (0 : Int) < 2305843009213693951), ?_⟩
    refine ⟨_, rfl, _, rfl, szl (show 2 ≤ 100000 by decide), fun p hp => q p _ _ hp ⟨upd_same, ?_, ?_, ?_⟩⟩
    · split <;> omega
    · omega
    · omega
theorem sc_law_take : FnScope ["feed", "many", "digit"] ["feed", "many"] (defScope s_law_take) := ⟨rfl, rfl, rfl, by decide +kernel, rfl, by decide +kernel, by decide +kernel⟩
theorem ok_take {f : Addr} {fd : FuncData} (F : Fun K "_law_take" "_law_take" s_law_take f fd) : FnOk P w K mg base CX0 1 f fd ["feed", "many"] spTake := by
  refine F.ok sc_law_take (fun vs H Q E h => ?_) (fun cdv A outer s H vs Q E hr h => ?_)
  · obtain ⟨p, many, a, b, rfl, _⟩ := h
    rfl
  · obtain ⟨p, many, a, b, rfl, ⟨hf, ha, hb, hb2⟩, hm, hm2, q⟩ := h
    refine ⟨_, (pss_cons (ps_if (pt_cmpR op_gt (pe_ix (ix_listK K) (pv 0) pe_int (fun _ _ => rfl)) pe_int (nomark _)) (pss_cons (ps_set (i := 2) sc_law_take.nd rfl (Or.inl rfl) (pe_op op_mod (pe_ix (ix_listK K) (pv 0) pe_int (fun _ _ => rfl)) (pv 1)))
    (pss_cons (ps_asg (pe_op op_fdivW (pe_ix (ix_listK K) (pv 0) pe_int (fun _ _ => rfl)) (pv 1)) (pg_sub (pv 0) pe_int set_list))
    (pss_one (ps_ret (pv 2))))) pss_nil)
    (pss_cons (ps_asg (pe_op op_mod (pe_op op_add (pe_op op_mul (pe_ix (ix_listK K) (pv 0) pe_int (fun _ _ => rfl)) pe_int) pe_int) pe_int) (pg_sub (pv 0) pe_int set_list))
    (pss_one (ps_ret (pe_op op_mod (pe_op op_fdivW (pe_ix (ix_listK K) (pv 0) pe_int (fun _ _ => rfl)) pe_int) (pv 1)))))), ?_⟩
    have i0 : atI [V.int a, V.int b] (0 : Int) = some (V.int a) := atI_nat (j := 0) rfl
    have i1 : atI [V.int a, V.int b] (1 : Int) = some (V.int b) := atI_nat (j := 1) rfl
    have hdiv : CDivW a many := wide_div (b := 41) hm (by omega) (by decide) (by decide)
    refine ⟨_, rfl, p, _, _, _, rfl, rfl, SqL.of hf, i0, _, _, rfl, rfl, _, rfl, ite2 (fun hc => ?_) (fun hc => ?_)⟩
    · refine ⟨_, rfl, p, _, _, _, rfl, rfl, SqL.of hf, i0, _, rfl, _, _, rfl, rfl, hm, ?_⟩
      refine ⟨_, rfl, p, _, _, _, rfl, rfl, SqL.of hf, i0, _, rfl, _, _, rfl, rfl, hdiv, ?_⟩
      refine ⟨_, rfl, p, _, _, 0, rfl, rfl, hf, rfl, ?_⟩
      refine ⟨_, rfl, q _ _ _ (Int.emod_nonneg _ (by omega)) (Int.emod_lt_of_pos _ hm) ⟨upd_same, Int.ediv_nonneg ha (by omega), hb, hb2⟩⟩
    · refine ⟨_, rfl, p, _, _, _, rfl, rfl, SqL.of hf, i1, _, _, rfl, rfl, .inr (by omega), _, _, rfl, rfl, _, _, rfl, rfl, (by decide : (0 : Int) < 2305843009213693951), ?_⟩
      refine ⟨_, rfl, p, _, _, 1, rfl, rfl, hf, rfl, ?_⟩
      refine ⟨_, rfl, p, _, _, _, rfl, rfl, SqL.of upd_same, atI_nat (j := 1) rfl, _, _, rfl, rfl, ⟨by decide, by decide⟩, _, rfl, _, _, rfl, rfl, hm, ?_⟩
      refine q _ _ _ (Int.emod_nonneg _ (by omega)) (Int.emod_lt_of_pos _ hm) ⟨upd_same, ha, ?_, ?_⟩ <;> omega

theorem sc_law_pick : FnScope ["feed", "some"] ["feed", "some"] (defScope s_law_pick) := ⟨rfl, rfl, rfl, by decide +kernel, rfl, by decide +kernel, by decide +kernel⟩
theorem ok_pick2 {f : Addr} {fd fdt : FuncData} (F : Fun K "_law_pick" "_law_pick" s_law_pick f fd) (T : Txt K w mg ad) (G_law_take : FnOk P w K mg base CX0 1 ad.f_law_take fdt ["feed", "many"] spTake) (b_law_take : Binds K fdt ["feed", "many"] []) : FnOk P w K mg base CX0 2 f fd ["feed", "some"] (spPick2 K) := by
  refine F.ok sc_law_pick (fun vs H Q E h => ?_) (fun cdv A outer s H vs Q E hr h => ?_)
  · rcases h with ⟨p, q, xs, a, b, rfl, _⟩ | ⟨p, z, a, b, rfl, _⟩
    · rfl
    · rfl
  · rcases h with ⟨p, q, xs, a, b, rfl, hf, hS, ne, h0, h1, k⟩ | ⟨p, z, a, b, rfl, hf, hz, h0, k⟩
    · refine ⟨_, (pss_one (ps_ret (pe_ix (ix_listK K) (pv 1) (pe_call G_law_take (hr.mono (by decide)) rfl T.g__law_take T.k__law_take b_law_take .nil pass0 (pa_cons (pv 0) (pa_cons (pe_callB (call_lenK K) (by rfl) T.n_len (by decide +kernel) (pa_cons (pv 1) pa_nil)) pa_nil))) (fun _ _ => rfl)))), ?_⟩
      refine ⟨_, rfl, _, rfl, _, rfl, q, xs, rfl, .inl hS, p, _, a, b, rfl, hf, by omega, by omega, fun d a' b' hd0 hd1 hf' => ?_⟩
      have hlt : d.toNat < xs.length := by omega
      have e : d = ((d.toNat : Nat) : Int) := by omega
      refine ⟨q, xs, _, xs[d.toNat], rfl, rfl, sql_upd hS ne, at_of e (List.getElem?_eq_getElem hlt), k _ a' b' (List.getElem_mem hlt) hf'⟩
    · refine ⟨_, (pss_one (ps_ret (pe_ix ix_str (pv 1) (pe_call G_law_take (hr.mono (by decide)) rfl T.g__law_take T.k__law_take b_law_take .nil pass0 (pa_cons (pv 0) (pa_cons (pe_callB call_len_str (by rfl) T.n_len (by decide +kernel) (pa_cons (pv 1) pa_nil)) pa_nil))) (fun _ _ => rfl)))), ?_⟩
      have hl := hz.ln
      have hzl : z.length ≤ sizeLine := szl (by omega)
      refine ⟨_, rfl, _, rfl, _, rfl, z, rfl, hzl, p, _, a, b, rfl, hf, by omega, by omega, fun d a' b' hd0 hd1 hf' => ?_⟩
      have el : z.length = z.cps.toList.length := str_len_list z
      have hlt : d.toNat < z.cps.toList.length := by omega
      have e : d = ((d.toNat : Nat) : Int) := by omega
      refine ⟨z, d, z.cps.toList[d.toNat], rfl, rfl, hzl, (by have q := atI_nat (j := d.toNat) (List.getElem?_eq_getElem hlt); rwa [← e] at q), ?_⟩
      refine k _ a' b' ⟨Nat.le_refl 1, ?_⟩ hf'
      have := of_decide_eq_true (List.all_eq_true.mp hz.sg _ (List.getElem_mem hlt))
      show (decide (z.cps.toList[d.toNat] < 1114112) && true) = true
      rw [decide_eq_true this]
      rfl

/-! ### number_of -/
theorem sc_number_of : FnScope ["word", "digit"] ["word"] (defScope s_number_of) := ⟨rfl, rfl, rfl, by decide +kernel, rfl, by decide +kernel, by decide +kernel⟩
theorem ok_num {f : Addr} {fd : FuncData} (F : Fun K "number_of" "number_of" s_number_of f fd) (T : Txt K w mg ad) : FnOk P w K mg base CX0 2 f fd ["word"] spNum := by
  refine F.ok sc_number_of (fun vs H Q E h => ?_) (fun cdv A outer s H vs Q E hr h => ?_)
  · obtain ⟨z, rfl, _⟩ := h
    rfl
  · obtain ⟨z, rfl, hz, k⟩ := h
    refine ⟨_, (pss_cons (ps_if (PW.pt (pw_or (pt_not (pt_chain op_le op_le pe_int (pe_callB call_len_str (by rfl) T.n_len (by decide +kernel) (pa_cons (pv 0) pa_nil)) pe_int)) (pw_or1 (pt_not (pt_val (pe_callB (cr_all rfl) (by rfl) T.n_all (by decide +kernel) (pa_cons (pe_lc (own := [("digit", 1)]) rfl sc_number_of.nd (pi_str (pv 0)) (blkOk_by (own := [("digit", 1)]) (N := ["word", "digit"]) (sc := defScope s_number_of) (by decide +kernel)) (fun _ _ _ _ _ => (pg_name (i := 1) sc_number_of.nd rfl (Or.inl rfl))) (fun _ _ _ _ _ => pts_nil) (fun _ _ _ _ _ => (pe_cmpR op_in_sign (pv 1) (pe_glob (v := .str "0123456789") rfl T.g_DIGITS ⟨_, rfl⟩) (by rfl)))) pa_nil))))))) (pss_one (ps_ret pe_non)) pss_nil)
    (pss_cons (ps_if (PW.pt (pw_and (pt_cmpR op_eq (pe_ix ix_str (pv 0) pe_int (fun _ _ => rfl)) pe_str (nomark _)) (pw_and1 (pt_cmpR op_gt (pe_callB call_len_str (by rfl) T.n_len (by decide +kernel) (pa_cons (pv 0) pa_nil)) pe_int (nomark _))))) (pss_one (ps_ret pe_non)) pss_nil)
    (pss_one (ps_ret (pe_ifExp (pt_cmpR op_lt (pe_callTy call_int_str (by rfl) T.n_int (by decide +kernel) (pa_cons (pv 0) pa_nil)) (pe_glob (v := .int 4294967296) rfl T.g_MODULUS ⟨_, rfl⟩) (nomark _)) (pe_callTy call_int_str (by rfl) T.n_int (by decide +kernel) (pa_cons (pv 0) pa_nil)) pe_non))))), ?_⟩
    have hzl : z.length ≤ sizeLine := Nat.le_trans hz (by decide)
    -- 1 <= len(word) <= 10
    have fail : numOk z = false → ∀ H', Same H H' → Q .non H' := fun h H' s => by
      have q := k H' s
      rw [numOf_none h] at q
      exact q
    refine ⟨_, rfl, z, rfl, hzl, _, _, rfl, rfl, _, rfl, ?_⟩
    by_cases c1 : (1 : Int) ≤ (z.length : Int)
    case neg =>
      rw [decide_eq_false c1]
      refine iteF ⟨_, rfl, iteT (iteT (fail ?_ _ (Same.refl H)))⟩
      unfold numOk
      rw [decide_eq_false (show ¬ 1 ≤ z.length by omega)]
      rfl
    rw [decide_eq_true c1]
    refine iteT ⟨_, _, rfl, rfl, _, rfl, ?_⟩
    by_cases c2 : (z.length : Int) ≤ 10
    case neg =>
      rw [decide_eq_false c2]
      refine iteT (iteT (fail ?_ _ (Same.refl H)))
      unfold numOk
      rw [decide_eq_false (show ¬ z.length ≤ 10 by omega)]
      simp
    rw [decide_eq_true c2]
    refine iteF ?_
    -- all([digit in DIGITS for digit in word])
    refine ⟨_, rfl, z, rfl, fun D hD => lc_it walk_str (fun i H' => Same H H' ∧ H' D = some (.lst ((z.cps.toList.take i).map fun c => V.bl (isDig c)))) ⟨same_new hD, upd_same⟩ (fun _ _ _ _ => True.intro) ?_ ?_⟩
    · rintro i x H1 H2 hi ⟨s1, h1⟩ ⟨rfl, c, hc, rfl⟩
      refine ⟨rfl, ?_⟩
      dsimp only [tYes]
      refine iteT ?_
      refine ⟨_, rfl, c, "0123456789", rfl, rfl, _, h1, szt ?_, same_mut s1 hD, ?_⟩
      · rw [List.length_map, List.length_take]
        have e : z.cps.size = z.length := rfl
        omega
      · rw [upd_same, dig_in]
        have e : z.cps.toList[i]? = some c := by simpa using hc
        rw [List.take_add_one, e]
        simp
    rintro H1 ⟨s1, h1⟩
    have hfull : (z.cps.toList.take z.cps.size) = z.cps.toList := by rw [show z.cps.size = z.cps.toList.length by simp, List.take_length]
    rw [hfull] at h1
    refine ⟨D, z.cps.toList.map isDig, rfl, SqL.of (by rw [h1, List.map_map]; rfl), _, rfl, ?_⟩
    have hid : (z.cps.toList.map isDig).all id = z.cps.toList.all isDig := by rw [List.all_map]; rfl
    rw [hid]
    cases c3 : z.cps.toList.all isDig with
    | false =>
      refine iteT (fail ?_ _ s1)
      unfold numOk
      rw [c3]
      simp
    | true =>
      refine iteF ?_
      walk_at "nx"
      have hn : 0 < z.cps.toList.length := by rw [← str_len_list]; omega
      have h0 : z.cps.toList.head? = some (z.cps.toList[0]) := by rw [List.head?_eq_getElem?, List.getElem?_eq_getElem hn]
      have hl10 : z.length ≤ 10 := by omega
      have hl1 : 1 ≤ z.length := by omega
      have hint := int_dig c3 hl1 hl10
      -- word[0] == "0" and len(word) > 1
      have rest : ∀ H2, Same H H2 → ¬ (z.cps.toList.head? = some 48 ∧ 1 < z.length) → tRet (tIf (tTest (tOp (rI0 fun i j => V.bl (decide (i < j))) (tCB (fun xs H Q => ∃ a n, xs = [V.str a] ∧ PySem.intText? a = some n ∧ a.length ≤ 640 ∧ Q (V.int n) H) (tCons (tVar 0) tNil)) (tC (V.int 4294967296))))
          (tCB (fun xs H Q => ∃ a n, xs = [V.str a] ∧ PySem.intText? a = some n ∧ a.length ≤ 640 ∧ Q (V.int n) H) (tCons (tVar 0) tNil)) (tC V.non)) { nx := fun _ H' => Q V.non H', rt := Q } [some (V.str z), none] H2 := by
        intro H2 s2 hz2
        have hzb : (!(decide (z.cps.toList.head? = some 48) && decide (1 < z.length))) = true := by
          rw [Bool.not_eq_true', Bool.and_eq_false_iff]
          by_cases q : z.cps.toList.head? = some 48
          · exact .inr (decide_eq_false fun q2 => hz2 ⟨q, q2⟩)
          · exact .inl (decide_eq_false q)
        refine ⟨_, rfl, z, numVal z, rfl, hint, Nat.le_trans hl10 (by decide), numVal z, 4294967296, rfl, rfl, ?_⟩
        refine ⟨decide (numVal z < 4294967296), rfl, ?_⟩
        generalize hb : decide (numVal z < 4294967296) = bb
        cases bb with
        | true =>
          refine iteT ⟨_, rfl, z, _, rfl, hint, Nat.le_trans hl10 (by decide), ?_⟩
          have e : numOk z = true := by
            unfold numOk
            rw [decide_eq_true hl1, decide_eq_true hl10, c3, hzb, hb]
            rfl
          have w := k H2 s2
          rw [numOf_some e] at w
          exact w
        | false =>
          refine iteF (fail ?_ _ s2)
          unfold numOk
          rw [hb]
          simp
      refine ⟨_, rfl, z, _, _, rfl, rfl, hzl, atI_nat (j := 0) (List.getElem?_eq_getElem hn), rfl, _, rfl, ite2 (fun q => ?_) (fun q => ?_)⟩
      · have e0 : z.cps.toList[0] = 48 := by
          have q1 : V.str ⟨#[z.cps.toList[0]]⟩ = V.str "0" := of_decide_eq_true q
          have q2 := congrArg (fun s : Str => s.cps.toList) (V.str.inj q1)
          have q3 : (("0" : Str)).cps.toList = [48] := by decide +kernel
          have q4 : [z.cps.toList[0]] = [48] := q2.trans q3
          exact List.head_eq_of_cons_eq q4
        refine ⟨_, rfl, z, rfl, hzl, _, _, rfl, rfl, _, rfl, ite2 (fun q2 => ?_) (fun q2 => ?_)⟩
        · refine fail ?_ _ s1
          unfold numOk
          have q2' : 1 < z.length := by
            have := of_decide_eq_true q2
            omega
          have e1 : z.cps.toList.head? = some 48 := by rw [h0]; exact congrArg some e0
          rw [decide_eq_true e1, decide_eq_true q2']
          simp
        · exact rest _ s1 fun ⟨_, z2⟩ => q2 (decide_eq_true (by omega))
      · refine rest _ s1 fun ⟨z1, _⟩ => q ?_
        rw [h0] at z1
        have e0 : z.cps.toList[0] = 48 := Option.some.inj z1
        have q3 : (("0" : Str)) = ⟨#[48]⟩ := by decide +kernel
        refine decide_eq_true ?_
        have q5 : (⟨#[z.cps.toList[0]]⟩ : Str) = "0" := by rw [q3]; exact congrArg (fun c => (⟨#[c]⟩ : Str)) e0
        exact congrArg V.str q5

/-! ### Block, Primitive -/
theorem sc_Block_init : FnScope ["self", "name", "inputs", "outputs"] ["self", "name", "inputs", "outputs"] (defScope s_Block_init) := ⟨rfl, rfl, rfl, by decide +kernel, rfl, by decide +kernel, by decide +kernel⟩
theorem ok_BI {f : Addr} {fd : FuncData} (F : Fun K "__init__" "Block.__init__" s_Block_init f fd) (T : Txt K w mg ad) : FnOk P w K mg base CX0 1 f fd ["self", "name", "inputs", "outputs"] (spBI K ad.C_Primitive) := by
  refine F.ok sc_Block_init (fun vs H Q E h => ?_) (fun cdv A outer s H vs Q E hr h => ?_)
  · obtain ⟨x, dx, i, o, n, xs, ys, rfl, _⟩ := h
    rfl
  · obtain ⟨x, dx, i, o, n, xs, ys, rfl, hx, hi, ho, k⟩ := h
    refine ⟨_, (pss_cons (ps_fldK K (pv 0) (pv 1) rfl)
    (pss_cons (ps_fldK K (pv 0) (pe_callTy (call_tupleK K) (by rfl) T.n_tuple (by decide +kernel) (pa_cons (pv 2) pa_nil)) rfl)
    (pss_one (ps_fldK K (pv 0) (pe_callTy (call_tupleK K) (by rfl) T.n_tuple (by decide +kernel) (pa_cons (pv 3) pa_nil)) rfl)))), ?_⟩
    have nt : ∀ (fs : List (Str × V)) (xs : List V), HO.ins ad.C_Primitive dx fs ≠ .tup xs := fun _ _ z => by cases z
    have nf : ∀ (fs : List (Str × V)) ob xs, HO.ins ad.C_Primitive dx fs ≠ .frz ob xs := fun _ _ _ z => by cases z
    refine ⟨_, rfl, _, rfl, x, _, dx, _, rfl, hx, T.cl_Primitive, T.na_Primitive_name, (by decide), ?_⟩
    rw [fsB_put1]
    have hx1 : upd H x (.ins ad.C_Primitive dx (fs1 n)) x = some (.ins ad.C_Primitive dx (fs1 n)) := upd_same
    have hi1 := sqt_upd (u := .ins ad.C_Primitive dx (fs1 n)) hi hx (nt _) (nf _)
    have ho1 := sqt_upd (u := .ins ad.C_Primitive dx (fs1 n)) ho hx (nt _) (nf _)
    refine ⟨_, rfl, _, _, rfl, .inr ⟨hi1, _, rfl, x, _, dx, _, rfl, hx1, T.cl_Primitive, T.na_Primitive_inputs, (by show 1 < 1000; decide), ?_⟩⟩
    rw [fsB_put2, upd_upd]
    have ho2 := sqt_upd (u := .ins ad.C_Primitive dx (fs2 n i)) ho hx (nt _) (nf _)
    refine ⟨_, rfl, _, _, rfl, .inr ⟨ho2, _, rfl, x, _, dx, _, rfl, upd_same, T.cl_Primitive, T.na_Primitive_outputs, (by show 2 < 1000; decide), ?_⟩⟩
    rw [fsB_put3, upd_upd]
    exact k
theorem sc_Primitive_init : SupX.SScope ["self", "name", "constant"] ["self", "name", "constant"] (defScope s_Primitive_init) := ⟨rfl, rfl, rfl, by decide +kernel, rfl, by decide +kernel, by decide +kernel, by decide +kernel, by decide +kernel, by decide +kernel⟩
theorem ok_PI {f cc cda : Addr} {fd fdB : FuncData} (F : SupX.FunS P K mg "__init__" "Primitive.__init__" s_Primitive_init ad.C_Primitive f cc cda ad.f_Block_init "self" fd) (T : Txt K w mg ad) (G_B : FnOk P w K mg base CX0 1 ad.f_Block_init fdB ["self", "name", "inputs", "outputs"] (spBI K ad.C_Primitive)) (b_B : Binds K fdB ["self", "name", "inputs", "outputs"] []) :
    FnOk P w K mg base CX0 2 f fd ["self", "name", "constant"] (spPI K ad.C_Primitive) := by
  refine F.ok (k := 1) (rest := (defBody s_Primitive_init).drop 1) sc_Primitive_init rfl rfl G_B (by decide) b_B (fun vs H Q E h => ?_) (fun A outer s H vs Q E hr h => ?_) (fun _ _ => rfl) (fun _ _ => rfl) (fun _ h => by unfold interactive; rw [h]; rfl) (fun _ _ => rfl) (fun _ _ => rfl)
  · obtain ⟨x, dx, n, c, rfl, _⟩ := h
    rfl
  · obtain ⟨x, dx, n, c, rfl, hx, ⟨hn, hc⟩, k⟩ := h
    refine ⟨x, dx, [], _, _, rfl, hx, (pa_cons (pv 1) (pa_cons (pe_ix (ix_tupK K) (pe_ix (ix_kdictK K w) (pe_glob (v := .ref ad.d_PORTS) rfl T.g_PORTS rfl) (pv 1) (fun _ _ => rfl)) pe_int (fun _ _ => rfl)) (pa_cons (pe_ix (ix_tupK K) (pe_ix (ix_kdictK K w) (pe_glob (v := .ref ad.d_PORTS) rfl T.g_PORTS rfl) (pv 1) (fun _ _ => rfl)) pe_int (fun _ _ => rfl)) pa_nil))), (pss_cons (ps_fldK K (pv 0) (pv 2) rfl)
    (pss_one (ps_fldK K (pv 0) (pe_ifExp (pt_cmpR op_isN (pv 2) pe_non (nomark _)) (pv 1) (pe_op op_add_str (pe_op op_add_str (pv 1) pe_str) (pe_callTy call_str_int (by rfl) T.n_str (by decide +kernel) (pa_cons (pv 2) pa_nil)))) rfl))), ?_⟩
    obtain ⟨ins, outs, hp⟩ := names_ports hn
    obtain ⟨t, ti, tO, hd, ht, hi, ho⟩ := T.ports _ _ _ hp
    refine ⟨_, rfl, _, rfl, ad.d_PORTS, n, .ref t, rfl, rfl, hd, _, _, _, _, rfl, rfl, ht _, atI_nat (j := 0) rfl, ?_⟩
    refine ⟨_, rfl, ad.d_PORTS, n, .ref t, rfl, rfl, hd, _, _, _, _, rfl, rfl, ht _, atI_nat (j := 1) rfl, ?_⟩
    refine ⟨x, dx, ti, tO, n, _, _, rfl, hx, hi _, ho _, ?_⟩
    cases c with
    | none =>
      refine ⟨_, rfl, _, rfl, x, _, dx, _, rfl, upd_same, T.cl_Primitive, T.na_Primitive_constant, (by show 3 < 1000; decide), ?_⟩
      rw [fsP_put1, upd_upd]
      refine ⟨_, rfl, rfl, _, rfl, iteT ⟨_, rfl, _, rfl, x, _, dx, _, rfl, upd_same, T.cl_Primitive, T.na_Primitive_text, (by show 4 < 1000; decide), ?_⟩⟩
      rw [fsP_put2, upd_upd]
      exact k _ _ ⟨_, _, hp, hi, ho⟩
    | some v =>
      have hv := hc v rfl
      refine ⟨_, rfl, _, rfl, x, _, dx, _, rfl, upd_same, T.cl_Primitive, T.na_Primitive_constant, (by show 3 < 1000; decide), ?_⟩
      rw [fsP_put1, upd_upd]
      have hnl : n.length ≤ 100 := (show ∀ n ∈ portNames, n.length ≤ 100 by decide +kernel) n hn
      refine ⟨_, rfl, rfl, _, rfl, iteF ?_⟩
      have hls : (Str.ofString (toString v)).length ≤ 10 := PySem.W.KT.len_num hv.1 (by have := hv.2; omega : v < 10 ^ 10)
      have hsl : (n ++ " " : Str).length = n.length + 1 := by rw [PySem.Str.length_append]; rfl
      refine ⟨_, rfl, _, _, rfl, rfl, szl (by show n.length + 1 ≤ _; omega), _, rfl, v, rfl, r32_log hv, _, _, rfl, rfl, szl (by rw [hsl]; omega), ?_⟩
      refine ⟨_, rfl, x, _, dx, _, rfl, upd_same, T.cl_Primitive, T.na_Primitive_text, (by show 4 < 1000; decide), ?_⟩
      rw [fsP_put2, upd_upd]
      exact k _ _ ⟨_, _, hp, hi, ho⟩
/-! ### is_primitive_text -/
theorem sc_is_primitive_text : FnScope ["text", "words"] ["text"] (defScope s_is_primitive_text) := ⟨rfl, rfl, rfl, by decide +kernel, rfl, by decide +kernel, by decide +kernel⟩
theorem ok_ipt {f : Addr} {fd fdN : FuncData} (F : Fun K "is_primitive_text" "is_primitive_text" s_is_primitive_text f fd) (T : Txt K w mg ad) (G_number_of : FnOk P w K mg base CX0 2 ad.f_number_of fdN ["word"] spNum) (b_number_of : Binds K fdN ["word"] []) : FnOk P w K mg base CX0 3 f fd ["text"] spIpt := by
  refine F.ok sc_is_primitive_text (fun vs H Q E h => ?_) (fun cdv A outer s H vs Q E hr h => ?_)
  · obtain ⟨z, rfl, _⟩ := h
    rfl
  · obtain ⟨z, rfl, hz, k⟩ := h
    refine ⟨_, (pss_cons (ps_set (i := 1) sc_is_primitive_text.nd rfl (Or.inl rfl) (pe_split (pv 0) pe_str))
    (pss_cons (ps_if (pt_cmpR (op_in_seqK K) (pe_ix (ix_listK K) (pv 1) pe_int (fun _ _ => rfl)) (pe_tup (pa_cons pe_str (pa_cons pe_str pa_nil))) (by rfl)) (pss_one (ps_ret (pe_and (pe_cmpR op_eq (pe_callB (call_lenK K) (by rfl) T.n_len (by decide +kernel) (pa_cons (pv 1) pa_nil)) pe_int (nomark _)) (pe_one (pe_cmpR op_notN (pe_call G_number_of (hr.mono (by decide)) rfl T.g_number_of T.k_number_of b_number_of .nil pass0 (pa_cons (pe_ix (ix_listK K) (pv 1) pe_int (fun _ _ => rfl)) pa_nil)) pe_non (nomark _)))))) pss_nil)
    (pss_one (ps_ret (pe_and (pe_cmpR op_eq (pe_callB (call_lenK K) (by rfl) T.n_len (by decide +kernel) (pa_cons (pv 1) pa_nil)) pe_int (nomark _)) (pe_one (pe_cmpR (op_in_kd T.d_PORTS) (pe_ix (ix_listK K) (pv 1) pe_int (fun _ _ => rfl)) (pe_glob (v := .ref ad.d_PORTS) rfl T.g_PORTS rfl) (by rfl)))))))), ?_⟩
    refine ⟨_, rfl, ⟨z, rfl⟩, z, " ", rfl, rfl, (by decide +kernel), Nat.le_trans (Nat.add_le_add_right hz 2) (by decide), fun p hp0 => ?_⟩
    have hlens := split_lens (x := z) sp_ne sp_k
    have hne := split_ne (x := z) sp_ne sp_k
    unfold primOf at k
    generalize Txt.split z " " = ws at k hlens hne
    match ws, k, hlens, hne with
    | [], _, _, hne => exact absurd rfl hne
    | n :: r, k, hlens, _ =>
    refine ⟨_, rfl, p, _, _, _, rfl, rfl, SqL.of upd_same, atI_nat (j := 0) rfl, szl (show 2 ≤ 100000 by decide), fun q hq => ?_⟩
    have nqp : p ≠ q := ne_of_none upd_same hq
    refine ⟨q, _, rfl, .inr (SqT.of upd_same), rfl, rfl, _, rfl, ?_⟩
    have hp2 : upd (upd H p (.lst ((n :: r).map V.str))) q (.tup [V.str "const", V.str "delay"]) p = some (.lst ((n :: r).map V.str)) := by rw [upd_ne nqp]; exact upd_same
    have s2 : Same H (upd (upd H p (.lst ((n :: r).map V.str))) q (.tup [V.str "const", V.str "delay"])) := (same_new hp0).trans (same_new hq)
    have hll : ∀ (m : Int), decide (V.int (((n :: r).map V.str).length : Nat) = V.int m) = true → (r.length : Int) + 1 = m := fun m z => by
      have := V.int.inj (of_decide_eq_true z)
      simpa using this
    have hll2 : ∀ (m : Int), ¬ decide (V.int (((n :: r).map V.str).length : Nat) = V.int m) = true → ¬ (r.length : Int) + 1 = m := fun m z q => z (decide_eq_true (by
      rw [List.length_map, List.length_cons, ← q]
      rfl))
    show if (if false = true then !inV (V.str n) [V.str "const", V.str "delay"] else inV (V.str n) [V.str "const", V.str "delay"]) = true then _ else _
    rw [inV_cd]
    cases hk : withK n with
    | true =>
      refine iteT ?_
      refine ⟨_, rfl, p, _, rfl, .inl (SqL.of hp2), rfl, _, rfl, ite2 (fun z1 => ?_) (fun z1 => ?_)⟩
      · have e1 := hll _ z1
        match r, k, hlens, hp2, s2, hq, e1 with
        | [w2], k, hlens, hp2, s2, hq, _ =>
          refine ⟨_, rfl, p, _, _, _, rfl, rfl, SqL.of hp2, atI_nat (j := 1) rfl, w2, rfl, Nat.le_trans (hlens w2 (by simp)) hz, fun H3 s3 => ?_⟩
          have kk := k H3 (s2.trans s3)
          change Q (.bl (if withK n = true then (numOf w2).map (fun v => (n, some v)) else none).isSome) H3 at kk
          rw [if_pos hk, Option.isSome_map] at kk
          refine ⟨rfl, ?_⟩
          cases e : numOf w2 with
          | none => rw [e] at kk; exact kk
          | some v => rw [e] at kk; exact kk
        | [], _, _, _, _, _, e1 => exact absurd e1 (by decide)
        | _ :: _ :: _, _, _, _, _, _, e1 => simp at e1; omega
      · have e1 := hll2 _ z1
        have kk := k _ s2
        have e2 : primWords (n :: r) = none := by
          match r, e1 with
          | [], _ =>
            show (if n ∈ plain7 then some (n, (none : Option Int)) else none) = none
            rw [if_neg (fun q => by rw [plain_noK q] at hk; cases hk)]
          | [_], e1 => exact absurd rfl e1
          | _ :: _ :: _, _ => rfl
        rw [e2] at kk
        exact kk
    | false =>
      refine iteF ?_
      refine ⟨_, rfl, p, _, rfl, .inl (SqL.of hp2), rfl, _, rfl, ite2 (fun z1 => ?_) (fun z1 => ?_)⟩
      · have e1 := hll _ z1
        have e0 : r = [] := by
          match r, e1 with
          | [], _ => rfl
          | _ :: _, e1 => simp at e1; omega
        subst e0
        have kk := k _ s2
        change Q (.bl (if n ∈ plain7 then some (n, (none : Option Int)) else none).isSome) _ at kk
        by_cases hn : n ∈ portNames
        · obtain ⟨ins, outs, hp⟩ := names_ports hn
          obtain ⟨t, ti, tO, ⟨_, _, u, hl, hkl, hns, _⟩, _⟩ := T.ports _ _ _ hp
          refine ⟨_, rfl, p, _, _, _, rfl, rfl, SqL.of hp2, atI_nat (j := 0) rfl, n, _, rfl, rfl, hns, ?_⟩
          rw [if_pos (port_plain hn hk)] at kk
          exact kk
        · obtain ⟨ts, hts, hks⟩ := T.keys
          have hns := nsIn_none T.d_PORTS (l := (portsTab.zip ts).map fun p => (p.1.1, p.2)) (z := n) (by rw [hks, List.map_map]; rfl) (fun p hp e => by
            obtain ⟨q, hq, rfl⟩ := List.mem_map.mp hp
            have h1 : q.1 ∈ portsTab := (List.of_mem_zip (a := q.1) (b := q.2) hq).1
            have h2 : q.1.1 ∈ portNames := (show ∀ p ∈ portsTab, p.1 ∈ portNames by decide +kernel) _ h1
            exact hn (e ▸ h2))
          refine ⟨_, rfl, p, _, _, _, rfl, rfl, SqL.of hp2, atI_nat (j := 0) rfl, n, _, rfl, rfl, hns, ?_⟩
          rw [if_neg (fun q => hn (plain_port q))] at kk
          exact kk
      · have e1 := hll2 _ z1
        have kk := k _ s2
        have e2 : primWords (n :: r) = none := by
          match r, e1 with
          | [], e1 => exact absurd rfl e1
          | [k2], _ =>
            show (if withK n = true then (numOf k2).map (fun v => (n, some v)) else none) = none
            rw [if_neg (by rw [hk]; decide)]
          | _ :: _ :: _, _ => rfl
        rw [e2] at kk
        exact kk

/-! ### InvalidText, Primitive.parse with the raise -/
theorem sc_InvalidText_init : FnScope ["self", "row"] ["self", "row"] (defScope s_InvalidText_init) := ⟨rfl, rfl, rfl, by decide +kernel, rfl, by decide +kernel, by decide +kernel⟩
theorem ok_ITI {f : Addr} {fd : FuncData} (F : Fun K "__init__" "InvalidText.__init__" s_InvalidText_init f fd) (T : Txt K w mg ad) : FnOk P w K mg base CX0 1 f fd ["self", "row"] (spXI ad.C_InvalidText "row") := by
  refine F.ok sc_InvalidText_init (fun vs H Q E h => ?_) (fun cdv A outer s H vs Q E hr h => ?_)
  · obtain ⟨a, v, rfl, _⟩ := h
    rfl
  · obtain ⟨a, v, rfl, ha, k⟩ := h
    refine ⟨_, (pss_one (ps_ost (pv 0) (pv 1))), ?_⟩
    exact ⟨_, rfl, _, rfl, a, ad.C_InvalidText, rfl, T.oex_InvalidText, T.no_InvalidText_row, .inl ⟨ha, fun dx hdx ne => k dx hdx ne⟩⟩
theorem sc_Primitive_parse : FnScope ["cls", "text", "words"] ["cls", "text"] (defScope s_Primitive_parse) := ⟨rfl, rfl, rfl, by decide +kernel, rfl, by decide +kernel, by decide +kernel⟩
def spParseX (K : PySem.W.Frag) (C CE : Addr) : Sp := fun vs H Q E => ∃ z : Str, vs = [.ref C, .str z] ∧ z.length ≤ 1000000 ∧ (∀ n c, primOf z = some (n, c) → ∀ x H', Same H H' → H x = none → PrimAt K C H' x n (optV c) (textOf n c) → Q (.ref x) H') ∧
  (primOf z = none → ∀ d H', Same H H' → H' d = some (.xd [("row", .int 0)]) → E (.ref CE) (some d) H')
theorem ok_parseX {f : Addr} {fd fdI fdPI fdN fdX : FuncData} (F : Fun K "parse" "Primitive.parse" s_Primitive_parse f fd) (T : Txt K w mg ad) (G_number_of : FnOk P w K mg base CX0 2 ad.f_number_of fdN ["word"] spNum) (b_number_of : Binds K fdN ["word"] []) (G_is_primitive_text : FnOk P w K mg base CX0 3 ad.f_is_primitive_text fdI ["text"] spIpt) (b_is_primitive_text : Binds K fdI ["text"] [])
    (G_Primitive_init : FnOk P w K mg base CX0 2 ad.f_Primitive_init fdPI ["self", "name", "constant"] (spPI K ad.C_Primitive)) (b_Primitive_init : Binds K fdPI ["self", "name", "constant"] []) (G_InvalidText_init : FnOk P w K mg base CX0 1 ad.f_InvalidText_init fdX ["self", "row"] (spXI ad.C_InvalidText "row")) (b_InvalidText_init : Binds K fdX ["self", "row"] []) :
    FnOk P w K mg base (L2.CX P w) 4 f fd ["cls", "text"] (spParseX K ad.C_Primitive ad.C_InvalidText) := by
  refine F.okX sc_Primitive_parse (fun vs H Q E h => ?_) (fun cdv A outer s H vs Q E hr h => ?_)
  · obtain ⟨z, rfl, _⟩ := h
    rfl
  · obtain ⟨z, rfl, hz, kyes, kno⟩ := h
    refine ⟨_, (pss_cons (ps_if (pt_not (pt_val (pe_call G_is_primitive_text (hr.mono (by decide)) rfl T.g_is_primitive_text T.k_is_primitive_text b_is_primitive_text .nil pass0 (pa_cons (pv 1) pa_nil)))) (pss_one (ps_raise rfl (takes_of rfl rfl rfl rfl) (pmk_oex T.oex_InvalidText T.in_InvalidText T.tf_InvalidText G_InvalidText_init (hr.mono (by decide)) b_InvalidText_init .nil pass0 rfl T.g_InvalidText (by exact (pa_cons pe_int pa_nil))))) pss_nil)
    (pss_cons (ps_set (i := 2) sc_Primitive_parse.nd rfl (Or.inl rfl) (pe_split (pv 1) pe_str))
    (pss_one (ps_ret (pe_makeV T.mk_Primitive G_Primitive_init (hr.mono (by decide)) (pv 0) b_Primitive_init .nil pass0 (pa_cons (pe_ix (ix_listK K) (pv 2) pe_int (fun _ _ => rfl)) (pa_cons (pe_ifExp (pt_cmpR op_eq (pe_callB (call_lenK K) (by rfl) T.n_len (by decide +kernel) (pa_cons (pv 2) pa_nil)) pe_int (nomark _)) (pe_call G_number_of (hr.mono (by decide)) rfl T.g_number_of T.k_number_of b_number_of .nil pass0 (pa_cons (pe_ix (ix_listK K) (pv 2) pe_int (fun _ _ => rfl)) pa_nil)) pe_non) pa_nil))))))), ?_⟩
    refine ⟨_, rfl, z, rfl, hz, fun H1 s1 => ⟨_, rfl, ?_⟩⟩
    cases hp : primOf z with
    | none =>
      refine iteT ?_
      refine ⟨(show 1 ≤ 1000 by decide), fun a ha => ?_⟩
      refine ⟨a, .int 0, rfl, upd_same, fun dx hdx ne => ⟨rfl, dx, [("row", .int 0)], upd_same, ?_, ?_, ?_⟩⟩
      · rw [upd_ne ne]
        exact upd_same
      · have q := hdx
        rw [upd_ne ne] at q
        exact q
      · have q : H1 dx = none := by
          have q := hdx
          rw [upd_ne ne] at q
          exact q
        exact kno hp dx _ (s1.trans (same_exc ha q)) upd_same
    | some nc =>
    obtain ⟨n, c⟩ := nc
    have k := kyes n c hp
    refine iteF ?_
    refine ⟨_, rfl, ⟨z, rfl⟩, z, " ", rfl, rfl, (by decide +kernel), Nat.le_trans (Nat.add_le_add_right hz 2) (by decide), fun p hp0 => ?_⟩
    have hok := primOf_ok hp
    have hlens := split_lens (x := z) sp_ne sp_k
    unfold primOf at hp
    generalize Txt.split z " " = ws at hp hlens
    have fin : ∀ H2, Same H1 H2 → ∀ x dx : Addr, H2 x = none → upd H2 dx (.own x) x = none → H2 dx = none → ∀ i o, (∃ ins outs, (n, ins, outs) ∈ portsTab ∧ (∀ H, SqT K H i (ins.map V.str)) ∧ ∀ H, SqT K H o (outs.map V.str)) → Q (.ref x) (upd (upd H2 dx (.own x)) x (.ins ad.C_Primitive dx (fsP n i o (optV c) (textOf n c)))) := by
      intro H2 s2 x dx hx hx' hdx i o ⟨ins, outs, hpt, hi, ho⟩
      have s12 := s1.trans s2
      exact k x _ (s12.trans ((same_new hdx).trans (same_new hx'))) (s12.free hx) ⟨dx, i, o, upd_same, ins, outs, hpt, hi _, ho _⟩
    match ws, hp, hlens with
    | [n'], hp, hlens =>
      change (if n' ∈ plain7 then some (n', (none : Option Int)) else none) = _ at hp
      split at hp
      case isFalse => cases hp
      cases hp
      refine ⟨_, rfl, rfl, _, rfl, p, _, _, _, rfl, rfl, SqL.of upd_same, atI_nat (j := 0) rfl, _, rfl, p, _, rfl, .inl (SqL.of upd_same), rfl, _, rfl, iteF ?_⟩
      intro x dx hx hdx ne
      refine ⟨x, dx, n, none, rfl, upd_same, hok, fun i o hh => ⟨rfl, ?_⟩⟩
      rw [upd_upd]
      exact fin _ (same_new hp0) x dx hx (by rw [upd_ne ne.symm]; exact hx) hdx i o hh
    | [n', w2], hp, hlens =>
      change (if withK n' = true then (numOf w2).map (fun v => (n', some v)) else none) = _ at hp
      split at hp
      case isFalse => cases hp
      cases e : numOf w2 with
      | none => rw [e] at hp; cases hp
      | some v =>
      rw [e] at hp
      cases hp
      refine ⟨_, rfl, rfl, _, rfl, p, _, _, _, rfl, rfl, SqL.of upd_same, atI_nat (j := 0) rfl, _, rfl, p, _, rfl, .inl (SqL.of upd_same), rfl, _, rfl, iteT ?_⟩
      refine ⟨_, rfl, p, _, _, _, rfl, rfl, SqL.of upd_same, atI_nat (j := 1) rfl, w2, rfl, Nat.le_trans (hlens w2 (by simp)) hz, fun H3 s3 => ?_⟩
      rw [e]
      intro x dx hx hdx ne
      refine ⟨x, dx, n, some v, rfl, upd_same, hok, fun i o hh => ⟨rfl, ?_⟩⟩
      rw [upd_upd]
      exact fin _ ((same_new hp0).trans s3) x dx hx (by rw [upd_ne ne.symm]; exact hx) hdx i o hh
    | [], hp, _ => cases hp
    | _ :: _ :: _ :: _, hp, _ => cases hp

/-! ### str -/
theorem sc_Primitive_str : FnScope ["self"] ["self"] (defScope s_Primitive_str) := ⟨rfl, rfl, rfl, by decide +kernel, rfl, by decide +kernel, by decide +kernel⟩
theorem ok_pstr {f : Addr} {fd : FuncData} (F : Fun K "__str__" "Primitive.__str__" s_Primitive_str f fd) (T : Txt K w mg ad) : FnOk P w K mg base CX0 1 f fd ["self"] (spPStr K ad.C_Primitive) := by
  refine F.ok sc_Primitive_str (fun vs H Q E h => ?_) (fun cdv A outer s H vs Q E hr h => ?_)
  · obtain ⟨x, n, z, c, rfl, _⟩ := h
    rfl
  · obtain ⟨x, n, z, c, rfl, ⟨dx, i, o, hx, _⟩, hz, k⟩ := h
    refine ⟨_, (pss_one (ps_ret (pe_joined1 (pe_fmt (pe_fldK K (pv 0) rfl))))), ?_⟩
    exact ⟨_, rfl, x, _, dx, _, _, rfl, hx, T.cl_Primitive, T.na_Primitive_text, fsP_text, .inl ⟨z, rfl, szl hz, k⟩⟩

/-! ### _law_told -/
theorem sc_law_told : FnScope ["text", "caught", "found", "error"] ["text"] (defScope s_law_told) := ⟨rfl, rfl, rfl, by decide +kernel, rfl, by decide +kernel, by decide +kernel⟩
def spTold (K : PySem.W.Frag) : Sp := fun vs H Q _ => ∃ z : Str, vs = [.str z] ∧ z.length ≤ 100000 ∧ ∀ H', Same H H' → Q (if (primOf z).isSome = true then .str z else .int 0) H'
theorem ok_told {f : Addr} {fd fd6 : FuncData} (F : Fun K "_law_told" "_law_told" s_law_told f fd) (T : Txt K w mg ad) (G_Primitive_parse : FnR P w K mg base (L2.CX P w) 4 ad.f_Primitive_parse (spParseX K ad.C_Primitive ad.C_InvalidText))
    (G_Primitive_str : FnOk P w K mg base CX0 1 ad.f_Primitive_str fd6 ["self"] (spPStr K ad.C_Primitive)) (b_Primitive_str : Binds K fd6 ["self"] []) : FnOk P w K mg base CX0 5 f fd ["text"] (spTold K) := by
  refine F.ok sc_law_told (fun vs H Q E h => ?_) (fun cdv A outer s H vs Q E hr h => ?_)
  · obtain ⟨z, rfl, _⟩ := h
    rfl
  · obtain ⟨z, rfl, hz, k⟩ := h
    refine ⟨_, (pss_cons (ps_asg (pe_tup (pa_cons pe_non (pa_cons pe_non pa_nil))) (pg_tup (by rfl) (pgs_cons (pg_name (i := 1) sc_law_told.nd rfl (Or.inl rfl)) (pgs_cons (pg_name (i := 2) sc_law_told.nd rfl (Or.inl rfl)) pgs_nil))))
    (pss_cons (ps_try_keep (i := 3) (tb := fun W => tAsg (tCMethS ad.C_Primitive (spParseX K ad.C_Primitive ad.C_InvalidText) (WE W) (tC (.ref ad.C_Primitive)) (tCons (tVar 0) tNil)) (gName 2)) (ts := fun a cls d => tAsg (tVar 3) (gName 1)) (Wout := fun _ _ _ _ => False) rfl rfl sc_law_told.nd rfl rfl ⟨rfl, by decide, Or.inl T.g_BlockError⟩ takes0
      (fun W pn xe tk _ => pss_one (ps_set (i := 2) sc_law_told.nd rfl (Or.inl rfl) (by exact (pe_cmethS (pe_glob (v := .ref ad.C_Primitive) rfl T.g_Primitive rfl) T.cr_Primitive T.cm_Primitive_parse G_Primitive_parse (hr.mono (by decide)) (fun σ => passAt tk σ) (by exact (pa_cons (pv 0) pa_nil))))))
      (fun a cls d pn => pss_one (ps_set (i := 1) sc_law_told.nd rfl (Or.inl rfl) (pv 3))))
    (pss_cons (ps_if (pt_cmpR op_isN (pv 1) pe_non (nomark _)) (pss_one (ps_ret (pe_callTy (call_strOwn K T.cl_Primitive T.m_Primitive_str G_Primitive_str (hr.mono (by decide)) b_Primitive_str pass0) (by rfl) T.n_str (by decide +kernel) (pa_cons (pv 2) pa_nil)))) pss_nil)
    (pss_cons (ps_if (PW.pt (pw_or (pt_not (pt_val (pe_callB (call_isX K) (by rfl) T.n_isinstance (by decide +kernel) (pa_cons (pv 1) (pa_cons (pe_glob (v := .ref ad.C_InvalidText) rfl T.g_InvalidText rfl) pa_nil))))) (pw_or1 (pt_not (pt_val (pe_callB (call_isX K) (by rfl) T.n_isinstance (by decide +kernel) (pa_cons (pv 1) (pa_cons (pe_bltn (v := .ty "ValueError") rfl T.n_ValueError (by decide +kernel) rfl) pa_nil)))))))) (pss_one (ps_ret pe_str)) pss_nil)
    (pss_one (ps_ret (pe_xt T.xf_InvalidText T.no_InvalidText_row (pv 1)))))))), ?_⟩
    refine ⟨szl (show 2 ≤ 100000 by decide), fun t0 ht0 => ⟨t0, _, rfl, SqT.of upd_same, rfl, _, _, rfl, _, _, rfl, rfl, ?_⟩⟩
    have s0 := same_new (o := .tup [V.non, .non]) ht0
    refine ⟨rfl, _, rfl, z, rfl, by omega, fun n c hp x H' s1 _ hP => ?_, fun hp d H' s1 hd => ?_⟩
    · obtain ⟨dx, pi, po, hx0, _⟩ := id hP
      refine ⟨_, rfl, rfl, _, rfl, iteT ?_⟩
      have ht := text_prim hp
      refine ⟨_, rfl, x, dx, _, rfl, hx0, ⟨x, n, _, _, rfl, hP, by rw [ht]; omega, _, rfl, ?_⟩⟩
      have kk := k _ (s0.trans s1)
      rw [hp] at kk
      rw [ht]
      exact kk
    · refine ⟨true, T.em_InvalidText, fun _ a ha => ?_, fun q => Bool.noConfusion q⟩
      have nda : d ≠ a := ne_of_none hd ha
      have e1 : upd H' a (ExT (.ref ad.C_InvalidText) (some d) a) d = some (.xd [("row", .int 0)]) := by rw [upd_ne nda]; exact hd
      have s2 := (s0.trans s1).trans (same_new (o := ExT (.ref ad.C_InvalidText) (some d) a) ha)
      refine ⟨_, rfl, ?_⟩
      refine ⟨_, rfl, rfl, _, rfl, iteF ?_⟩
      refine ⟨_, rfl, a, _, d, _, _, .ref ad.C_InvalidText, true, rfl, upd_same, e1, T.ek_InvalidText, .own _, kit_self, _, rfl, iteF ?_⟩
      refine ⟨_, rfl, a, _, d, _, _, .type "ValueError", true, rfl, upd_same, e1, T.ek_InvalidText, .ty _, T.kv_InvalidText, _, rfl, iteF ?_⟩
      refine ⟨_, rfl, a, d, _, .int 0, rfl, upd_same, e1, rfl, ?_⟩
      have kk := k _ s2
      rw [hp] at kk
      exact kk
/-! ### _law_is_number -/
theorem sc_law_is_number : FnScope ["word", "sign"] ["word"] (defScope s_law_is_number) := ⟨rfl, rfl, rfl, by decide +kernel, rfl, by decide +kernel, by decide +kernel⟩
def spIsNum : Sp := fun vs H Q _ => ∃ z : Str, vs = [.str z] ∧ OkT 100000 z ∧ ∀ H', Same H H' → Q (.bl (numOf z).isSome) H'
theorem ok_isnum {f : Addr} {fd : FuncData} (F : Fun K "_law_is_number" "_law_is_number" s_law_is_number f fd) (T : Txt K w mg ad) : FnOk P w K mg base CX0 1 f fd ["word"] spIsNum := by
  refine F.ok sc_law_is_number (fun vs H Q E h => ?_) (fun cdv A outer s H vs Q E hr h => ?_)
  · obtain ⟨z, rfl, _⟩ := h
    rfl
  · obtain ⟨z, rfl, ⟨hz, hsg⟩, k⟩ := h
    refine ⟨_, (pss_cons (ps_if (PW.pt (pw_or (pt_not (pt_chain op_le op_le pe_int (pe_callB call_len_str (by rfl) T.n_len (by decide +kernel) (pa_cons (pv 0) pa_nil)) pe_int)) (pw_or1 (pt_cmpR (op_neDK K hr.units) (pe_lc (own := [("sign", 1)]) rfl sc_law_is_number.nd (pi_str (pv 0)) (blkOk_by (own := [("sign", 1)]) (N := ["word", "sign"]) (sc := defScope s_law_is_number) (by decide +kernel)) (fun _ _ _ _ _ => (pg_name (i := 1) sc_law_is_number.nd rfl (Or.inl rfl))) (fun _ _ _ _ _ => (pts_one (pt_cmpR op_notIn_sign (pv 1) pe_str (by rfl)))) (fun _ _ _ _ _ => (pv 1))) (pe_lst pa_nil) (nomark _))))) (pss_one (ps_ret pe_bl)) pss_nil)
    (pss_one (ps_ret (pe_or (pe_cmpR op_eq (pv 0) pe_str (nomark _)) (pe_one (pe_and (pe_cmpR op_ne (pe_ix ix_str (pv 0) pe_int (fun _ _ => rfl)) pe_str (nomark _)) (pe_one (pe_cmpR op_lt (pe_callTy call_int_str (by rfl) T.n_int (by decide +kernel) (pa_cons (pv 0) pa_nil)) (pe_op op_pow pe_int pe_int) (nomark _))))))))), ?_⟩
    have hzl : z.length ≤ sizeLine := szl hz
    have fail : numOk z = false → ∀ H', Same H H' → Q (.bl false) H' := fun h H' s => by
      have q := k H' s
      rw [numOf_none h] at q
      exact q
    have good : numOk z = true → ∀ H', Same H H' → Q (.bl true) H' := fun h H' s => by
      have q := k H' s
      rw [numOf_some h] at q
      exact q
    refine ⟨_, rfl, z, rfl, hzl, _, _, rfl, rfl, _, rfl, ?_⟩
    by_cases c1 : (1 : Int) ≤ (z.length : Int)
    case neg =>
      rw [decide_eq_false c1]
      refine iteF ⟨_, rfl, iteT (iteT (fail ?_ _ (Same.refl H)))⟩
      unfold numOk
      rw [decide_eq_false (show ¬ 1 ≤ z.length by omega)]
      rfl
    rw [decide_eq_true c1]
    refine iteT ⟨_, _, rfl, rfl, _, rfl, ?_⟩
    by_cases c2 : (z.length : Int) ≤ 10
    case neg =>
      rw [decide_eq_false c2]
      refine iteT (iteT (fail ?_ _ (Same.refl H)))
      unfold numOk
      rw [decide_eq_false (show ¬ z.length ≤ 10 by omega)]
      simp
    rw [decide_eq_true c2]
    refine iteF ?_
    refine ⟨_, rfl, z, rfl, fun D hD => lc_it walk_str (fun i H' => Same H H' ∧ H' D = some (.lst (((z.cps.toList.take i).filter fun c => !isDig c).map fun c => V.str ⟨#[c]⟩))) ⟨same_new hD, upd_same⟩ (fun _ _ _ _ => True.intro) ?_ ?_⟩
    · rintro i x H1 H2 hi ⟨s1, h1⟩ ⟨rfl, c, hc, rfl⟩
      have e : z.cps.toList[i]? = some c := by simpa using hc
      refine ⟨rfl, _, rfl, c, "0123456789", rfl, rfl, _, rfl, ?_⟩
      rw [dig_in]
      cases hd : isDig c with
      | true =>
        refine iteF ⟨s1, ?_⟩
        rw [h1, List.take_add_one, e]
        simp [hd]
      | false =>
        refine iteT ⟨_, rfl, _, h1, szt ?_, same_mut s1 hD, ?_⟩
        · rw [List.length_map]
          have h2 := List.length_filter_le (fun c => !isDig c) (z.cps.toList.take i)
          rw [List.length_take] at h2
          have e : z.cps.size = z.length := rfl
          omega
        · rw [upd_same, List.take_add_one, e]
          simp [hd]
    rintro H1 ⟨s1, h1⟩
    have hfull : (z.cps.toList.take z.cps.size) = z.cps.toList := by rw [show z.cps.size = z.cps.toList.length by simp, List.take_length]
    rw [hfull] at h1
    refine ⟨Nat.zero_le _, fun q hq => ?_⟩
    have nq : D ≠ q := ne_of_none h1 hq
    have s2 := s1.trans (same_new (o := .lst []) hq)
    have hds : ∀ cs : List Nat, DpAll K (upd H1 q (.lst [])) (cs.map fun c => V.str ⟨#[c]⟩) (cs.map fun c => PyData.str ⟨#[c]⟩) := fun cs => by
      induction cs with
      | nil => exact .nil
      | cons c r ih => exact .cons (.str _) ih
    have hsh := shaped_chars (z := z) (cs := z.cps.toList.filter fun c => !isDig c) hsg fun c hc => (List.mem_filter.mp hc).1
    refine ⟨.list ((z.cps.toList.filter fun c => !isDig c).map fun c => PyData.str ⟨#[c]⟩), .list [], .lst (SqL.of (by rw [upd_ne nq]; exact h1)) (hds _), .lst (SqL.of upd_same) .nil, hsh, rfl, _, rfl, ?_⟩
    cases hfl : z.cps.toList.filter fun c => !isDig c with
    | cons c r =>
      refine iteT (fail ?_ _ s2)
      have hc : c ∈ z.cps.toList.filter fun c => !isDig c := by rw [hfl]; exact List.mem_cons_self
      obtain ⟨m1, m2⟩ := List.mem_filter.mp hc
      have : z.cps.toList.all isDig = false := by
        rw [List.all_eq_false]
        exact ⟨c, m1, by simpa using m2⟩
      unfold numOk
      rw [this]
      simp
    | nil =>
      refine iteF ?_
      have c3 : z.cps.toList.all isDig = true := by
        rw [List.all_eq_true]
        intro c hc
        have := List.filter_eq_nil_iff.mp hfl c hc
        simpa using this
      walk_at "nx"
      have hn : 0 < z.cps.toList.length := by rw [← str_len_list]; omega
      have h0 : z.cps.toList.head? = some (z.cps.toList[0]) := by rw [List.head?_eq_getElem?, List.getElem?_eq_getElem hn]
      have hl10 : z.length ≤ 10 := by omega
      have hl1 : 1 ≤ z.length := by omega
      have hint := int_dig c3 hl1 hl10
      refine ⟨_, rfl, rfl, _, rfl, ite2 (fun e => ?_) (fun e => ?_)⟩
      · have e1 : z = "0" := dstr ▸ e
        have q1 : numOk z = true := by rw [e1]; decide +kernel
        exact good q1 _ s2
      · have e1 : ¬ z = "0" := dstr ▸ e
        refine ⟨_, rfl, z, _, _, rfl, rfl, hzl, atI_nat (j := 0) (List.getElem?_eq_getElem hn), rfl, _, rfl, ?_⟩
        by_cases hd0 : z.cps.toList[0] = 48
        · have q3 : (("0" : Str)) = ⟨#[48]⟩ := by decide +kernel
          have eV : V.str ⟨#[z.cps.toList[0]]⟩ = V.str "0" := by rw [hd0, q3]
          refine iteNF eV (fail ?_ _ s2)
          have hl : 1 < z.length := by
            rcases Nat.lt_or_ge 1 z.length with q | q
            · exact q
            · exfalso
              have hl2 : z.cps.toList.length = 1 := by rw [← str_len_list]; omega
              have e3 : z.cps.toList = [48] := by
                match hm : z.cps.toList, hl2 with
                | [a], _ =>
                  have : z.cps.toList[0] = a := by simp [hm]
                  rw [← hd0, this]
              refine e1 ?_
              rw [q3]
              have e4 : z.cps = #[48] := by
                have := congrArg List.toArray e3
                simpa using this
              cases z with
              | mk a => exact congrArg Str.mk e4
          unfold numOk
          have e5 : z.cps.toList.head? = some 48 := h0.trans (congrArg some hd0)
          rw [decide_eq_true e5, decide_eq_true hl]
          simp
        · have eV : ¬ V.str ⟨#[z.cps.toList[0]]⟩ = V.str "0" := fun q => hd0 (by
            have q2 := congrArg (fun s : Str => s.cps.toList) (V.str.inj q)
            have q3 : (("0" : Str)).cps.toList = [48] := by decide +kernel
            have q4 : [z.cps.toList[0]] = [48] := q2.trans q3
            exact List.head_eq_of_cons_eq q4)
          refine iteNT eV ⟨_, rfl, z, numVal z, rfl, hint, Nat.le_trans hl10 (by decide), _, _, rfl, rfl, ⟨by decide, by decide, by decide⟩, numVal z, 4294967296, rfl, rfl, ?_⟩
          have hzb : (!(decide (z.cps.toList.head? = some 48) && decide (1 < z.length))) = true := by
            have : ¬ z.cps.toList.head? = some 48 := fun q => hd0 (by rw [h0] at q; exact Option.some.inj q)
            rw [decide_eq_false this]
            rfl
          have fin : ∀ b, decide (numVal z < 4294967296) = b → Q (.bl b) (upd H1 q (.lst [])) := fun b hb => by
            cases b with
            | true =>
              refine good ?_ _ s2
              unfold numOk
              rw [decide_eq_true hl1, decide_eq_true hl10, c3, hzb, hb]
              rfl
            | false =>
              refine fail ?_ _ s2
              unfold numOk
              rw [hb]
              simp
          exact fin _ rfl
/-! ### _law_is_primitive -/
theorem sc_law_is_primitive : FnScope ["text", "words"] ["text"] (defScope s_law_is_primitive) := ⟨rfl, rfl, rfl, by decide +kernel, rfl, by decide +kernel, by decide +kernel⟩
def spIsPrim : Sp := fun vs H Q _ => ∃ z : Str, vs = [.str z] ∧ OkT 100000 z ∧ ∀ H', Same H H' → Q (.bl (primOf z).isSome) H'
theorem ok_isprim {f : Addr} {fd fdN : FuncData} (F : Fun K "_law_is_primitive" "_law_is_primitive" s_law_is_primitive f fd) (T : Txt K w mg ad) (G_law_is_number : FnOk P w K mg base CX0 1 ad.f_law_is_number fdN ["word"] spIsNum) (b_law_is_number : Binds K fdN ["word"] []) : FnOk P w K mg base CX0 2 f fd ["text"] spIsPrim := by
  refine F.ok sc_law_is_primitive (fun vs H Q E h => ?_) (fun cdv A outer s H vs Q E hr h => ?_)
  · obtain ⟨z, rfl, _⟩ := h
    rfl
  · obtain ⟨z, rfl, hO, k⟩ := h
    refine ⟨_, (pss_cons (ps_set (i := 1) sc_law_is_primitive.nd rfl (Or.inl rfl) (pe_split (pv 0) pe_str))
    (pss_cons (ps_if (pt_cmpR (op_in_seqK K) (pe_ix (ix_listK K) (pv 1) pe_int (fun _ _ => rfl)) (pe_lst (pa_cons pe_str (pa_cons pe_str pa_nil))) (by rfl)) (pss_one (ps_ret (pe_and (pe_cmpR op_eq (pe_callB (call_lenK K) (by rfl) T.n_len (by decide +kernel) (pa_cons (pv 1) pa_nil)) pe_int (nomark _)) (pe_one (pe_call G_law_is_number (hr.mono (by decide)) rfl T.g__law_is_number T.k__law_is_number b_law_is_number .nil pass0 (pa_cons (pe_ix (ix_listK K) (pv 1) pe_int (fun _ _ => rfl)) pa_nil)))))) pss_nil)
    (pss_one (ps_ret (pe_cmpR (op_in_seqK K) (pv 0) (pe_lst (pa_cons pe_str (pa_cons pe_str (pa_cons pe_str (pa_cons pe_str (pa_cons pe_str (pa_cons pe_str (pa_cons pe_str pa_nil)))))))) (by rfl)))))), ?_⟩
    refine ⟨_, rfl, ⟨z, rfl⟩, z, " ", rfl, rfl, (by decide +kernel), Nat.le_trans (Nat.add_le_add_right hO.ln 2) (by decide), fun p hp0 => ?_⟩
    have hpl : ∀ n r, Txt.split z " " = n :: r → withK n = false → (primOf z).isSome = decide (z ∈ plain7) := fun n r => prim_plain
    have hprim : (primOf z).isSome = (primWords (Txt.split z " ")).isSome := rfl
    have hws := okT_split hO
    have hne := split_ne (x := z) sp_ne sp_k
    rw [hprim] at k hpl
    generalize Txt.split z " " = ws at k hws hne hpl
    match ws, k, hws, hne, hpl with
    | [], _, _, hne, _ => exact absurd rfl hne
    | n :: r, k, hws, _, hpl =>
    refine ⟨_, rfl, p, _, _, _, rfl, rfl, SqL.of upd_same, atI_nat (j := 0) rfl, szl (show 2 ≤ 100000 by decide), fun q hq => ?_⟩
    have nqp : p ≠ q := ne_of_none upd_same hq
    have hp2 : upd (upd H p (.lst ((n :: r).map V.str))) q (.lst [V.str "const", V.str "delay"]) p = some (.lst ((n :: r).map V.str)) := by rw [upd_ne nqp]; exact upd_same
    have s2 : Same H (upd (upd H p (.lst ((n :: r).map V.str))) q (.lst [V.str "const", V.str "delay"])) := (same_new hp0).trans (same_new hq)
    have hll : ∀ (m : Int), decide (V.int (((n :: r).map V.str).length : Nat) = V.int m) = true → (r.length : Int) + 1 = m := fun m z => by
      have := V.int.inj (of_decide_eq_true z)
      simpa using this
    have hll2 : ∀ (m : Int), ¬ decide (V.int (((n :: r).map V.str).length : Nat) = V.int m) = true → ¬ (r.length : Int) + 1 = m := fun m z q => z (decide_eq_true (by
      rw [List.length_map, List.length_cons, ← q]
      rfl))
    refine ⟨q, _, rfl, .inl (SqL.of upd_same), rfl, rfl, _, rfl, ?_⟩
    show if (if false = true then !inV (V.str n) [V.str "const", V.str "delay"] else inV (V.str n) [V.str "const", V.str "delay"]) = true then _ else _
    rw [inV_cd]
    cases hk : withK n with
    | true =>
      refine iteT ?_
      refine ⟨_, rfl, p, _, rfl, .inl (SqL.of hp2), rfl, _, rfl, ite2 (fun z1 => ?_) (fun z1 => ?_)⟩
      · have e1 := hll _ z1
        match r, k, hws, hp2, s2, hq, e1 with
        | [w2], k, hws, hp2, s2, hq, _ =>
          refine ⟨_, rfl, p, _, _, _, rfl, rfl, SqL.of hp2, atI_nat (j := 1) rfl, w2, rfl, hws w2 (by simp), fun H3 s3 => ?_⟩
          have kk := k H3 (s2.trans s3)
          change Q (.bl (if withK n = true then (numOf w2).map (fun v => (n, some v)) else none).isSome) H3 at kk
          rw [if_pos hk, Option.isSome_map] at kk
          exact kk
        | [], _, _, _, _, _, e1 => exact absurd e1 (by decide)
        | _ :: _ :: _, _, _, _, _, _, e1 => simp at e1; omega
      · have e1 := hll2 _ z1
        have kk := k _ s2
        have e2 : primWords (n :: r) = none := by
          match r, e1 with
          | [], _ =>
            show (if n ∈ plain7 then some (n, (none : Option Int)) else none) = none
            rw [if_neg (fun q => by rw [plain_noK q] at hk; cases hk)]
          | [_], e1 => exact absurd rfl e1
          | _ :: _ :: _, _ => rfl
        rw [e2] at kk
        exact kk
    | false =>
      refine iteF ?_
      walk_at "nx"
      have hfin := hpl n r rfl hk
      rw [hfin] at k
      refine ⟨_, rfl, szl (show 7 ≤ 100000 by decide), fun l hl => ⟨l, _, rfl, .inl (SqL.of upd_same), rfl, rfl, ?_⟩⟩
      have kk := k _ (s2.trans (same_new (o := .lst (plain7.map V.str)) hl))
      rw [← inV_mem] at kk
      exact kk
/-! ### _law_changed -/
theorem sc_law_changed : FnScope ["feed", "text", "at", "sign", "left", "right", "some", "words", "word"] ["feed", "text"] (defScope s_law_changed) := ⟨rfl, rfl, rfl, by decide +kernel, rfl, by decide +kernel, by decide +kernel⟩
theorem ok_chg {f : Addr} {fd fdt fdp : FuncData} (F : Fun K "_law_changed" "_law_changed" s_law_changed f fd) (T : Txt K w mg ad) (G_law_take : FnOk P w K mg base CX0 1 ad.f_law_take fdt ["feed", "many"] spTake) (b_law_take : Binds K fdt ["feed", "many"] [])
    (G_law_pick : FnOk P w K mg base CX0 2 ad.f_law_pick fdp ["feed", "some"] (spPick2 K)) (b_law_pick : Binds K fdp ["feed", "some"] []) : FnOk P w K mg base CX0 3 f fd ["feed", "text"] spChg := by
  refine F.ok sc_law_changed (fun vs H Q E h => ?_) (fun cdv A outer s H vs Q E hr h => ?_)
  · obtain ⟨p, t, n, a, b, rfl, _⟩ := h
    rfl
  · obtain ⟨p, t, n, a, b, rfl, ht, hn, hf, k⟩ := h
    refine ⟨_, (pss_cons (ps_set (i := 2) sc_law_changed.nd rfl (Or.inl rfl) (pe_call G_law_take (hr.mono (by decide)) rfl T.g__law_take T.k__law_take b_law_take .nil pass0 (pa_cons (pv 0) (pa_cons (pe_op op_add (pe_callB call_len_str (by rfl) T.n_len (by decide +kernel) (pa_cons (pv 1) pa_nil)) pe_int) pa_nil))))
    (pss_cons (ps_set (i := 3) sc_law_changed.nd rfl (Or.inl rfl) (pe_call G_law_pick (hr.mono (by decide)) rfl T.g__law_pick T.k__law_pick b_law_pick .nil pass0 (pa_cons (pv 0) (pa_cons pe_str pa_nil))))
    (pss_cons (ps_par (i := 4) (j := 5) (by rfl) sc_law_changed.nd rfl rfl (by decide) rfl rfl (pa_cons (pe_slice sl_str (pv 1) po_none (po_some (pv 2))) (pa_cons (pe_slice sl_str (pv 1) (po_some (pe_op op_add (pv 2) pe_int)) po_none) pa_nil)) (by rfl))
    (pss_cons (ps_set (i := 6) sc_law_changed.nd rfl (Or.inl rfl) (pe_lst (pa_cons (pe_op op_add_str (pe_op op_add_str (pv 4) (pv 3)) (pe_slice sl_str (pv 1) (po_some (pv 2)) po_none)) (pa_cons (pe_op op_add_str (pv 4) (pv 5)) (pa_cons (pe_op op_add_str (pe_op op_add_str (pv 4) (pv 3)) (pv 5)) (pa_cons (pe_op op_add_str (pe_op op_add_str (pv 1) pe_str) (pv 1)) pa_nil))))))
    (pss_cons (ps_set (i := 7) sc_law_changed.nd rfl (Or.inl rfl) (pe_lst (pa_cons pe_str (pa_cons pe_str (pa_cons pe_str (pa_cons pe_str (pa_cons pe_str (pa_cons pe_str (pa_cons pe_str (pa_cons pe_str (pa_cons pe_str (pa_cons pe_str (pa_cons pe_str (pa_cons pe_str pa_nil))))))))))))))
    (pss_cons (ps_set (i := 8) sc_law_changed.nd rfl (Or.inl rfl) (pe_call G_law_pick (hr.mono (by decide)) rfl T.g__law_pick T.k__law_pick b_law_pick .nil pass0 (pa_cons (pv 0) (pa_cons (pv 7) pa_nil))))
    (pss_one (ps_ret (pe_call G_law_pick (hr.mono (by decide)) rfl T.g__law_pick T.k__law_pick b_law_pick .nil pass0 (pa_cons (pv 0) (pa_cons (pe_op op_cat (pv 6) (pe_lst (pa_cons (pe_op op_add_str (pe_op op_add_str (pv 1) pe_str) (pv 8)) (pa_cons (pe_op op_add_str (pe_op op_add_str (pv 8) pe_str) (pv 1)) pa_nil)))) pa_nil))))))))))), ?_⟩
    have hl := ht.ln
    have hzl : t.length ≤ sizeLine := szl (by omega)
    refine ⟨_, rfl, _, rfl, t, rfl, hzl, _, _, rfl, rfl, p, _, a, b, rfl, hf, by omega, by omega, fun at_ a1 b1 _ _ hf1 => ?_⟩
    refine ⟨_, rfl, .inr ⟨p, _, a1, b1, rfl, hf1, ⟨by decide +kernel, by decide +kernel⟩, by decide +kernel, fun sg a2 b2 hsg hf2 => ?_⟩⟩
    have hcl := cutS_length t none (some at_)
    have hcr := cutS_length t (some (at_ + 1)) none
    have hcm := cutS_length t (some at_) none
    have hs1 := hsg.ln
    have hnl : ("\n" : Str).length = 1 := by decide +kernel
    have hsp : (" " : Str).length = 1 := by decide +kernel
    have la : ∀ x y : Str, (x ++ y : Str).length = x.length + y.length := fun x y => PySem.Str.length_append x y
    refine ⟨_, rfl, _, rfl, at_, rfl, t, rfl, hzl, _, rfl, _, rfl, _, _, rfl, rfl, _, rfl, t, rfl, hzl, _, _, rfl, ?_⟩
    refine ⟨_, rfl, _, rfl, _, _, rfl, rfl, szl (by omega), _, rfl, _, rfl, at_, rfl, t, rfl, hzl, _, _, rfl, rfl, szl (by rw [la]; omega),
      _, rfl, _, rfl, _, _, rfl, rfl, szl (by omega),
      _, rfl, _, rfl, _, _, rfl, rfl, szl (by omega), _, rfl, _, _, rfl, rfl, szl (by rw [la]; omega),
      _, rfl, _, _, rfl, rfl, szl (by omega), _, rfl, _, _, rfl, rfl, szl (by rw [la]; omega), szl (show 4 ≤ 100000 by decide), fun l1 hl1 => ?_⟩
    refine ⟨szl (show 12 ≤ 100000 by decide), fun l2 hl2 => ?_⟩
    have nl1 : l1 ≠ p := (ne_of_none hf2.1 hl1).symm
    have hf3 := feed_new (o := .lst [V.str (cutS t none (some at_) ++ sg ++ cutS t (some at_) none), .str (cutS t none (some at_) ++ cutS t (some (at_ + 1)) none), .str (cutS t none (some at_) ++ sg ++ cutS t (some (at_ + 1)) none), .str (t ++ "\n" ++ t)]) hf2 hl1
    have nl2 : l2 ≠ p := (ne_of_none hf3.1 hl2).symm
    have nl12 : l1 ≠ l2 := ne_of_none upd_same hl2
    have hf4 := feed_new (o := .lst ((["const", "delay", "add", "0", "00", "4294967295", "4294967296", "-1", "", "sub", "5", "name"] : List Str).map V.str)) hf3 hl2
    refine ⟨_, rfl, _, rfl, .inl ⟨p, l2, (["const", "delay", "add", "0", "00", "4294967295", "4294967296", "-1", "", "sub", "5", "name"] : List Str).map V.str, _, _, rfl, hf4, SqL.of upd_same, nl2, by decide, by decide, fun v a5 b5 hv hf5 => ?_⟩⟩
    obtain ⟨wd, hwd, rfl⟩ := List.mem_map.mp hv
    have hw : OkT 10 wd := by
      have q := (show ∀ x ∈ (["const", "delay", "add", "0", "00", "4294967295", "4294967296", "-1", "", "sub", "5", "name"] : List Str), x.length ≤ 10 ∧ x.cps.toList.all (fun c => decide (c < 1114112)) = true by decide +kernel) wd hwd
      exact ⟨q.1, q.2⟩
    have hwl := hw.ln
    refine ⟨_, rfl, _, rfl, _, rfl, _, _, rfl, rfl, szl (by omega), _, rfl, _, _, rfl, rfl, szl (by rw [la]; omega), _, rfl, _, _, rfl, rfl, szl (by omega), _, rfl, _, _, rfl, rfl, szl (by rw [la]; omega), szl (show 2 ≤ 100000 by decide), fun l3 hl3 => ?_⟩
    have nl3 : l3 ≠ p := (ne_of_none hf5.1 hl3).symm
    have hf6 := feed_new (o := .lst [V.str (t ++ " " ++ wd), .str (wd ++ " " ++ t)]) hf5 hl3
    refine ⟨l1, l3, [V.str (cutS t none (some at_) ++ sg ++ cutS t (some at_) none), .str (cutS t none (some at_) ++ cutS t (some (at_ + 1)) none), .str (cutS t none (some at_) ++ sg ++ cutS t (some (at_ + 1)) none), .str (t ++ "\n" ++ t)], [V.str (t ++ " " ++ wd), .str (wd ++ " " ++ t)], rfl, rfl, ?_, upd_same, szl (show 6 ≤ 100000 by decide), fun l4 hl4 => ?_⟩
    · rw [upd_ne (fun e => by rw [← e] at hl3; rw [upd_ne nl1, upd_ne nl12, upd_same] at hl3; cases hl3), upd_ne nl1, upd_ne nl12, upd_same]
    have nl4 : l4 ≠ p := (ne_of_none hf6.1 hl4).symm
    have hf7 := feed_new (o := .lst [V.str (cutS t none (some at_) ++ sg ++ cutS t (some at_) none), .str (cutS t none (some at_) ++ cutS t (some (at_ + 1)) none), .str (cutS t none (some at_) ++ sg ++ cutS t (some (at_ + 1)) none), .str (t ++ "\n" ++ t), .str (t ++ " " ++ wd), .str (wd ++ " " ++ t)]) hf6 hl4
    refine .inl ⟨p, l4, _, _, _, rfl, hf7, SqL.of upd_same, nl4, by show 0 < 6; decide, by show 6 ≤ 1000; decide, fun v a8 b8 hv hf8 => ?_⟩
    have hx : SameX p H _ := sx_put (p := p) (o := .lst [V.int a8, .int b8]) (sx_new (o := .lst [V.str (cutS t none (some at_) ++ sg ++ cutS t (some at_) none), .str (cutS t none (some at_) ++ cutS t (some (at_ + 1)) none), .str (cutS t none (some at_) ++ sg ++ cutS t (some (at_ + 1)) none), .str (t ++ "\n" ++ t), .str (t ++ " " ++ wd), .str (wd ++ " " ++ t)])
      (sx_new (o := .lst [V.str (t ++ " " ++ wd), .str (wd ++ " " ++ t)]) (sx_put (o := .lst [V.int a5, .int b5]) (sx_new (o := .lst ((["const", "delay", "add", "0", "00", "4294967295", "4294967296", "-1", "", "sub", "5", "name"] : List Str).map V.str)) (sx_new (o := .lst [V.str (cutS t none (some at_) ++ sg ++ cutS t (some at_) none), .str (cutS t none (some at_) ++ cutS t (some (at_ + 1)) none), .str (cutS t none (some at_) ++ sg ++ cutS t (some (at_ + 1)) none), .str (t ++ "\n" ++ t)]) (sx_put (o := .lst [V.int a2, .int b2]) (sx_put (o := .lst [V.int a1, .int b1]) (sx_of (Same.refl H)))) hl1) hl2)) hl3) hl4)
    obtain ⟨tv, rfl, hvo⟩ : ∃ tv, v = V.str tv ∧ OkT (2 * n + 30) tv := by
      have o1 := okT_cut (lo := none) (hi := some at_) ht
      have o2 := okT_cut (lo := some (at_ + 1)) (hi := none) ht
      have o3 := okT_cut (lo := some at_) (hi := none) ht
      have onl : OkT 1 ("\n" : Str) := ⟨by decide +kernel, by decide +kernel⟩
      have osp : OkT 1 (" " : Str) := ⟨by decide +kernel, by decide +kernel⟩
      simp only [List.mem_append, List.mem_cons, List.not_mem_nil, or_false] at hv
      rcases hv with (rfl | rfl | rfl | rfl) | rfl | rfl
      · exact ⟨_, rfl, (okT_app (okT_app o1 hsg) o3).mono (by omega)⟩
      · exact ⟨_, rfl, (okT_app o1 o2).mono (by omega)⟩
      · exact ⟨_, rfl, (okT_app (okT_app o1 hsg) o2).mono (by omega)⟩
      · exact ⟨_, rfl, (okT_app (okT_app ht onl) ht).mono (by omega)⟩
      · exact ⟨_, rfl, (okT_app (okT_app ht osp) hw).mono (by omega)⟩
      · exact ⟨_, rfl, (okT_app (okT_app hw osp) ht).mono (by omega)⟩
    exact k tv _ a8 b8 hvo hx hf8
/-! ### law -/
theorem sc_law : FnScope ["script", "k", "feed", "number", "texts", "turn", "text", "again", "due"] ["script"] (defScope s_law) := ⟨rfl, rfl, rfl, by decide +kernel, rfl, by decide +kernel, by decide +kernel⟩
def spLaw (K : PySem.W.Frag) : Sp := fun vs H Q _ => ∃ (a : Addr) (ns : List Int), vs = [.ref a] ∧ SqL K H a (ns.map V.int) ∧ ns.length ≤ 63 ∧ ∀ H', Q (.bl true) H'
theorem ok_law {f : Addr} {fd fd1 fd2 fd3 fd4 fd5 fd6 : FuncData} (F : Fun K "law" "law" s_law f fd) (T : Txt K w mg ad)
    (G_law_feed : FnOk P w K mg base CX0 1 ad.f_law_feed fd1 ["script", "k"] (spFeed K)) (b_law_feed : Binds K fd1 ["script", "k"] [])
    (G_law_take : FnOk P w K mg base CX0 1 ad.f_law_take fd2 ["feed", "many"] spTake) (b_law_take : Binds K fd2 ["feed", "many"] [])
    (G_law_pick : FnOk P w K mg base CX0 2 ad.f_law_pick fd3 ["feed", "some"] (spPick2 K)) (b_law_pick : Binds K fd3 ["feed", "some"] [])
    (G_law_changed : FnOk P w K mg base CX0 3 ad.f_law_changed fd4 ["feed", "text"] spChg) (b_law_changed : Binds K fd4 ["feed", "text"] [])
    (G_law_is_primitive : FnOk P w K mg base CX0 2 ad.f_law_is_primitive fd5 ["text"] spIsPrim) (b_law_is_primitive : Binds K fd5 ["text"] [])
    (G_law_told : FnOk P w K mg base CX0 5 ad.f_law_told fd6 ["text"] (spTold K)) (b_law_told : Binds K fd6 ["text"] []) : FnG P w K mg base CX0 9 f fd ["script"] (spLaw K) := by
  refine Ly.Fun.okG F sc_law (fun vs H Q E h => ?_) (fun cdv A outer s H vs Q E hg hr h => ?_)
  · obtain ⟨a, ns, rfl, _⟩ := h
    rfl
  · obtain ⟨sa, ns, rfl, hS, hl, k⟩ := h
    refine ⟨_, (pss_cons (ps_for PassesOwn.never rfl (pi_range1 (by rfl) T.n_range (pa_cons (pe_callB (call_max2 rfl) (by rfl) T.n_max (by decide +kernel) (pa_cons pe_int (pa_cons (pe_callB (call_min2 rfl) (by rfl) T.n_min (by decide +kernel) (pa_cons pe_int (pa_cons (pe_callB (call_lenK K) (by rfl) T.n_len (by decide +kernel) (pa_cons (pv 0) pa_nil)) pa_nil))) pa_nil))) pa_nil)) (pg_name (i := 1) sc_law.nd rfl (Or.inl rfl))
    (pss_cons (ps_set (i := 2) sc_law.nd rfl (Or.inl rfl) (pe_call G_law_feed (hr.mono (by decide)) rfl T.g__law_feed T.k__law_feed b_law_feed .nil pass0 (pa_cons (pv 0) (pa_cons (pv 1) pa_nil))))
    (pss_cons (ps_set (i := 3) sc_law.nd rfl (Or.inl rfl) (pe_call G_law_pick (hr.mono (by decide)) rfl T.g__law_pick T.k__law_pick b_law_pick .nil pass0 (pa_cons (pv 2) (pa_cons (pe_lst (pa_cons pe_int (pa_cons pe_int (pa_cons pe_int (pa_cons pe_int (pa_cons pe_int (pa_cons (pe_call G_law_take (hr.mono (by decide)) rfl T.g__law_take T.k__law_take b_law_take .nil pass0 (pa_cons (pv 2) (pa_cons (pe_op op_pow pe_int pe_int) pa_nil))) pa_nil))))))) pa_nil))))
    (pss_cons (ps_set (i := 4) sc_law.nd rfl (Or.inl rfl) (pe_lst (pa_cons (pe_op op_add_str pe_str (pe_callTy call_str_int (by rfl) T.n_str (by decide +kernel) (pa_cons (pv 3) pa_nil))) (pa_cons (pe_op op_add_str pe_str (pe_callTy call_str_int (by rfl) T.n_str (by decide +kernel) (pa_cons (pv 3) pa_nil))) (pa_cons pe_str (pa_cons pe_str (pa_cons pe_str (pa_cons pe_str (pa_cons pe_str pa_nil)))))))))
    (pss_cons (ps_set (i := 4) sc_law.nd rfl (Or.inl rfl) (pe_op op_cat (pv 4) (pe_lst (pa_cons pe_str (pa_cons pe_str (pa_cons pe_str (pa_cons pe_str (pa_cons pe_str (pa_cons pe_str (pa_cons pe_str (pa_cons pe_str (pa_cons pe_str pa_nil))))))))))))
    (pss_cons (ps_set (i := 4) sc_law.nd rfl (Or.inl rfl) (pe_op op_cat (pv 4) (pe_lst (pa_cons (pe_op op_add_str pe_str (pe_op op_mulStr pe_str pe_int)) (pa_cons (pe_op op_mulStr pe_str pe_int) (pa_cons pe_str (pa_cons pe_str pa_nil)))))))
    (pss_cons (ps_set (i := 4) sc_law.nd rfl (Or.inl rfl) (pe_op op_cat (pv 4) (pe_lst (pa_cons pe_str (pa_cons pe_str (pa_cons pe_str (pa_cons pe_str pa_nil)))))))
    (pss_cons (ps_for PassesOwn.never rfl (pi_range1 (by rfl) T.n_range (pa_cons pe_int pa_nil)) (pg_name (i := 5) sc_law.nd rfl (Or.inl rfl))
    (pss_cons (ps_set (i := 6) sc_law.nd rfl (Or.inl rfl) (pe_call G_law_pick (hr.mono (by decide)) rfl T.g__law_pick T.k__law_pick b_law_pick .nil pass0 (pa_cons (pv 2) (pa_cons (pe_slice (sl_listK K) (pv 4) po_none (po_some pe_int)) pa_nil))))
    (pss_cons (ps_for PassesOwn.never rfl (pi_range1 (by rfl) T.n_range (pa_cons (pe_call G_law_pick (hr.mono (by decide)) rfl T.g__law_pick T.k__law_pick b_law_pick .nil pass0 (pa_cons (pv 2) (pa_cons (pe_lst (pa_cons pe_int (pa_cons pe_int (pa_cons pe_int (pa_cons pe_int pa_nil))))) pa_nil))) pa_nil)) (pg_name (i := 7) sc_law.nd rfl (Or.inl rfl))
    (pss_one (ps_set (i := 6) sc_law.nd rfl (Or.inl rfl) (pe_call G_law_changed (hr.mono (by decide)) rfl T.g__law_changed T.k__law_changed b_law_changed .nil pass0 (pa_cons (pv 2) (pa_cons (pv 6) pa_nil))))))
    (pss_one (ps_expr (pe_bm PySem.F.plainAttrs_list PySem.F.slot_list_append PySem.F.type_list_append mt_append (pv 4) (pa_cons (pv 6) pa_nil)))))))
    (pss_one (ps_for PassesOwn.never rfl (pi_listK K (pv 4)) (pg_name (i := 6) sc_law.nd rfl (Or.inl rfl))
    (pss_cons (ps_set (i := 8) sc_law.nd rfl (Or.inl rfl) (pe_ifExp (pt_val (pe_call G_law_is_primitive (hr.mono (by decide)) rfl T.g__law_is_primitive T.k__law_is_primitive b_law_is_primitive .nil pass0 (pa_cons (pv 6) pa_nil))) (pv 6) pe_int))
    (pss_one (ps_if (pt_cmpR op_ne (pe_callB (call_reprV K hg hr.units) (by rfl) T.n_repr (by decide +kernel) (pa_cons (pe_call G_law_told (hr.mono (by decide)) rfl T.g__law_told T.k__law_told b_law_told .nil pass0 (pa_cons (pv 6) pa_nil)) pa_nil)) (pe_callB (call_reprV K hg hr.units) (by rfl) T.n_repr (by decide +kernel) (pa_cons (pv 8) pa_nil)) (nomark _)) (pss_one (ps_ret pe_bl)) pss_nil)))))))))))))
    (pss_one (ps_ret pe_bl))), ?_⟩
    refine ⟨_, rfl, sa, _, rfl, .inl hS, _, _, rfl, _, _, rfl, ?_⟩
    have hlen : (ns.map V.int).length ≤ 63 := by rw [List.length_map]; exact hl
    generalize hm : (if (if ((ns.map V.int).length : Int) < 5 then ((ns.map V.int).length : Int) else 5) > 2 then (if ((ns.map V.int).length : Int) < 5 then ((ns.map V.int).length : Int) else 5) else 2) = m
    have hm6 : 2 ≤ m ∧ m ≤ 5 := by
      rw [← hm]
      split <;> (try split) <;> omega
    refine ⟨m, rfl, by omega, by omega, for_range (lo := 0) (n := m.toNat) (fun i σ H' => Same H H' ∧ ∃ x1 x2 x3 x4 x5 x6 x7 x8 : Option V, σ = [some (.ref sa), x1, x2, x3, x4, x5, x6, x7, x8]) ⟨Same.refl _, none, none, none, none, none, none, none, none, rfl⟩ ?_ ?_⟩
    · rintro i σ H1 hi ⟨s1, x1, x2, x3, x4, x5, x6, x7, x8, rfl⟩
      refine ⟨_, rfl, _, rfl, sa, ns, i, by simp, s1.seq hS, by omega, fun p a b hp hf => ?_⟩
      have hpH : H p = none := s1.free hp
      have s2 : Same H (upd H1 p (.lst [.int a, .int b])) := same_mut s1 hpH
      -- number
      dsimp only [gName]
      refine asg (fun v H' => ∃ z, v = .int z ∧ 0 ≤ z ∧ z < 10 ^ 10 ∧ Same H H' ∧ ∃ a b, FeedAt H' p a b) (fun Q' q => ?_) ?_
      · refine ⟨_, rfl, _, rfl, _, _, rfl, rfl, ⟨by decide, by decide, by decide⟩, p, _, a, b, rfl, hf, by decide, by decide, fun d1 a1 b1 h1 h1' hf1 => ⟨szl (show 6 ≤ 100000 by decide), fun l hl => ?_⟩⟩
        have nl : l ≠ p := (ne_of_none hf1.1 hl).symm
        refine .inl ⟨p, l, _, a1, b1, rfl, feed_new hf1 hl, SqL.of upd_same, nl, by show 0 < 6; decide, by show 6 ≤ 1000; decide, fun v a2 b2 hv hf2 => ?_⟩
        have s3 : Same H _ := same_mut (o := .lst [V.int a2, .int b2]) ((same_mut (o := .lst [V.int a1, .int b1]) s2 hpH).trans (same_new (o := .lst [V.int 0, .int 7, .int 4294967295, .int 4294967296, .int 5000000000, .int d1]) hl)) hpH
        have h1'' : d1 < 8589934592 := h1'
        simp only [List.mem_cons, List.not_mem_nil, or_false] at hv
        rcases hv with rfl | rfl | rfl | rfl | rfl | rfl
        all_goals first | exact q _ _ ⟨_, rfl, h1, by omega, s3, _, _, hf2⟩ | exact q _ _ ⟨_, rfl, by decide, by decide, s3, _, _, hf2⟩
      rintro _ H2 ⟨nu, rfl, nu0, nu1, s3, a2, b2, hf2⟩
      have hnO := okT_num nu0 nu1
      have hnl := hnO.ln
      have hlog : nu.natAbs.log2 < 1920 := by
        by_cases z : nu.natAbs = 0
        · rw [z]; decide
        · have : nu.natAbs.log2 < 34 := (Nat.log2_lt z).mpr (by omega)
          omega
      have h6 : ("const " : Str).length = 6 ∧ ("delay " : Str).length = 6 := by decide +kernel
      -- texts
      dsimp only [gName]
      refine asg (fun v H' => ∃ t ts, v = .ref t ∧ Same H2 H' ∧ H' t = some (.lst ts) ∧ H2 t = none ∧ ts = [V.str ("const " ++ Str.ofString (toString nu)), .str ("delay " ++ Str.ofString (toString nu)), .str "add", .str "sub", .str "mul", .str "less", .str "equal"]) (fun Q' q => ?_) ?_
      · exact ⟨_, rfl, nu, rfl, hlog, _, _, rfl, rfl, szl (by omega), _, rfl, nu, rfl, hlog, _, _, rfl, rfl, szl (by omega), szl (show 7 ≤ 100000 by decide), fun t ht => q _ _ ⟨t, _, rfl, same_new ht, upd_same, ht, rfl⟩⟩
      rintro _ H3 ⟨t, ts, rfl, s4, htx, _, rfl⟩
      dsimp only [gName]
      refine asg (fun v H' => ∃ t ts, v = .ref t ∧ Same H2 H' ∧ H' t = some (.lst ts) ∧ TsOk ts 16) (fun Q' q => ?_) ?_
      · refine ⟨_, rfl, szl (show 9 ≤ 100000 by decide), fun l hl => ⟨t, l, [V.str ("const " ++ Str.ofString (toString nu)), .str ("delay " ++ Str.ofString (toString nu)), .str "add", .str "sub", .str "mul", .str "less", .str "equal"], (["pick", "divide", "const", "delay", "", " ", "name", "const 1e3", "end"] : List Str).map V.str, rfl, rfl, by rw [upd_ne (ne_of_none htx hl)]; exact htx, upd_same, szl (show 16 ≤ 100000 by decide), fun t2 ht2 => q _ _ ⟨t2, _, rfl, (s4.trans (same_new hl)).trans (same_new ht2), upd_same, ts_first (fun v hv => ?_) rfl⟩⟩⟩
        rcases List.mem_append.mp hv with q | q
        · have oc : OkT 6 ("const " : Str) := ⟨by decide +kernel, by decide +kernel⟩
          have od : OkT 6 ("delay " : Str) := ⟨by decide +kernel, by decide +kernel⟩
          have o5 := okL (n := 20) (l := ["add", "sub", "mul", "less", "equal"]) (by decide +kernel)
          rcases List.mem_cons.mp q with rfl | q
          · exact ⟨_, rfl, (okT_app oc hnO).mono (by decide)⟩
          rcases List.mem_cons.mp q with rfl | q
          · exact ⟨_, rfl, (okT_app od hnO).mono (by decide)⟩
          exact o5 v q
        · exact okL (n := 20) (l := (["pick", "divide", "const", "delay", "", " ", "name", "const 1e3", "end"] : List Str)) (by decide +kernel) v q
      rintro _ H3 ⟨t, ts, rfl, s4, htx, RT⟩
      dsimp only [gName]
      refine asg (fun v H' => ∃ t ts, v = .ref t ∧ Same H2 H' ∧ H' t = some (.lst ts) ∧ TsOk ts 20) (fun Q' q => ?_) ?_
      · have l1 : ("const 1" : Str).length = 7 := by decide +kernel
        have o1 : OkT 1 ("0" : Str) := ⟨by decide +kernel, by decide +kernel⟩
        have o3 : OkT 3 ("add" : Str) := ⟨by decide +kernel, by decide +kernel⟩
        have o7 : OkT 7 ("const 1" : Str) := ⟨by decide +kernel, by decide +kernel⟩
        have m1 : OkT 5000 (Txt.mul "0" 5000) := okT_mul (k := 5000) o1 (by decide) (by decide)
        have m2 : OkT 3000 (Txt.mul "add" 999) := okT_mul (k := 999) o3 (by decide) (by decide)
        refine ⟨_, rfl, "0", 5000, rfl, rfl, mulOk1, _, _, rfl, rfl, szl (by have := m1.ln; omega), "add", 999, rfl, rfl, mulOk2, szl (show 4 ≤ 100000 by decide), fun l hl => ⟨t, l, ts, [V.str ("const 1" ++ Txt.mul "0" 5000), .str (Txt.mul "add" 999), .str "const 0123456789", .str "delay 0000000001"], rfl, rfl, by rw [upd_ne (ne_of_none htx hl)]; exact htx, upd_same, szl (by rw [RT.len]; decide), fun t2 ht2 => q _ _ ⟨t2, _, rfl, (s4.trans (same_new hl)).trans (same_new ht2), upd_same, RT.app (by decide) rfl (fun v hv => ?_)⟩⟩⟩
        rcases List.mem_cons.mp hv with rfl | hv
        · exact ⟨_, rfl, (okT_app o7 m1).mono (by decide)⟩
        rcases List.mem_cons.mp hv with rfl | hv
        · exact ⟨_, rfl, m2.mono (by decide)⟩
        exact okL (n := 6000) (l := ["const 0123456789", "delay 0000000001"]) (by decide +kernel) v hv
      rintro _ H3 ⟨t, ts, rfl, s4, htx, RT⟩
      dsimp only [gName]
      refine asg (fun v H' => ∃ t ts, v = .ref t ∧ Same H2 H' ∧ H' t = some (.lst ts) ∧ TsOk ts 24 ∧ H t = none ∧ t ≠ p) (fun Q' q => ?_) ?_
      · refine ⟨_, rfl, szl (show 4 ≤ 100000 by decide), fun l hl => ⟨t, l, ts, (["const 0000000000", "delay 4294967295", "const 04294967295", "const 9999999999"] : List Str).map V.str, rfl, rfl, by rw [upd_ne (ne_of_none htx hl)]; exact htx, upd_same, szl (by rw [RT.len]; decide), fun t2 ht2 => ?_⟩⟩
        have s5 := s4.trans (same_new (o := .lst ((["const 0000000000", "delay 4294967295", "const 04294967295", "const 9999999999"] : List Str).map V.str)) hl)
        exact q _ _ ⟨t2, _, rfl, s5.trans (same_new ht2), upd_same, RT.app (by decide) rfl (okL (n := 6000) (by decide +kernel)), (s3.trans s5).free ht2, (ne_of_none (s5 _ _ hf2.1) ht2).symm⟩
      rintro _ H3 ⟨t, ts, rfl, s4, htx, RT, htH, ntp⟩
      refine ⟨24, rfl, by decide, by decide, for_range (lo := 0) (n := 24) (fun j σ H' => Same H H' ∧ (∃ a b, FeedAt H' p a b) ∧ (∃ ts, H' t = some (.lst ts) ∧ TsOk ts (24 + j)) ∧ ∃ x5 x6 x7 x8 : Option V, σ = [some (.ref sa), some (.int (0 + (i : Nat))), some (.ref p), some (.int nu), some (.ref t), x5, x6, x7, x8]) ⟨s3.trans s4, ⟨a2, b2, feed_same s4 hf2⟩, ⟨ts, htx, RT⟩, x5, x6, x7, x8, rfl⟩ ?_ ?_⟩
      · rintro j σ H4 hj ⟨s5, ⟨a5, b5, hf5⟩, ⟨ts, ht, RT⟩, y5, y6, y7, y8, rfl⟩
        dsimp only [gName]
        refine asg (fun v H' => ∃ z, v = .str z ∧ OkT 20 z ∧ Same H H' ∧ (∃ a b, FeedAt H' p a b) ∧ H' t = some (.lst ts)) (fun Q' q => ?_) ?_
        · refine ⟨_, rfl, _, rfl, 9, rfl, t, ts, rfl, SqL.of ht, fun l hl => ?_⟩
          have nl : l ≠ p := (ne_of_none hf5.1 hl).symm
          have hc : cutV ts none (some 9) = ts.take 9 := cut9 (by rw [RT.len]; omega)
          have hcl : (ts.take 9).length = 9 := by rw [List.length_take, RT.len]; omega
          rw [hc]
          refine .inl ⟨p, l, _, a5, b5, rfl, feed_new hf5 hl, SqL.of upd_same, nl, by rw [hcl]; decide, by rw [hcl]; decide, fun v a6 b6 hv hf6 => ?_⟩
          obtain ⟨z, rfl, hz⟩ := RT.nine v hv
          refine q _ _ ⟨z, rfl, hz, same_mut (s5.trans (same_new hl)) hpH, ⟨a6, b6, hf6⟩, ?_⟩
          rw [upd_ne ntp, upd_ne (ne_of_none ht hl)]
          exact ht
        rintro _ H5 ⟨z, rfl, hz, s6, ⟨a6, b6, hf6⟩, ht⟩
        refine ⟨_, rfl, szl (show 4 ≤ 100000 by decide), fun l hl => .inl ⟨p, l, _, a6, b6, rfl, feed_new hf6 hl, SqL.of upd_same, (ne_of_none hf6.1 hl).symm, by show 0 < 4; decide, by show 4 ≤ 1000; decide, fun v a7 b7 hv hf7 => ?_⟩⟩
        obtain ⟨m3, rfl, hm3⟩ : ∃ m3 : Nat, v = .int m3 ∧ m3 ≤ 3 := by
          simp only [List.mem_cons, List.not_mem_nil, or_false] at hv
          rcases hv with rfl | rfl | rfl | rfl
          · exact ⟨1, rfl, by decide⟩
          · exact ⟨1, rfl, by decide⟩
          · exact ⟨2, rfl, by decide⟩
          · exact ⟨3, rfl, by decide⟩
        have s7 := same_mut (o := .lst [V.int a7, .int b7]) (s6.trans (same_new (o := .lst [V.int 1, .int 1, .int 2, .int 3]) hl)) hpH
        have ht7 : upd (upd H5 l (.lst [V.int 1, .int 1, .int 2, .int 3])) p (.lst [V.int a7, .int b7]) t = some (.lst ts) := by
          rw [upd_ne ntp, upd_ne (ne_of_none ht hl)]
          exact ht
        refine ⟨m3, rfl, by omega, by omega, for_range (lo := 0) (n := ((m3 : Nat) : Int).toNat) (fun i' σ H' => Same H H' ∧ (∃ a b, FeedAt H' p a b) ∧ H' t = some (.lst ts) ∧ ∃ (z : Str) (x7 : Option V), OkT (50 * 2 ^ i' - 30) z ∧ σ = [some (.ref sa), some (.int (0 + (i : Nat))), some (.ref p), some (.int nu), some (.ref t), some (.int (0 + (j : Nat))), some (.str z), x7, y8]) ⟨s7, ⟨a7, b7, hf7⟩, ht7, z, y7, hz, rfl⟩ ?_ ?_⟩
        · rintro i' σ H6 hi' ⟨s8, ⟨a8, b8, hf8⟩, ht8, z, x7, hz, rfl⟩
          have hp2 : 2 ^ i' ≤ 2 ^ 3 := Nat.pow_le_pow_right (by decide) (by omega)
          have hp3 : 1 ≤ 2 ^ i' := Nat.one_le_two_pow
          have hp4 : 2 ^ (i' + 1) = 2 ^ i' * 2 := Nat.pow_succ ..
          refine ⟨_, rfl, _, rfl, p, z, _, a8, b8, rfl, hz, by omega, hf8, fun t' H7 a9 b9 ht' sx hf9 => ?_⟩
          exact ⟨same_sx s8 sx hpH, ⟨a9, b9, hf9⟩, sx _ _ ntp ht8, t', _, ht'.mono (by omega), rfl⟩
        · rintro σ H6 ⟨s8, hf8, ht8, z, x7, hz, rfl⟩
          have hp2 : 2 ^ ((m3 : Nat) : Int).toNat ≤ 2 ^ 3 := Nat.pow_le_pow_right (by decide) (by omega)
          refine ⟨_, rfl, .inl ⟨rfl, ts, SqL.of ht8⟩, _, rfl, t, ts, .str z, rfl, rfl, ht8, szt (by rw [RT.len]; omega), ?_⟩
          have ntp' := ntp
          refine ⟨same_mut s8 htH, ?_, ⟨_, upd_same, ?_⟩, _, _, _, _, rfl⟩
          · obtain ⟨a8, b8, hf8⟩ := hf8
            exact ⟨a8, b8, by rw [upd_ne (Ne.symm ntp)]; exact hf8.1, hf8.2⟩
          · exact RT.app (m := 1) (by omega) rfl fun v hv => by
              rw [List.mem_singleton.mp hv]
              exact ⟨z, rfl, hz.mono (by omega)⟩
      · rintro σ H4 ⟨s5, _, ⟨ts, ht, RT⟩, y5, y6, y7, y8, rfl⟩
        refine ⟨_, rfl, t, rfl, ⟨_, SqL.of ht⟩, for_list (K := K) (a := t) (xs := ts) (fun j σ H' => Same H4 H' ∧ ∃ x6 x7 x8 : Option V, σ = [some (.ref sa), some (.int (0 + (i : Nat))), some (.ref p), some (.int nu), some (.ref t), y5, x6, x7, x8]) ⟨Same.refl _, y6, y7, y8, rfl⟩ (fun i' σ H' _ h => SqL.of (h.1 _ _ ht)) ?_ ?_⟩
        · rintro j x σ H5 hx ⟨s6, w6, w7, w8, rfl⟩
          obtain ⟨z, rfl, hz⟩ := RT.all x (List.mem_of_getElem? hx)
          have hzl := hz.ln
          refine ⟨_, rfl, z, rfl, hz.mono (by decide), fun H6 s7 => ⟨_, rfl, ?_⟩⟩
          cases hp : (primOf z).isSome with
          | true =>
            refine iteT ⟨_, rfl, ?_⟩
            refine ⟨_, rfl, z, rfl, by omega, fun H7 s8 => ?_⟩
            rw [hp]
            have hrp := rep_okT (m := 0) (w := 6000) hz (Nat.le_refl _)
            refine ⟨.str z, .str z, rfl, .str z, hrp.sh, hrp.nd, Nat.le_trans hrp.dp (by decide), hrp.short (by decide), ?_⟩
            refine ⟨_, rfl, .str z, .str z, rfl, .str z, hrp.sh, hrp.nd, Nat.le_trans hrp.dp (by decide), hrp.short (by decide), ?_⟩
            refine ⟨rfl, _, rfl, iteNF rfl ?_⟩
            exact ⟨s6.trans (s7.trans s8), _, _, _, rfl⟩
          | false =>
            refine iteF ?_
            refine ⟨_, rfl, z, rfl, by omega, fun H7 s8 => ?_⟩
            rw [hp]
            have hrp := rep_int (n := 0) (w := 40) (i := 0) (by decide) (by decide)
            refine ⟨.int 0, .int 0, rfl, .int 0, hrp.sh, hrp.nd, Nat.le_trans hrp.dp (by decide), hrp.short (by decide), ?_⟩
            refine ⟨_, rfl, .int 0, .int 0, rfl, .int 0, hrp.sh, hrp.nd, Nat.le_trans hrp.dp (by decide), hrp.short (by decide), ?_⟩
            refine ⟨rfl, _, rfl, iteNF rfl ?_⟩
            exact ⟨s6.trans (s7.trans s8), _, _, _, rfl⟩
        · rintro σ H5 ⟨s6, w6, w7, w8, rfl⟩
          exact ⟨s5.trans s6, _, _, _, _, _, _, _, _, rfl⟩
    · rintro σ H1 ⟨_, _⟩
      exact k _

end
theorem all_mk {l : PySem.W.OpenLaw} {w : World} {K : PySem.W.Frag} {h : Heap} {mg : Str → Option Value} {fa : Addr} (X : K.In h) (G : h.Ns mainGlobals mg) (hfa : mg "law" = some (.ref fa))
    {t_MODULUS : Tok}
    {t_DIGITS : Tok}
    {f_law_feed : Addr}
    {od_law_feed an_law_feed : Option Addr} {sl_law_feed : Array (Option Value)} {oc_law_feed kV_law_feed dc_law_feed pm_law_feed cd_law_feed ct_law_feed : Value}
    {f_law_take : Addr}
    {od_law_take an_law_take : Option Addr} {sl_law_take : Array (Option Value)} {oc_law_take kV_law_take dc_law_take pm_law_take cd_law_take ct_law_take : Value}
    {f_law_pick : Addr}
    {od_law_pick an_law_pick : Option Addr} {sl_law_pick : Array (Option Value)} {oc_law_pick kV_law_pick dc_law_pick pm_law_pick cd_law_pick ct_law_pick : Value}
    {f_law_is_number : Addr}
    {od_law_is_number an_law_is_number : Option Addr} {sl_law_is_number : Array (Option Value)} {oc_law_is_number kV_law_is_number dc_law_is_number pm_law_is_number cd_law_is_number ct_law_is_number : Value}
    {f_law_is_primitive : Addr}
    {od_law_is_primitive an_law_is_primitive : Option Addr} {sl_law_is_primitive : Array (Option Value)} {oc_law_is_primitive kV_law_is_primitive dc_law_is_primitive pm_law_is_primitive cd_law_is_primitive ct_law_is_primitive : Value}
    {f_law_told : Addr}
    {od_law_told an_law_told : Option Addr} {sl_law_told : Array (Option Value)} {oc_law_told kV_law_told dc_law_told pm_law_told cd_law_told ct_law_told : Value}
    {f_law_changed : Addr}
    {od_law_changed an_law_changed : Option Addr} {sl_law_changed : Array (Option Value)} {oc_law_changed kV_law_changed dc_law_changed pm_law_changed cd_law_changed ct_law_changed : Value}
    {f_law : Addr}
    {od_law an_law : Option Addr} {sl_law : Array (Option Value)} {oc_law kV_law dc_law pm_law cd_law ct_law : Value}
    {f_is_primitive_text : Addr}
    {od_is_primitive_text an_is_primitive_text : Option Addr} {sl_is_primitive_text : Array (Option Value)} {oc_is_primitive_text kV_is_primitive_text dc_is_primitive_text pm_is_primitive_text cd_is_primitive_text ct_is_primitive_text : Value}
    {f_number_of : Addr}
    {od_number_of an_number_of : Option Addr} {sl_number_of : Array (Option Value)} {oc_number_of kV_number_of dc_number_of pm_number_of cd_number_of ct_number_of : Value}
    {d_PORTS : Addr} {es_PORTS : Array DictEntry} {en_PORTS : Nat}
    {pt0 pi0 po0 : Addr} {pc0 pd0 pe0 : Option Addr} {pn0 pm_0 pq0 : Nat} {psl0 psm0 psn0 : Array (Option Value)}  {to0_0 : Tok}
    {pt1 pi1 po1 : Addr} {pc1 pd1 pe1 : Option Addr} {pn1 pm_1 pq1 : Nat} {psl1 psm1 psn1 : Array (Option Value)} {ti1_0 : Tok} {ti1_1 : Tok} {to1_0 : Tok}
    {pt2 pi2 po2 : Addr} {pc2 pd2 pe2 : Option Addr} {pn2 pm_2 pq2 : Nat} {psl2 psm2 psn2 : Array (Option Value)} {ti2_0 : Tok} {ti2_1 : Tok} {to2_0 : Tok}
    {pt3 pi3 po3 : Addr} {pc3 pd3 pe3 : Option Addr} {pn3 pm_3 pq3 : Nat} {psl3 psm3 psn3 : Array (Option Value)} {ti3_0 : Tok} {ti3_1 : Tok} {to3_0 : Tok}
    {pt4 pi4 po4 : Addr} {pc4 pd4 pe4 : Option Addr} {pn4 pm_4 pq4 : Nat} {psl4 psm4 psn4 : Array (Option Value)} {ti4_0 : Tok} {ti4_1 : Tok} {to4_0 : Tok}
    {pt5 pi5 po5 : Addr} {pc5 pd5 pe5 : Option Addr} {pn5 pm_5 pq5 : Nat} {psl5 psm5 psn5 : Array (Option Value)} {ti5_0 : Tok} {ti5_1 : Tok} {to5_0 : Tok}
    {pt6 pi6 po6 : Addr} {pc6 pd6 pe6 : Option Addr} {pn6 pm_6 pq6 : Nat} {psl6 psm6 psn6 : Array (Option Value)} {ti6_0 : Tok} {ti6_1 : Tok} {ti6_2 : Tok} {to6_0 : Tok}
    {pt7 pi7 po7 : Addr} {pc7 pd7 pe7 : Option Addr} {pn7 pm_7 pq7 : Nat} {psl7 psm7 psn7 : Array (Option Value)} {ti7_0 : Tok} {ti7_1 : Tok} {to7_0 : Tok} {to7_1 : Tok}
    {pt8 pi8 po8 : Addr} {pc8 pd8 pe8 : Option Addr} {pn8 pm_8 pq8 : Nat} {psl8 psm8 psn8 : Array (Option Value)} {ti8_0 : Tok} {to8_0 : Tok}
    {kt0 kt1 kt2 kt3 kt4 kt5 kt6 kt7 kt8 : Tok}
    {C_Primitive : Addr}
    {f_Block_init : Addr}
    {od_Block_init an_Block_init : Option Addr} {sl_Block_init : Array (Option Value)} {oc_Block_init kV_Block_init dc_Block_init pm_Block_init cd_Block_init ct_Block_init : Value}
    {f_Primitive_init cda_Primitive cc_Primitive : Addr} {od_Primitive_init an_Primitive_init : Option Addr} {sl_Primitive_init : Array (Option Value)} {oc_Primitive_init kV_Primitive_init dc_Primitive_init pm_Primitive_init ct_Primitive_init : Value} {cdC_Primitive : ClassData} {ccl_Primitive ccv_Primitive : Value} {cdd_Primitive cvd_Primitive : Option Addr} {cvs_Primitive : Array Value} {ccs_Primitive csl_Primitive : Array (Option Value)} {file_Primitive : Str} {tf_Primitive : Tok}
    {f_Primitive_str : Addr}
    {od_Primitive_str an_Primitive_str : Option Addr} {sl_Primitive_str : Array (Option Value)} {oc_Primitive_str kV_Primitive_str dc_Primitive_str pm_Primitive_str cd_Primitive_str ct_Primitive_str : Value}
    {p_Primitive_parse : Addr} {rest_Primitive_parse : List Value}
    {f_Primitive_parse : Addr}
    {od_Primitive_parse an_Primitive_parse : Option Addr} {sl_Primitive_parse : Array (Option Value)} {oc_Primitive_parse kV_Primitive_parse dc_Primitive_parse pm_Primitive_parse cd_Primitive_parse ct_Primitive_parse : Value}
    {C_InvalidText : Addr}
    {C_BlockError : Addr}
    {nm_InvalidText q_InvalidText : Str} {N_InvalidText : Addr} {bs_InvalidText : List Value} {sn_InvalidText : List Str} {sub_InvalidText : List Value} {ab_InvalidText : Bool} {col_InvalidText : Option Bool} {dd_InvalidText : Option Addr} {m0_InvalidText m1_InvalidText m2_InvalidText m3_InvalidText m5_InvalidText : Option Value} {cd_InvalidText : ClassData}
    {f_InvalidText_init : Addr}
    {od_InvalidText_init an_InvalidText_init : Option Addr} {sl_InvalidText_init : Array (Option Value)} {oc_InvalidText_init kV_InvalidText_init dc_InvalidText_init pm_InvalidText_init cd_InvalidText_init ct_InvalidText_init : Value}
    {cdb_InvalidText : ClassData}
    (z_len : PySem.W.nsIn K mainGlobals "len" = some none)
    (z_abs : PySem.W.nsIn K mainGlobals "abs" = some none)
    (z_max : PySem.W.nsIn K mainGlobals "max" = some none)
    (z_min : PySem.W.nsIn K mainGlobals "min" = some none)
    (z_range : PySem.W.nsIn K mainGlobals "range" = some none)
    (z_isinstance : PySem.W.nsIn K mainGlobals "isinstance" = some none)
    (z_int : PySem.W.nsIn K mainGlobals "int" = some none)
    (z_str : PySem.W.nsIn K mainGlobals "str" = some none)
    (z_tuple : PySem.W.nsIn K mainGlobals "tuple" = some none)
    (z_all : PySem.W.nsIn K mainGlobals "all" = some none)
    (z_repr : PySem.W.nsIn K mainGlobals "repr" = some none)
    (z_ValueError : PySem.W.nsIn K mainGlobals "ValueError" = some none)
    (a_MODULUS : PySem.W.nsIn K mainGlobals "MODULUS" = some (some (.int 4294967296 t_MODULUS)))
    (a_DIGITS : PySem.W.nsIn K mainGlobals "DIGITS" = some (some (.str "0123456789" t_DIGITS)))
    (a_law_feed : PySem.W.nsIn K mainGlobals "_law_feed" = some (some (.ref f_law_feed)))
    (l_law_feed : K.lookup f_law_feed = some ⟨oc_law_feed, od_law_feed, .func (PySem.W.fnOf "_law_feed" "_law_feed" (defArgs s_law_feed) (defBody s_law_feed) (defScope s_law_feed) .none kV_law_feed dc_law_feed pm_law_feed an_law_feed cd_law_feed ct_law_feed), sl_law_feed⟩)
    (c_law_feed : PySem.W.codeIn K cd_law_feed "_law_feed" = true)
    (k_law_feed : PySem.W.keepIn K (.ref f_law_feed) = true)
    (a_law_take : PySem.W.nsIn K mainGlobals "_law_take" = some (some (.ref f_law_take)))
    (l_law_take : K.lookup f_law_take = some ⟨oc_law_take, od_law_take, .func (PySem.W.fnOf "_law_take" "_law_take" (defArgs s_law_take) (defBody s_law_take) (defScope s_law_take) .none kV_law_take dc_law_take pm_law_take an_law_take cd_law_take ct_law_take), sl_law_take⟩)
    (c_law_take : PySem.W.codeIn K cd_law_take "_law_take" = true)
    (k_law_take : PySem.W.keepIn K (.ref f_law_take) = true)
    (a_law_pick : PySem.W.nsIn K mainGlobals "_law_pick" = some (some (.ref f_law_pick)))
    (l_law_pick : K.lookup f_law_pick = some ⟨oc_law_pick, od_law_pick, .func (PySem.W.fnOf "_law_pick" "_law_pick" (defArgs s_law_pick) (defBody s_law_pick) (defScope s_law_pick) .none kV_law_pick dc_law_pick pm_law_pick an_law_pick cd_law_pick ct_law_pick), sl_law_pick⟩)
    (c_law_pick : PySem.W.codeIn K cd_law_pick "_law_pick" = true)
    (k_law_pick : PySem.W.keepIn K (.ref f_law_pick) = true)
    (a_law_is_number : PySem.W.nsIn K mainGlobals "_law_is_number" = some (some (.ref f_law_is_number)))
    (l_law_is_number : K.lookup f_law_is_number = some ⟨oc_law_is_number, od_law_is_number, .func (PySem.W.fnOf "_law_is_number" "_law_is_number" (defArgs s_law_is_number) (defBody s_law_is_number) (defScope s_law_is_number) .none kV_law_is_number dc_law_is_number pm_law_is_number an_law_is_number cd_law_is_number ct_law_is_number), sl_law_is_number⟩)
    (c_law_is_number : PySem.W.codeIn K cd_law_is_number "_law_is_number" = true)
    (k_law_is_number : PySem.W.keepIn K (.ref f_law_is_number) = true)
    (a_law_is_primitive : PySem.W.nsIn K mainGlobals "_law_is_primitive" = some (some (.ref f_law_is_primitive)))
    (l_law_is_primitive : K.lookup f_law_is_primitive = some ⟨oc_law_is_primitive, od_law_is_primitive, .func (PySem.W.fnOf "_law_is_primitive" "_law_is_primitive" (defArgs s_law_is_primitive) (defBody s_law_is_primitive) (defScope s_law_is_primitive) .none kV_law_is_primitive dc_law_is_primitive pm_law_is_primitive an_law_is_primitive cd_law_is_primitive ct_law_is_primitive), sl_law_is_primitive⟩)
    (c_law_is_primitive : PySem.W.codeIn K cd_law_is_primitive "_law_is_primitive" = true)
    (k_law_is_primitive : PySem.W.keepIn K (.ref f_law_is_primitive) = true)
    (a_law_told : PySem.W.nsIn K mainGlobals "_law_told" = some (some (.ref f_law_told)))
    (l_law_told : K.lookup f_law_told = some ⟨oc_law_told, od_law_told, .func (PySem.W.fnOf "_law_told" "_law_told" (defArgs s_law_told) (defBody s_law_told) (defScope s_law_told) .none kV_law_told dc_law_told pm_law_told an_law_told cd_law_told ct_law_told), sl_law_told⟩)
    (c_law_told : PySem.W.codeIn K cd_law_told "_law_told" = true)
    (k_law_told : PySem.W.keepIn K (.ref f_law_told) = true)
    (a_law_changed : PySem.W.nsIn K mainGlobals "_law_changed" = some (some (.ref f_law_changed)))
    (l_law_changed : K.lookup f_law_changed = some ⟨oc_law_changed, od_law_changed, .func (PySem.W.fnOf "_law_changed" "_law_changed" (defArgs s_law_changed) (defBody s_law_changed) (defScope s_law_changed) .none kV_law_changed dc_law_changed pm_law_changed an_law_changed cd_law_changed ct_law_changed), sl_law_changed⟩)
    (c_law_changed : PySem.W.codeIn K cd_law_changed "_law_changed" = true)
    (k_law_changed : PySem.W.keepIn K (.ref f_law_changed) = true)
    (a_law : PySem.W.nsIn K mainGlobals "law" = some (some (.ref f_law)))
    (l_law : K.lookup f_law = some ⟨oc_law, od_law, .func (PySem.W.fnOf "law" "law" (defArgs s_law) (defBody s_law) (defScope s_law) .none kV_law dc_law pm_law an_law cd_law ct_law), sl_law⟩)
    (c_law : PySem.W.codeIn K cd_law "law" = true)
    (k_law : PySem.W.keepIn K (.ref f_law) = true)
    (a_is_primitive_text : PySem.W.nsIn K mainGlobals "is_primitive_text" = some (some (.ref f_is_primitive_text)))
    (l_is_primitive_text : K.lookup f_is_primitive_text = some ⟨oc_is_primitive_text, od_is_primitive_text, .func (PySem.W.fnOf "is_primitive_text" "is_primitive_text" (defArgs s_is_primitive_text) (defBody s_is_primitive_text) (defScope s_is_primitive_text) .none kV_is_primitive_text dc_is_primitive_text pm_is_primitive_text an_is_primitive_text cd_is_primitive_text ct_is_primitive_text), sl_is_primitive_text⟩)
    (c_is_primitive_text : PySem.W.codeIn K cd_is_primitive_text "is_primitive_text" = true)
    (k_is_primitive_text : PySem.W.keepIn K (.ref f_is_primitive_text) = true)
    (a_number_of : PySem.W.nsIn K mainGlobals "number_of" = some (some (.ref f_number_of)))
    (l_number_of : K.lookup f_number_of = some ⟨oc_number_of, od_number_of, .func (PySem.W.fnOf "number_of" "number_of" (defArgs s_number_of) (defBody s_number_of) (defScope s_number_of) .none kV_number_of dc_number_of pm_number_of an_number_of cd_number_of ct_number_of), sl_number_of⟩)
    (c_number_of : PySem.W.codeIn K cd_number_of "number_of" = true)
    (k_number_of : PySem.W.keepIn K (.ref f_number_of) = true)
    (a_PORTS : PySem.W.nsIn K mainGlobals "PORTS" = some (some (.ref d_PORTS)))
    (l_PORTS : K.lookup d_PORTS = some ⟨.type "dict", none, .dict es_PORTS en_PORTS, #[]⟩)
    (h_PORTS : PySem.W.KeysLit w.params es_PORTS.toList)
    (w_PORTS : (d_PORTS == sysModules) = false)
    (ph0 : PySem.W.nsIn K d_PORTS "const" = some (some (.ref pt0)))
    (pl0 : K.lookup pt0 = some ⟨.type "tuple", pc0, .seq #[.ref pi0, .ref po0] pn0, psl0⟩)
    (pu0 : K.lookup pi0 = some ⟨.type "tuple", pd0, .seq #[] pm_0, psm0⟩)
    (pv0 : K.lookup po0 = some ⟨.type "tuple", pe0, .seq #[.str "out" to0_0] pq0, psn0⟩)
    (ph1 : PySem.W.nsIn K d_PORTS "add" = some (some (.ref pt1)))
    (pl1 : K.lookup pt1 = some ⟨.type "tuple", pc1, .seq #[.ref pi1, .ref po1] pn1, psl1⟩)
    (pu1 : K.lookup pi1 = some ⟨.type "tuple", pd1, .seq #[.str "a" ti1_0, .str "b" ti1_1] pm_1, psm1⟩)
    (pv1 : K.lookup po1 = some ⟨.type "tuple", pe1, .seq #[.str "out" to1_0] pq1, psn1⟩)
    (ph2 : PySem.W.nsIn K d_PORTS "sub" = some (some (.ref pt2)))
    (pl2 : K.lookup pt2 = some ⟨.type "tuple", pc2, .seq #[.ref pi2, .ref po2] pn2, psl2⟩)
    (pu2 : K.lookup pi2 = some ⟨.type "tuple", pd2, .seq #[.str "a" ti2_0, .str "b" ti2_1] pm_2, psm2⟩)
    (pv2 : K.lookup po2 = some ⟨.type "tuple", pe2, .seq #[.str "out" to2_0] pq2, psn2⟩)
    (ph3 : PySem.W.nsIn K d_PORTS "mul" = some (some (.ref pt3)))
    (pl3 : K.lookup pt3 = some ⟨.type "tuple", pc3, .seq #[.ref pi3, .ref po3] pn3, psl3⟩)
    (pu3 : K.lookup pi3 = some ⟨.type "tuple", pd3, .seq #[.str "a" ti3_0, .str "b" ti3_1] pm_3, psm3⟩)
    (pv3 : K.lookup po3 = some ⟨.type "tuple", pe3, .seq #[.str "out" to3_0] pq3, psn3⟩)
    (ph4 : PySem.W.nsIn K d_PORTS "less" = some (some (.ref pt4)))
    (pl4 : K.lookup pt4 = some ⟨.type "tuple", pc4, .seq #[.ref pi4, .ref po4] pn4, psl4⟩)
    (pu4 : K.lookup pi4 = some ⟨.type "tuple", pd4, .seq #[.str "a" ti4_0, .str "b" ti4_1] pm_4, psm4⟩)
    (pv4 : K.lookup po4 = some ⟨.type "tuple", pe4, .seq #[.str "out" to4_0] pq4, psn4⟩)
    (ph5 : PySem.W.nsIn K d_PORTS "equal" = some (some (.ref pt5)))
    (pl5 : K.lookup pt5 = some ⟨.type "tuple", pc5, .seq #[.ref pi5, .ref po5] pn5, psl5⟩)
    (pu5 : K.lookup pi5 = some ⟨.type "tuple", pd5, .seq #[.str "a" ti5_0, .str "b" ti5_1] pm_5, psm5⟩)
    (pv5 : K.lookup po5 = some ⟨.type "tuple", pe5, .seq #[.str "out" to5_0] pq5, psn5⟩)
    (ph6 : PySem.W.nsIn K d_PORTS "pick" = some (some (.ref pt6)))
    (pl6 : K.lookup pt6 = some ⟨.type "tuple", pc6, .seq #[.ref pi6, .ref po6] pn6, psl6⟩)
    (pu6 : K.lookup pi6 = some ⟨.type "tuple", pd6, .seq #[.str "c" ti6_0, .str "a" ti6_1, .str "b" ti6_2] pm_6, psm6⟩)
    (pv6 : K.lookup po6 = some ⟨.type "tuple", pe6, .seq #[.str "out" to6_0] pq6, psn6⟩)
    (ph7 : PySem.W.nsIn K d_PORTS "divide" = some (some (.ref pt7)))
    (pl7 : K.lookup pt7 = some ⟨.type "tuple", pc7, .seq #[.ref pi7, .ref po7] pn7, psl7⟩)
    (pu7 : K.lookup pi7 = some ⟨.type "tuple", pd7, .seq #[.str "a" ti7_0, .str "b" ti7_1] pm_7, psm7⟩)
    (pv7 : K.lookup po7 = some ⟨.type "tuple", pe7, .seq #[.str "quotient" to7_0, .str "rest" to7_1] pq7, psn7⟩)
    (ph8 : PySem.W.nsIn K d_PORTS "delay" = some (some (.ref pt8)))
    (pl8 : K.lookup pt8 = some ⟨.type "tuple", pc8, .seq #[.ref pi8, .ref po8] pn8, psl8⟩)
    (pu8 : K.lookup pi8 = some ⟨.type "tuple", pd8, .seq #[.str "in" ti8_0] pm_8, psm8⟩)
    (pv8 : K.lookup po8 = some ⟨.type "tuple", pe8, .seq #[.str "out" to8_0] pq8, psn8⟩)
    (ks_PORTS : es_PORTS.toList.map (·.key) = [.str "const" kt0, .str "add" kt1, .str "sub" kt2, .str "mul" kt3, .str "less" kt4, .str "equal" kt5, .str "pick" kt6, .str "divide" kt7, .str "delay" kt8])
    (a_Primitive : PySem.W.nsIn K mainGlobals "Primitive" = some (some (.ref C_Primitive)))
    (pg_Primitive : PySem.W.plainGet K C_Primitive Str.empty = true)
    (hd_Primitive : PySem.W.hasDictIn K C_Primitive = true)
    (po_Primitive : PySem.W.plainOver K C_Primitive = true)
    (sa_Primitive : PySem.W.findIn K (.ref C_Primitive) "__setattr__" = some (some (.builtin "object.__setattr__")))
    (mk_Primitive : PySem.W.makesIn K C_Primitive = true)
    (kc_Primitive : PySem.W.keepIn K (.ref C_Primitive) = true)
    (no_Primitive_name : PySem.W.findIn K (.ref C_Primitive) "name" = some none)
    (no_Primitive_inputs : PySem.W.findIn K (.ref C_Primitive) "inputs" = some none)
    (no_Primitive_outputs : PySem.W.findIn K (.ref C_Primitive) "outputs" = some none)
    (no_Primitive_constant : PySem.W.findIn K (.ref C_Primitive) "constant" = some none)
    (no_Primitive_text : PySem.W.findIn K (.ref C_Primitive) "text" = some none)
    (a_Block_init : PySem.W.ks_superIn K C_Primitive C_Primitive "__init__" = some (some (.ref f_Block_init)))
    (l_Block_init : K.lookup f_Block_init = some ⟨oc_Block_init, od_Block_init, .func (PySem.W.fnOf "__init__" "Block.__init__" (defArgs s_Block_init) (defBody s_Block_init) (defScope s_Block_init) .none kV_Block_init dc_Block_init pm_Block_init an_Block_init cd_Block_init ct_Block_init), sl_Block_init⟩)
    (c_Block_init : PySem.W.codeIn K cd_Block_init "Block.__init__" = true)
    (k_Block_init : PySem.W.keepIn K (.ref f_Block_init) = true)
    (t_Block_init : PySem.W.typeIn K (.ref f_Block_init) = some (.type "function"))
    (n_Block_init : PySem.W.fnIn K f_Block_init = true)
    (a_Primitive_init : PySem.W.findIn K (.ref C_Primitive) "__init__" = some (some (.ref f_Primitive_init)))
    (l_Primitive_init : K.lookup f_Primitive_init = some ⟨oc_Primitive_init, od_Primitive_init, .func (PySem.W.fnX "__init__" "Primitive.__init__" (defArgs s_Primitive_init) (defBody s_Primitive_init) (defScope s_Primitive_init) [("__class__", cc_Primitive)] .none kV_Primitive_init dc_Primitive_init pm_Primitive_init an_Primitive_init (.ref cda_Primitive) ct_Primitive_init), sl_Primitive_init⟩)
    (c_Primitive_init : PySem.W.codeIn K (.ref cda_Primitive) "Primitive.__init__" = true)
    (k_Primitive_init : PySem.W.keepIn K (.ref f_Primitive_init) = true)
    (i_Primitive_init : PySem.W.isFn K (.ref f_Primitive_init) = true)
    (cC_Primitive : PySem.W.clsIn K C_Primitive = some cdC_Primitive)
    (lc_Primitive : K.lookup cda_Primitive = some ⟨ccl_Primitive, cdd_Primitive, .fields cvs_Primitive, ccs_Primitive⟩)
    (hv_Primitive : cvs_Primitive[2]? = some (.str file_Primitive tf_Primitive))
    (hf_Primitive : ((l.prog.main.file : Str) == file_Primitive) = true)
    (lcc_Primitive : K.lookup cc_Primitive = some ⟨ccv_Primitive, cvd_Primitive, .cell (some (.ref C_Primitive)), csl_Primitive⟩)
    (sub_Primitive : PySem.W.mroIn K C_Primitive (.ref C_Primitive) = some true)
    (zS : PySem.W.nsIn K mainGlobals "super" = some none)
    (tp : PySem.W.nsIn K PySem.cStatics "thirdparty.any" = some none)
    (ht : (l.prog.main.scope.names.lookup ("super" : Str)).isSome = false)
    (a_Primitive_str : PySem.W.findIn K (.ref C_Primitive) "__str__" = some (some (.ref f_Primitive_str)))
    (l_Primitive_str : K.lookup f_Primitive_str = some ⟨oc_Primitive_str, od_Primitive_str, .func (PySem.W.fnOf "__str__" "Primitive.__str__" (defArgs s_Primitive_str) (defBody s_Primitive_str) (defScope s_Primitive_str) .none kV_Primitive_str dc_Primitive_str pm_Primitive_str an_Primitive_str cd_Primitive_str ct_Primitive_str), sl_Primitive_str⟩)
    (c_Primitive_str : PySem.W.codeIn K cd_Primitive_str "Primitive.__str__" = true)
    (k_Primitive_str : PySem.W.keepIn K (.ref f_Primitive_str) = true)
    (i_Primitive_str : PySem.W.isFn K (.ref f_Primitive_str) = true)
    (q_Primitive_parse : PySem.W.findCls K (.ref C_Primitive) (.type "type") "parse" = some (.get (.builtin "classmethod.__get__") (.ref p_Primitive_parse) .none (.ref C_Primitive)))
    (a_Primitive_parse : PySem.W.recIn K p_Primitive_parse "classmethod" = some (.ref f_Primitive_parse :: rest_Primitive_parse))
    (l_Primitive_parse : K.lookup f_Primitive_parse = some ⟨oc_Primitive_parse, od_Primitive_parse, .func (PySem.W.fnOf "parse" "Primitive.parse" (defArgs s_Primitive_parse) (defBody s_Primitive_parse) (defScope s_Primitive_parse) .none kV_Primitive_parse dc_Primitive_parse pm_Primitive_parse an_Primitive_parse cd_Primitive_parse ct_Primitive_parse), sl_Primitive_parse⟩)
    (c_Primitive_parse : PySem.W.codeIn K cd_Primitive_parse "Primitive.parse" = true)
    (k_Primitive_parse : PySem.W.keepIn K (.ref f_Primitive_parse) = true)
    (n_Primitive_parse : PySem.W.fnIn K f_Primitive_parse = true)
    (rd_Primitive : PySem.W.readsIn K C_Primitive (.type "type") = true)
    (rg_Primitive : PySem.W.specialIn K (.ref C_Primitive) "__getattribute__" = some (some (.builtin "type.__getattribute__")))
    (a_BlockError : PySem.W.nsIn K mainGlobals "BlockError" = some (some (.ref C_BlockError)))
    (eb_BlockError : PySem.W.subIn K (.ref C_BlockError) (.type "BaseException") = some true)
    (ed_BlockError : PySem.W.hasDictIn K C_BlockError = true)
    (et_BlockError : PySem.W.typeIn K (.ref C_BlockError) = some (.type "type"))
    (a_InvalidText : PySem.W.nsIn K mainGlobals "InvalidText" = some (some (.ref C_InvalidText)))
    (xL_InvalidText : K.lookup C_InvalidText = some (excClassObj nm_InvalidText q_InvalidText C_InvalidText N_InvalidText bs_InvalidText [.ref C_BlockError, .type "ValueError", .type "Exception", .type "BaseException", .type "object"] true sn_InvalidText sub_InvalidText ab_InvalidText col_InvalidText dd_InvalidText m0_InvalidText m1_InvalidText m2_InvalidText m3_InvalidText m5_InvalidText "ValueError.__new__"))
    (sa_InvalidText : PySem.W.findIn K (.ref C_InvalidText) "__setattr__" = some (some (.builtin "object.__setattr__")))
    (exC_InvalidText : PySem.W.subIn K (.ref C_InvalidText) (.type "BaseException") = some true)
    (tyC_InvalidText : PySem.W.typeIn K (.ref C_InvalidText) = some (.type "type"))
    (kC_InvalidText : PySem.W.keepIn K (.ref C_InvalidText) = true)
    (ga_InvalidText : PySem.W.findIn K (.ref C_InvalidText) "__getattribute__" = some (some (.builtin "BaseException.__getattribute__")))
    (gg_InvalidText : PySem.W.findIn K (.ref C_InvalidText) "__getattr__" = some none)
    (hd_InvalidText : PySem.W.hasDictIn K C_InvalidText = true)
    (ic_InvalidText : PySem.W.findIn K (.ref C_InvalidText) "__class__" = some (some (.builtin "object.__class__")))
    (io_InvalidText : PySem.W.mroIn K C_InvalidText (.type "object") = some true)
    (cd_InvalidText : PySem.W.clsIn K C_InvalidText = some cd_InvalidText)
    (sv_InvalidText : PySem.W.subIn K (.ref C_InvalidText) (.type "ValueError") = some true)
    (sb_InvalidText : PySem.W.subIn K (.ref C_InvalidText) (.ref C_BlockError) = some true)
    (ocg : PySem.W.specialIn K (.builtin "object.__class__") "__get__" = some (some (.builtin "getset_descriptor.__get__")))
    (oct : PySem.W.takesIn K (.builtin "object.__class__") = some true)
    (a_InvalidText_init : PySem.W.findIn K (.ref C_InvalidText) "__init__" = some (some (.ref f_InvalidText_init)))
    (l_InvalidText_init : K.lookup f_InvalidText_init = some ⟨oc_InvalidText_init, od_InvalidText_init, .func (PySem.W.fnOf "__init__" "InvalidText.__init__" (defArgs s_InvalidText_init) (defBody s_InvalidText_init) (defScope s_InvalidText_init) .none kV_InvalidText_init dc_InvalidText_init pm_InvalidText_init an_InvalidText_init cd_InvalidText_init ct_InvalidText_init), sl_InvalidText_init⟩)
    (c_InvalidText_init : PySem.W.codeIn K cd_InvalidText_init "InvalidText.__init__" = true)
    (k_InvalidText_init : PySem.W.keepIn K (.ref f_InvalidText_init) = true)
    (t_InvalidText_init : PySem.W.typeIn K (.ref f_InvalidText_init) = some (.type "function"))
    (cb_InvalidText : PySem.W.clsIn K C_BlockError = some cdb_InvalidText)
    (no_InvalidText_row : PySem.W.findIn K (.ref C_InvalidText) "row" = some none) :
    ∃ fd : FuncData, (∀ (s : Shared) (v : Value), BindsTo s fd ⟨[v], []⟩ [("script", v)]) ∧ ∀ base : Heap, K.In base → base.Ns mainGlobals mg → FnG l.prog w K mg base CX0 9 fa fd ["script"] (spLaw K) := by
  have e := hfa.symm.trans (PySem.W.mg_of X G a_law)
  cases e
  let ad : Adr := { t_MODULUS := t_MODULUS, t_DIGITS := t_DIGITS, f_law_feed := f_law_feed, f_law_take := f_law_take, f_law_pick := f_law_pick, f_law_is_number := f_law_is_number, f_law_is_primitive := f_law_is_primitive, f_law_told := f_law_told, f_law_changed := f_law_changed, f_law := fa, f_is_primitive_text := f_is_primitive_text, f_number_of := f_number_of, d_PORTS := d_PORTS, es_PORTS := es_PORTS, en_PORTS := en_PORTS, C_Primitive := C_Primitive, f_Block_init := f_Block_init, f_Primitive_init := f_Primitive_init, f_Primitive_str := f_Primitive_str, p_Primitive_parse := p_Primitive_parse, f_Primitive_parse := f_Primitive_parse, C_InvalidText := C_InvalidText, C_BlockError := C_BlockError, f_InvalidText_init := f_InvalidText_init }
  have hports : ∀ n ins outs, (n, ins, outs) ∈ portsTab → PortsOf K w d_PORTS n ins outs := by
    intro n ins outs hp
    simp only [portsTab, List.mem_cons, List.not_mem_nil, or_false, Prod.mk.injEq] at hp
    rcases hp with ⟨rfl, rfl, rfl⟩ | ⟨rfl, rfl, rfl⟩ | ⟨rfl, rfl, rfl⟩ | ⟨rfl, rfl, rfl⟩ | ⟨rfl, rfl, rfl⟩ | ⟨rfl, rfl, rfl⟩ | ⟨rfl, rfl, rfl⟩ | ⟨rfl, rfl, rfl⟩ | ⟨rfl, rfl, rfl⟩
    · exact ⟨pt0, pi0, po0, ⟨es_PORTS, en_PORTS, _, l_PORTS, h_PORTS, ph0, rfl⟩, sqt_K pl0 (szl (show 2 ≤ 100000 by decide)) (.cons rfl (.cons rfl .nil)), sqt_K pu0 (szl (show 0 ≤ 100000 by decide)) .nil, sqt_K pv0 (szl (show 1 ≤ 100000 by decide)) (.cons ⟨_, rfl⟩ .nil)⟩
    · exact ⟨pt1, pi1, po1, ⟨es_PORTS, en_PORTS, _, l_PORTS, h_PORTS, ph1, rfl⟩, sqt_K pl1 (szl (show 2 ≤ 100000 by decide)) (.cons rfl (.cons rfl .nil)), sqt_K pu1 (szl (show 2 ≤ 100000 by decide)) (.cons ⟨_, rfl⟩ (.cons ⟨_, rfl⟩ .nil)), sqt_K pv1 (szl (show 1 ≤ 100000 by decide)) (.cons ⟨_, rfl⟩ .nil)⟩
    · exact ⟨pt2, pi2, po2, ⟨es_PORTS, en_PORTS, _, l_PORTS, h_PORTS, ph2, rfl⟩, sqt_K pl2 (szl (show 2 ≤ 100000 by decide)) (.cons rfl (.cons rfl .nil)), sqt_K pu2 (szl (show 2 ≤ 100000 by decide)) (.cons ⟨_, rfl⟩ (.cons ⟨_, rfl⟩ .nil)), sqt_K pv2 (szl (show 1 ≤ 100000 by decide)) (.cons ⟨_, rfl⟩ .nil)⟩
    · exact ⟨pt3, pi3, po3, ⟨es_PORTS, en_PORTS, _, l_PORTS, h_PORTS, ph3, rfl⟩, sqt_K pl3 (szl (show 2 ≤ 100000 by decide)) (.cons rfl (.cons rfl .nil)), sqt_K pu3 (szl (show 2 ≤ 100000 by decide)) (.cons ⟨_, rfl⟩ (.cons ⟨_, rfl⟩ .nil)), sqt_K pv3 (szl (show 1 ≤ 100000 by decide)) (.cons ⟨_, rfl⟩ .nil)⟩
    · exact ⟨pt4, pi4, po4, ⟨es_PORTS, en_PORTS, _, l_PORTS, h_PORTS, ph4, rfl⟩, sqt_K pl4 (szl (show 2 ≤ 100000 by decide)) (.cons rfl (.cons rfl .nil)), sqt_K pu4 (szl (show 2 ≤ 100000 by decide)) (.cons ⟨_, rfl⟩ (.cons ⟨_, rfl⟩ .nil)), sqt_K pv4 (szl (show 1 ≤ 100000 by decide)) (.cons ⟨_, rfl⟩ .nil)⟩
    · exact ⟨pt5, pi5, po5, ⟨es_PORTS, en_PORTS, _, l_PORTS, h_PORTS, ph5, rfl⟩, sqt_K pl5 (szl (show 2 ≤ 100000 by decide)) (.cons rfl (.cons rfl .nil)), sqt_K pu5 (szl (show 2 ≤ 100000 by decide)) (.cons ⟨_, rfl⟩ (.cons ⟨_, rfl⟩ .nil)), sqt_K pv5 (szl (show 1 ≤ 100000 by decide)) (.cons ⟨_, rfl⟩ .nil)⟩
    · exact ⟨pt6, pi6, po6, ⟨es_PORTS, en_PORTS, _, l_PORTS, h_PORTS, ph6, rfl⟩, sqt_K pl6 (szl (show 2 ≤ 100000 by decide)) (.cons rfl (.cons rfl .nil)), sqt_K pu6 (szl (show 3 ≤ 100000 by decide)) (.cons ⟨_, rfl⟩ (.cons ⟨_, rfl⟩ (.cons ⟨_, rfl⟩ .nil))), sqt_K pv6 (szl (show 1 ≤ 100000 by decide)) (.cons ⟨_, rfl⟩ .nil)⟩
    · exact ⟨pt7, pi7, po7, ⟨es_PORTS, en_PORTS, _, l_PORTS, h_PORTS, ph7, rfl⟩, sqt_K pl7 (szl (show 2 ≤ 100000 by decide)) (.cons rfl (.cons rfl .nil)), sqt_K pu7 (szl (show 2 ≤ 100000 by decide)) (.cons ⟨_, rfl⟩ (.cons ⟨_, rfl⟩ .nil)), sqt_K pv7 (szl (show 2 ≤ 100000 by decide)) (.cons ⟨_, rfl⟩ (.cons ⟨_, rfl⟩ .nil))⟩
    · exact ⟨pt8, pi8, po8, ⟨es_PORTS, en_PORTS, _, l_PORTS, h_PORTS, ph8, rfl⟩, sqt_K pl8 (szl (show 2 ≤ 100000 by decide)) (.cons rfl (.cons rfl .nil)), sqt_K pu8 (szl (show 1 ≤ 100000 by decide)) (.cons ⟨_, rfl⟩ .nil), sqt_K pv8 (szl (show 1 ≤ 100000 by decide)) (.cons ⟨_, rfl⟩ .nil)⟩
  have F_law_feed := fun_mk (st := s_law_feed) l_law_feed c_law_feed k_law_feed
  have b_law_feed := F_law_feed.binds (ps := ["script", "k"]) fun _ _ _ _ _ _ us hl => match us, hl with | [_, _], _ => rfl
  have F_law_take := fun_mk (st := s_law_take) l_law_take c_law_take k_law_take
  have b_law_take := F_law_take.binds (ps := ["feed", "many"]) fun _ _ _ _ _ _ us hl => match us, hl with | [_, _], _ => rfl
  have F_law_pick := fun_mk (st := s_law_pick) l_law_pick c_law_pick k_law_pick
  have b_law_pick := F_law_pick.binds (ps := ["feed", "some"]) fun _ _ _ _ _ _ us hl => match us, hl with | [_, _], _ => rfl
  have F_law_is_number := fun_mk (st := s_law_is_number) l_law_is_number c_law_is_number k_law_is_number
  have b_law_is_number := F_law_is_number.binds (ps := ["word"]) fun _ _ _ _ _ _ us hl => match us, hl with | [_], _ => rfl
  have F_law_is_primitive := fun_mk (st := s_law_is_primitive) l_law_is_primitive c_law_is_primitive k_law_is_primitive
  have b_law_is_primitive := F_law_is_primitive.binds (ps := ["text"]) fun _ _ _ _ _ _ us hl => match us, hl with | [_], _ => rfl
  have F_law_told := fun_mk (st := s_law_told) l_law_told c_law_told k_law_told
  have b_law_told := F_law_told.binds (ps := ["text"]) fun _ _ _ _ _ _ us hl => match us, hl with | [_], _ => rfl
  have F_law_changed := fun_mk (st := s_law_changed) l_law_changed c_law_changed k_law_changed
  have b_law_changed := F_law_changed.binds (ps := ["feed", "text"]) fun _ _ _ _ _ _ us hl => match us, hl with | [_, _], _ => rfl
  have F_law := fun_mk (st := s_law) l_law c_law k_law
  have b_law := F_law.binds (ps := ["script"]) fun _ _ _ _ _ _ us hl => match us, hl with | [_], _ => rfl
  have F_is_primitive_text := fun_mk (st := s_is_primitive_text) l_is_primitive_text c_is_primitive_text k_is_primitive_text
  have b_is_primitive_text := F_is_primitive_text.binds (ps := ["text"]) fun _ _ _ _ _ _ us hl => match us, hl with | [_], _ => rfl
  have F_number_of := fun_mk (st := s_number_of) l_number_of c_number_of k_number_of
  have b_number_of := F_number_of.binds (ps := ["word"]) fun _ _ _ _ _ _ us hl => match us, hl with | [_], _ => rfl
  have cl_Primitive : Cls K C_Primitive := ⟨pg_Primitive, hd_Primitive, po_Primitive, sa_Primitive⟩
  have F_Block_init := fun_mk (st := s_Block_init) l_Block_init c_Block_init k_Block_init
  have b_Block_init := F_Block_init.binds (ps := ["self", "name", "inputs", "outputs"]) fun _ _ _ _ _ _ us hl => match us, hl with | [_, _, _, _], _ => rfl
  have F_Primitive_init : SupX.FunS l.prog K mg "__init__" "Primitive.__init__" s_Primitive_init C_Primitive f_Primitive_init cc_Primitive cda_Primitive f_Block_init "self" _ := ⟨⟨_, _, _, _, _, _, _, _, rfl, l_Primitive_init, c_Primitive_init⟩, k_Primitive_init, ⟨cl_Primitive, ⟨_, cC_Primitive⟩, ⟨_, _, _, _, _, l_Primitive_init, rfl, rfl⟩, ⟨_, _, _, _, _, _, lc_Primitive, hv_Primitive, hf_Primitive⟩, ⟨_, _, _, lcc_Primitive⟩, sub_Primitive, PySem.W.mg_none_of X G zS, tp, a_Block_init, t_Block_init, n_Block_init, ht⟩, rfl⟩
  have b_Primitive_init := F_Primitive_init.binds (ps := ["self", "name", "constant"]) fun _ _ _ _ _ us hl => match us, hl with | [_, _, _], _ => rfl
  have F_Primitive_str := fun_mk (st := s_Primitive_str) l_Primitive_str c_Primitive_str k_Primitive_str
  have b_Primitive_str := F_Primitive_str.binds (ps := ["self"]) fun _ _ _ _ _ _ us hl => match us, hl with | [_], _ => rfl
  have F_Primitive_parse := fun_mk (st := s_Primitive_parse) l_Primitive_parse c_Primitive_parse k_Primitive_parse
  have b_Primitive_parse := F_Primitive_parse.binds (ps := ["cls", "text"]) fun _ _ _ _ _ _ us hl => match us, hl with | [_, _], _ => rfl
  have F_InvalidText_init := fun_mk (st := s_InvalidText_init) l_InvalidText_init c_InvalidText_init k_InvalidText_init
  have b_InvalidText_init := F_InvalidText_init.binds (ps := ["self", "row"]) fun _ _ _ _ _ _ us hl => match us, hl with | [_, _], _ => rfl
  have oex_InvalidText : OexC K C_InvalidText := ⟨⟨_, _, _, _, _, _, _, _, _, _, _, _, _, _, _, xL_InvalidText, (show PySem.HandSPX.refsVE PySem.HandSPX.veTail = true by decide +kernel)⟩, sa_InvalidText, exC_InvalidText, tyC_InvalidText, kC_InvalidText⟩
  have T : Txt K w mg ad := { n_len := PySem.W.mg_none_of X G z_len, n_abs := PySem.W.mg_none_of X G z_abs, n_max := PySem.W.mg_none_of X G z_max, n_min := PySem.W.mg_none_of X G z_min, n_range := PySem.W.mg_none_of X G z_range, n_isinstance := PySem.W.mg_none_of X G z_isinstance, n_int := PySem.W.mg_none_of X G z_int, n_str := PySem.W.mg_none_of X G z_str, n_tuple := PySem.W.mg_none_of X G z_tuple, n_all := PySem.W.mg_none_of X G z_all, n_repr := PySem.W.mg_none_of X G z_repr, n_ValueError := PySem.W.mg_none_of X G z_ValueError, g_MODULUS := PySem.W.mg_of X G a_MODULUS, g_DIGITS := PySem.W.mg_of X G a_DIGITS, g__law_feed := PySem.W.mg_of X G a_law_feed, k__law_feed := k_law_feed, g__law_take := PySem.W.mg_of X G a_law_take, k__law_take := k_law_take, g__law_pick := PySem.W.mg_of X G a_law_pick, k__law_pick := k_law_pick, g__law_is_number := PySem.W.mg_of X G a_law_is_number, k__law_is_number := k_law_is_number, g__law_is_primitive := PySem.W.mg_of X G a_law_is_primitive, k__law_is_primitive := k_law_is_primitive, g__law_told := PySem.W.mg_of X G a_law_told, k__law_told := k_law_told, g__law_changed := PySem.W.mg_of X G a_law_changed, k__law_changed := k_law_changed, g_law := PySem.W.mg_of X G a_law, k_law := k_law, g_is_primitive_text := PySem.W.mg_of X G a_is_primitive_text, k_is_primitive_text := k_is_primitive_text, g_number_of := PySem.W.mg_of X G a_number_of, k_number_of := k_number_of, g_PORTS := PySem.W.mg_of X G a_PORTS, d_PORTS := ⟨l_PORTS, h_PORTS, w_PORTS⟩, ports := hports, keys := ⟨[kt0, kt1, kt2, kt3, kt4, kt5, kt6, kt7, kt8], rfl, ks_PORTS⟩, g_Primitive := PySem.W.mg_of X G a_Primitive, cl_Primitive := cl_Primitive, na_Primitive_name := no_Primitive_name, na_Primitive_inputs := no_Primitive_inputs, na_Primitive_outputs := no_Primitive_outputs, na_Primitive_constant := no_Primitive_constant, na_Primitive_text := no_Primitive_text, mk_Primitive := ⟨mk_Primitive, a_Primitive_init, i_Primitive_init, kc_Primitive⟩, m_Primitive_str := ⟨a_Primitive_str, i_Primitive_str, k_Primitive_str⟩, cr_Primitive := ⟨rd_Primitive, rg_Primitive⟩, cm_Primitive_parse := ⟨q_Primitive_parse, ⟨_, a_Primitive_parse⟩, n_Primitive_parse⟩, g_BlockError := PySem.W.mg_of X G a_BlockError, g_InvalidText := PySem.W.mg_of X G a_InvalidText, oex_InvalidText := oex_InvalidText, in_InvalidText := a_InvalidText_init, tf_InvalidText := t_InvalidText_init, xf_InvalidText := ⟨ga_InvalidText, gg_InvalidText, exC_InvalidText, hd_InvalidText⟩, ek_InvalidText := ⟨by rw [cd_InvalidText]; rfl, ga_InvalidText, gg_InvalidText, exC_InvalidText, ic_InvalidText, ocg, oct, io_InvalidText⟩, kv_InvalidText := kit_ve sv_InvalidText, kb_InvalidText := kit_sub cb_InvalidText et_BlockError sb_InvalidText, em_InvalidText := PySem.W.exm_ref eb_BlockError ed_BlockError et_BlockError sb_InvalidText, no_InvalidText_row := no_InvalidText_row }
  refine ⟨PySem.W.fnOf "law" "law" (defArgs s_law) (defBody s_law) (defScope s_law) .none kV_law dc_law pm_law an_law cd_law ct_law, fun s v => .of_eq rfl, fun base _ _ => ?_⟩
  have G_law_take : FnOk l.prog w K mg base CX0 1 f_law_take _ ["feed", "many"] spTake := ok_take F_law_take
  have G_law_feed : FnOk l.prog w K mg base CX0 1 f_law_feed _ ["script", "k"] (spFeed K) := ok_feed (ad := ad) F_law_feed T
  have G_number_of : FnOk l.prog w K mg base CX0 2 f_number_of _ ["word"] spNum := ok_num (ad := ad) F_number_of T
  have G_is_primitive_text : FnOk l.prog w K mg base CX0 3 f_is_primitive_text _ ["text"] spIpt := ok_ipt (ad := ad) F_is_primitive_text T G_number_of b_number_of
  have G_Block_init : FnOk l.prog w K mg base CX0 1 f_Block_init _ ["self", "name", "inputs", "outputs"] (spBI K C_Primitive) := ok_BI (ad := ad) F_Block_init T
  have G_Primitive_init : FnOk l.prog w K mg base CX0 2 f_Primitive_init _ ["self", "name", "constant"] (spPI K C_Primitive) := ok_PI (ad := ad) F_Primitive_init T G_Block_init b_Block_init
  have G_Primitive_str : FnOk l.prog w K mg base CX0 1 f_Primitive_str _ ["self"] (spPStr K C_Primitive) := ok_pstr (ad := ad) F_Primitive_str T

  have G_InvalidText_init : FnOk l.prog w K mg base CX0 1 f_InvalidText_init _ ["self", "row"] (spXI C_InvalidText "row") := ok_ITI (ad := ad) F_InvalidText_init T
  have G_Primitive_parse := ok_parseX (ad := ad) F_Primitive_parse T G_number_of b_number_of G_is_primitive_text b_is_primitive_text G_Primitive_init b_Primitive_init G_InvalidText_init b_InvalidText_init
  have R_Primitive_parse : FnR l.prog w K mg base (L2.CX l.prog w) 4 f_Primitive_parse (spParseX K C_Primitive C_InvalidText) := (G_Primitive_parse.raw b_Primitive_parse .nil).imp fun vs H Q E hs => by rw [List.append_nil]; exact hs

  have G_law_pick : FnOk l.prog w K mg base CX0 2 f_law_pick _ ["feed", "some"] (spPick2 K) := ok_pick2 (ad := ad) F_law_pick T G_law_take b_law_take
  have G_law_told : FnOk l.prog w K mg base CX0 5 f_law_told _ ["text"] (spTold K) := ok_told (ad := ad) F_law_told T R_Primitive_parse G_Primitive_str b_Primitive_str
  have G_law_is_number : FnOk l.prog w K mg base CX0 1 f_law_is_number _ ["word"] spIsNum := ok_isnum (ad := ad) F_law_is_number T
  have G_law_is_primitive : FnOk l.prog w K mg base CX0 2 f_law_is_primitive _ ["text"] spIsPrim := ok_isprim (ad := ad) F_law_is_primitive T G_law_is_number b_law_is_number
  have G_law_changed : FnOk l.prog w K mg base CX0 3 f_law_changed _ ["feed", "text"] spChg := ok_chg (ad := ad) F_law_changed T G_law_take b_law_take G_law_pick b_law_pick
  exact ok_law (ad := ad) F_law T G_law_feed b_law_feed G_law_take b_law_take G_law_pick b_law_pick G_law_changed b_law_changed G_law_is_primitive b_law_is_primitive G_law_told b_law_told
theorem walk {l : PySem.W.OpenLaw} {q : Program} {loose : List Str} {XP : (Str → Option Value) → Heap → Prop} {YP : World → Heap → Prop} {d : DefRec} {K : Params → PySem.W.Frag} (hn : l.most = some 63) (hdf : d.params.defaults = [])
    (hY : ∀ (w : World) (h : Heap), YP w h → (K w.params).In h)
    (F : ∀ (w : World) (mg : Str → Option Value) (fa : Addr) (h : Heap), (K w.params).In h → h.Ns mainGlobals mg → mg d.name = some (.ref fa) →
      ∃ fd : FuncData, (∀ (s : Shared) (u : Value), BindsTo s fd ⟨[u], []⟩ [("script", u)]) ∧ ∀ base : Heap, (K w.params).In base → base.Ns mainGlobals mg → FnG l.prog w (K w.params) mg base CX0 9 fa fd ["script"] (spLaw (K w.params))) :
    PySem.W.WalkO q loose XP YP l.row.toRowW d [] (fun f vs => PySem.call f vs) :=
  walk_ofG (n := 63) (k := 9) (x := "script") (sp := fun w => spLaw (K w.params)) hn (by decide) hdf ⟨rfl, by decide, by decide⟩ hY F fun _ _ a ns hl hS => ⟨a, ns, rfl, hS, hl, fun _ => rfl⟩
end K02

set_option maxRecDepth 100000
open PySem PySem.W PyProof.Rows

open PySem PySem.W PyProof.Rows in
set_option maxRecDepth 100000 in
set_option maxHeartbeats 0 in
theorem PySem.Challenge.cw_stepblocks_k02_texts_that_are_no_primiti_holds : PySem.Challenge.rw_stepblocks_k02_texts_that_are_no_primiti.Holds := by
  w_on; o_law; k_head; (case hw => w_witness2)
  k_fill
  refine K02.walk (l := PySem.Challenge.rw_stepblocks_k02_texts_that_are_no_primiti) rfl rfl (fun w h Y => PySem.W.kIn_of Y) ?F
  case F =>
    intro w mg fa h KX G hmg
    refine' K02.all_mk KX G hmg ?z_len ?z_abs ?z_max ?z_min ?z_range ?z_isinstance ?z_int ?z_str ?z_tuple ?z_all ?z_repr ?z_ValueError ?a_MODULUS ?a_DIGITS ?a_law_feed ?l_law_feed ?c_law_feed ?k_law_feed ?a_law_take ?l_law_take ?c_law_take ?k_law_take ?a_law_pick ?l_law_pick ?c_law_pick ?k_law_pick ?a_law_is_number ?l_law_is_number ?c_law_is_number ?k_law_is_number ?a_law_is_primitive ?l_law_is_primitive ?c_law_is_primitive ?k_law_is_primitive ?a_law_told ?l_law_told ?c_law_told ?k_law_told ?a_law_changed ?l_law_changed ?c_law_changed ?k_law_changed ?a_law ?l_law ?c_law ?k_law ?a_is_primitive_text ?l_is_primitive_text ?c_is_primitive_text ?k_is_primitive_text ?a_number_of ?l_number_of ?c_number_of ?k_number_of ?a_PORTS ?l_PORTS ?h_PORTS ?w_PORTS ?ph0 ?pl0 ?pu0 ?pv0 ?ph1 ?pl1 ?pu1 ?pv1 ?ph2 ?pl2 ?pu2 ?pv2 ?ph3 ?pl3 ?pu3 ?pv3 ?ph4 ?pl4 ?pu4 ?pv4 ?ph5 ?pl5 ?pu5 ?pv5 ?ph6 ?pl6 ?pu6 ?pv6 ?ph7 ?pl7 ?pu7 ?pv7 ?ph8 ?pl8 ?pu8 ?pv8 ?ks_PORTS ?a_Primitive ?pg_Primitive ?hd_Primitive ?po_Primitive ?sa_Primitive ?mk_Primitive ?kc_Primitive ?no_Primitive_name ?no_Primitive_inputs ?no_Primitive_outputs ?no_Primitive_constant ?no_Primitive_text ?a_Block_init ?l_Block_init ?c_Block_init ?k_Block_init ?t_Block_init ?n_Block_init ?a_Primitive_init ?l_Primitive_init ?c_Primitive_init ?k_Primitive_init ?i_Primitive_init ?cC_Primitive ?lc_Primitive ?hv_Primitive ?hf_Primitive ?lcc_Primitive ?sub_Primitive ?zS ?tp ?ht ?a_Primitive_str ?l_Primitive_str ?c_Primitive_str ?k_Primitive_str ?i_Primitive_str ?q_Primitive_parse ?a_Primitive_parse ?l_Primitive_parse ?c_Primitive_parse ?k_Primitive_parse ?n_Primitive_parse ?rd_Primitive ?rg_Primitive ?a_BlockError ?eb_BlockError ?ed_BlockError ?et_BlockError ?a_InvalidText ?xL_InvalidText ?sa_InvalidText ?exC_InvalidText ?tyC_InvalidText ?kC_InvalidText ?ga_InvalidText ?gg_InvalidText ?hd_InvalidText ?ic_InvalidText ?io_InvalidText ?cd_InvalidText ?sv_InvalidText ?sb_InvalidText ?ocg ?oct ?a_InvalidText_init ?l_InvalidText_init ?c_InvalidText_init ?k_InvalidText_init ?t_InvalidText_init ?cb_InvalidText ?no_InvalidText_row
    (case z_len => k_is)
    (case z_abs => k_is)
    (case z_max => k_is)
    (case z_min => k_is)
    (case z_range => k_is)
    (case z_isinstance => k_is)
    (case z_int => k_is)
    (case z_str => k_is)
    (case z_tuple => k_is)
    (case z_all => k_is)
    (case z_repr => k_is)
    (case z_ValueError => k_is)
    (case a_MODULUS => k_is)
    (case a_DIGITS => k_is)
    (case a_law_feed => k_is)
    (case l_law_feed => k_is)
    (case c_law_feed => k_is)
    (case k_law_feed => k_is)
    (case a_law_take => k_is)
    (case l_law_take => k_is)
    (case c_law_take => k_is)
    (case k_law_take => k_is)
    (case a_law_pick => k_is)
    (case l_law_pick => k_is)
    (case c_law_pick => k_is)
    (case k_law_pick => k_is)
    (case a_law_is_number => k_is)
    (case l_law_is_number => k_is)
    (case c_law_is_number => k_is)
    (case k_law_is_number => k_is)
    (case a_law_is_primitive => k_is)
    (case l_law_is_primitive => k_is)
    (case c_law_is_primitive => k_is)
    (case k_law_is_primitive => k_is)
    (case a_law_told => k_is)
    (case l_law_told => k_is)
    (case c_law_told => k_is)
    (case k_law_told => k_is)
    (case a_law_changed => k_is)
    (case l_law_changed => k_is)
    (case c_law_changed => k_is)
    (case k_law_changed => k_is)
    (case a_law => k_is)
    (case l_law => k_is)
    (case c_law => k_is)
    (case k_law => k_is)
    (case a_is_primitive_text => k_is)
    (case l_is_primitive_text => k_is)
    (case c_is_primitive_text => k_is)
    (case k_is_primitive_text => k_is)
    (case a_number_of => k_is)
    (case l_number_of => k_is)
    (case c_number_of => k_is)
    (case k_number_of => k_is)
    (case a_PORTS => k_is)
    (case l_PORTS => k_is)
    (case h_PORTS => (repeat (first | exact True.intro | refine ⟨⟨_, _, rfl, rfl⟩, ?_⟩)))
    (case w_PORTS => first | rfl | decide +kernel)
    (case ph0 => k_is)
    (case pl0 => k_is)
    (case pu0 => k_is)
    (case pv0 => k_is)
    (case ph1 => k_is)
    (case pl1 => k_is)
    (case pu1 => k_is)
    (case pv1 => k_is)
    (case ph2 => k_is)
    (case pl2 => k_is)
    (case pu2 => k_is)
    (case pv2 => k_is)
    (case ph3 => k_is)
    (case pl3 => k_is)
    (case pu3 => k_is)
    (case pv3 => k_is)
    (case ph4 => k_is)
    (case pl4 => k_is)
    (case pu4 => k_is)
    (case pv4 => k_is)
    (case ph5 => k_is)
    (case pl5 => k_is)
    (case pu5 => k_is)
    (case pv5 => k_is)
    (case ph6 => k_is)
    (case pl6 => k_is)
    (case pu6 => k_is)
    (case pv6 => k_is)
    (case ph7 => k_is)
    (case pl7 => k_is)
    (case pu7 => k_is)
    (case pv7 => k_is)
    (case ph8 => k_is)
    (case pl8 => k_is)
    (case pu8 => k_is)
    (case pv8 => k_is)
    (case ks_PORTS => rfl)
    (case a_Primitive => k_is)
    (case pg_Primitive => k_is)
    (case hd_Primitive => k_is)
    (case po_Primitive => k_is)
    (case sa_Primitive => k_is)
    (case mk_Primitive => k_is)
    (case kc_Primitive => k_is)
    (case no_Primitive_name => k_is)
    (case no_Primitive_inputs => k_is)
    (case no_Primitive_outputs => k_is)
    (case no_Primitive_constant => k_is)
    (case no_Primitive_text => k_is)
    (case a_Block_init => ks_is)
    (case l_Block_init => k_is)
    (case c_Block_init => k_is)
    (case k_Block_init => k_is)
    (case t_Block_init => k_is)
    (case n_Block_init => k_is)
    (case a_Primitive_init => k_is)
    (case l_Primitive_init => k_is)
    (case c_Primitive_init => k_is)
    (case k_Primitive_init => k_is)
    (case i_Primitive_init => k_is)
    (case cC_Primitive => k_is)
    (case lc_Primitive => k_is)
    (case hv_Primitive => rfl)
    (case hf_Primitive => rfl)
    (case lcc_Primitive => k_is)
    (case sub_Primitive => k_is)
    (case zS => k_is)
    (case tp => k_is)
    (case ht => rfl)
    (case a_Primitive_str => k_is)
    (case l_Primitive_str => k_is)
    (case c_Primitive_str => k_is)
    (case k_Primitive_str => k_is)
    (case i_Primitive_str => k_is)
    (case q_Primitive_parse => k_is)
    (case a_Primitive_parse => k_is)
    (case l_Primitive_parse => k_is)
    (case c_Primitive_parse => k_is)
    (case k_Primitive_parse => k_is)
    (case n_Primitive_parse => k_is)
    (case rd_Primitive => k_is)
    (case rg_Primitive => k_is)
    (case a_BlockError => k_is)
    (case eb_BlockError => k_is)
    (case ed_BlockError => k_is)
    (case et_BlockError => k_is)
    (case a_InvalidText => k_is)
    (case xL_InvalidText => k_is)
    (case sa_InvalidText => k_is)
    (case exC_InvalidText => k_is)
    (case tyC_InvalidText => k_is)
    (case kC_InvalidText => k_is)
    (case ga_InvalidText => k_is)
    (case gg_InvalidText => k_is)
    (case hd_InvalidText => k_is)
    (case ic_InvalidText => k_is)
    (case io_InvalidText => k_is)
    (case cd_InvalidText => k_is)
    (case sv_InvalidText => k_is)
    (case sb_InvalidText => k_is)
    (case ocg => k_is)
    (case oct => k_is)
    (case a_InvalidText_init => k_is)
    (case l_InvalidText_init => k_is)
    (case c_InvalidText_init => k_is)
    (case k_InvalidText_init => k_is)
    (case t_InvalidText_init => k_is)
    (case cb_InvalidText => k_is)
    (case no_InvalidText_row => k_is)
#print axioms PySem.Challenge.cw_stepblocks_k02_texts_that_are_no_primiti_holds
